import PyProof.Rows.All
import Wide.All
import OpenK.AllK
import Wide.FinOn
import HandS.ForMost
import HandS.Flow
import HandS.Deep
import HandS.Conv
import HandS.DictTup
import HandS.TupSets
import HandS.IsInst
import HandS.More
import HandS.Evl
import HandS.SetFor
import KE.OsSetLaws
import HandS.Flt
import HandS.Walk
import KE.GoesEnum
import KE.SortData
import HandS.TupAny
import HandS.TryOnly
import HandS.Iter
import HandS.SetKeys
import PyProof.DictMoreH
import HandS.ListItems
import PyProof.ListNew
import PyProof.ZipIter
import KE.KDictZip
import KE.KTurns
import HandS.ForDict
import PyProof.ReprRoads
import PySem.Challenge.RW_solvedbothsides_k12_whole_same_in_all_ta
set_option Elab.async false
/-! K12a: the closing of things and entries, as functions; what it tells. Plain Lean. -/
namespace K12
abbrev T3 := Nat × Nat × Nat
inductive W where | wi | be | ah
deriving DecidableEq
def pk : W → T3 → Nat | .wi, r => r.1 | .be, r => r.1 | .ah, r => r.2.1
def qk : W → T3 → Nat | .wi, r => r.2.1 | .be, r => r.2.2 | .ah, r => r.2.2
def rk : W → T3 → Nat | .wi, r => r.2.2 | .be, r => r.2.1 | .ah, r => r.1
def mkRow : W → Nat → Nat → Nat → T3
  | .wi, a, b, t => (a, b, t) | .be, a, b, t => (a, t, b) | .ah, a, b, t => (t, a, b)
theorem mkRow_pqr (w : W) (r : T3) : mkRow w (pk w r) (qk w r) (rk w r) = r := by cases w <;> rfl
@[simp] theorem pk_mk (w a b t) : pk w (mkRow w a b t) = a := by cases w <;> rfl
@[simp] theorem qk_mk (w a b t) : qk w (mkRow w a b t) = b := by cases w <;> rfl
@[simp] theorem rk_mk (w a b t) : rk w (mkRow w a b t) = t := by cases w <;> rfl
theorem row_ext (w : W) {r r' : T3} (h1 : pk w r = pk w r') (h2 : qk w r = qk w r') (h3 : rk w r = rk w r') : r = r' := by
  rw [← mkRow_pqr w r, ← mkRow_pqr w r', h1, h2, h3]

/-! ### forests -/
def Forest (e : List Nat) : Prop := ∀ i, (h : i < e.length) → e[i] ≤ i
def up (e : List Nat) (i : Nat) : Nat := e.getD i i
theorem up_le {e : List Nat} (F : Forest e) (i : Nat) : up e i ≤ i := by
  unfold up
  by_cases h : i < e.length
  · have := F i h
    simp [List.getD, List.getElem?_eq_getElem h]; exact this
  · simp [List.getD, List.getElem?_eq_none (Nat.le_of_not_lt h)]
def root (e : List Nat) (i : Nat) : Nat := if h : up e i < i then root e (up e i) else i
termination_by i
theorem root_lt {e : List Nat} {i : Nat} (h : up e i < i) : root e i = root e (up e i) := by
  rw [root]; rw [dif_pos h]
theorem root_ge {e : List Nat} {i : Nat} (h : ¬ up e i < i) : root e i = i := by
  rw [root]; rw [dif_neg h]
theorem root_self {e : List Nat} {i : Nat} (h : up e i = i) : root e i = i := root_ge (by omega)
theorem root_le {e : List Nat} : ∀ i, root e i ≤ i := by
  intro i
  induction i using Nat.strongRecOn with
  | ind i ih =>
    by_cases h : up e i < i
    · rw [root_lt h]; exact Nat.le_trans (ih _ h) (Nat.le_of_lt h)
    · rw [root_ge h]; exact Nat.le_refl _
theorem up_root {e : List Nat} (F : Forest e) : ∀ i, up e (root e i) = root e i := by
  intro i
  induction i using Nat.strongRecOn with
  | ind i ih =>
    by_cases h : up e i < i
    · rw [root_lt h]; exact ih _ h
    · rw [root_ge h]; have := up_le F i; omega
theorem root_root {e : List Nat} (F : Forest e) (i : Nat) : root e (root e i) = root e i := root_self (up_root F i)
theorem root_up {e : List Nat} (F : Forest e) (i : Nat) : root e (up e i) = root e i := by
  by_cases h : up e i < i
  · rw [root_lt h]
  · have := up_le F i
    have e1 : up e i = i := by omega
    rw [e1]
theorem root_iff {e : List Nat} (F : Forest e) (i : Nat) : root e i = i ↔ up e i = i := by
  constructor
  · intro h; have := up_root F i; rw [h] at this; exact this
  · exact root_self
/-- what the elders keep, the roots keep -/
theorem root_keeps {α : Type} {e : List Nat} (φ : Nat → α) (h : ∀ i, φ (up e i) = φ i) : ∀ i, φ (root e i) = φ i := by
  intro i
  induction i using Nat.strongRecOn with
  | ind i ih =>
    by_cases hl : up e i < i
    · rw [root_lt hl, ih _ hl, h]
    · rw [root_ge hl]

/-! ### join -/
def joinE (e : List Nat) (a b : Nat) : List Nat := e.set (max (root e a) (root e b)) (min (root e a) (root e b))
def joinB (e : List Nat) (a b : Nat) : Bool := decide (min (root e a) (root e b) < max (root e a) (root e b))
theorem joinE_len (e : List Nat) (a b : Nat) : (joinE e a b).length = e.length := by simp [joinE]
theorem up_set {e : List Nat} {hi lo i : Nat} (h : hi < e.length) : up (e.set hi lo) i = if i = hi then lo else up e i := by
  unfold up
  by_cases e1 : i = hi
  · subst e1; simp [List.getD, h]
  · rw [if_neg e1]
    simp [List.getD, List.getElem?_set, Ne.symm e1]
theorem joinE_forest {e : List Nat} (F : Forest e) (a b : Nat) : Forest (joinE e a b) := by
  intro i h
  simp only [joinE, List.getElem_set]
  split
  · omega
  · exact F i _
theorem joinB_false {e : List Nat} {a b : Nat} : joinB e a b = false ↔ root e a = root e b := by
  simp only [joinB, decide_eq_false_iff_not]; omega
theorem joinE_same {e : List Nat} (F : Forest e) {a b : Nat} (h : root e a = root e b) : joinE e a b = e := by
  unfold joinE
  have e1 : max (root e a) (root e b) = root e a := by omega
  have e2 : min (root e a) (root e b) = root e a := by omega
  rw [e1, e2]
  by_cases hl : root e a < e.length
  · have h1 : up e (root e a) = root e a := up_root F a
    have h2 : e[root e a] = root e a := by
      simpa [up, List.getD, List.getElem?_eq_getElem hl] using h1
    apply List.ext_getElem
    · simp
    · intro i h3 h4
      simp only [List.getElem_set]
      split
      · rename_i h5; subst h5; exact h2.symm
      · rfl
  · exact List.set_eq_of_length_le (Nat.le_of_not_lt hl)
theorem root_lt_len {e : List Nat} {a : Nat} (h : a < e.length) : root e a < e.length := Nat.lt_of_le_of_lt (root_le a) h
/-- the roots behind a join -/
theorem root_join {e : List Nat} (F : Forest e) {a b : Nat} (ha : a < e.length) (hb : b < e.length) (i : Nat) :
    root (joinE e a b) i = if root e i = max (root e a) (root e b) then min (root e a) (root e b) else root e i := by
  have hh : max (root e a) (root e b) < e.length := by have := root_lt_len ha; have := root_lt_len hb; omega
  have hself : up e (max (root e a) (root e b)) = max (root e a) (root e b) := by
    by_cases h : root e a ≤ root e b
    · rw [Nat.max_eq_right h]; exact up_root F b
    · rw [Nat.max_eq_left (by omega)]; exact up_root F a
  have lself : up e (min (root e a) (root e b)) = min (root e a) (root e b) := by
    by_cases h : root e a ≤ root e b
    · rw [Nat.min_eq_left h]; exact up_root F a
    · rw [Nat.min_eq_right (by omega)]; exact up_root F b
  by_cases hs : root e a = root e b
  · rw [joinE_same F hs]
    split <;> omega
  have hlt : min (root e a) (root e b) < max (root e a) (root e b) := by omega
  induction i using Nat.strongRecOn with
  | ind i ih =>
    have eu : up (joinE e a b) i = if i = max (root e a) (root e b) then min (root e a) (root e b) else up e i := up_set hh
    by_cases e1 : i = max (root e a) (root e b)
    · rw [if_pos e1] at eu
      have r1 : root e i = max (root e a) (root e b) := by rw [root_self]; exact e1; rw [e1]; exact hself
      rw [if_pos r1]
      rw [root_lt (by rw [eu, e1]; exact hlt), eu]
      have := ih (min (root e a) (root e b)) (by omega)
      rw [this, root_self lself]
      split
      · rename_i h; omega
      · rfl
    · rw [if_neg e1] at eu
      by_cases hu : up e i < i
      · rw [root_lt (e := joinE e a b) (by rw [eu]; exact hu), eu, ih _ hu, ← root_lt hu]
      · rw [root_ge (e := joinE e a b) (by rw [eu]; exact hu), root_ge hu, if_neg e1]
/-- a join keeps what identifies the two -/
theorem join_keeps {α : Type} {e : List Nat} (φ : Nat → α) (h : ∀ i, φ (up e i) = φ i) {a b : Nat} (hl : max (root e a) (root e b) < e.length) (hab : φ a = φ b) : ∀ i, φ (up (joinE e a b) i) = φ i := by
  intro i
  have k := root_keeps φ h
  unfold joinE
  rw [up_set hl]
  split
  · rename_i e1
    subst e1
    have h1 : φ (min (root e a) (root e b)) = φ a := by
      by_cases q : root e a ≤ root e b
      · rw [Nat.min_eq_left q]; exact k a
      · rw [Nat.min_eq_right (by omega), k b, hab]
    have h2 : φ (max (root e a) (root e b)) = φ a := by
      by_cases q : root e a ≤ root e b
      · rw [Nat.max_eq_right q, k b, hab]
      · rw [Nat.max_eq_left (by omega)]; exact k a
    rw [h1, h2]
  · exact h i
def nRoots (e : List Nat) : Nat := (List.range e.length).countP fun i => up e i == i
theorem countP_lt {α : Type} (p q : α → Bool) : ∀ (l : List α) (x : α), x ∈ l → p x = false → q x = true → (∀ y ∈ l, p y = true → q y = true) → l.countP p < l.countP q
  | y :: l, x, hx, hp, hq, h => by
    have hle : l.countP p ≤ l.countP q := List.countP_mono_left (fun z hz => h z (List.mem_cons_of_mem _ hz))
    rw [List.countP_cons, List.countP_cons]
    rcases List.mem_cons.mp hx with rfl | hx'
    · simp [hp, hq]; omega
    · have := countP_lt p q l x hx' hp hq (fun z hz => h z (List.mem_cons_of_mem _ hz))
      have h2 := h y List.mem_cons_self
      by_cases e1 : p y = true
      · simp [e1, h2 e1]; omega
      · simp [e1]; split <;> omega
theorem nRoots_join {e : List Nat} (F : Forest e) {a b : Nat} (ha : a < e.length) (hb : b < e.length) (h : joinB e a b = true) : nRoots (joinE e a b) < nRoots e := by
  have hlt : min (root e a) (root e b) < max (root e a) (root e b) := by simpa [joinB] using h
  have hh : max (root e a) (root e b) < e.length := by have := root_lt_len ha; have := root_lt_len hb; omega
  unfold nRoots
  rw [joinE_len]
  have hup : ∀ i, up (joinE e a b) i = if i = max (root e a) (root e b) then min (root e a) (root e b) else up e i := fun i => up_set hh
  refine countP_lt _ _ _ (max (root e a) (root e b)) (List.mem_range.mpr hh) ?_ ?_ ?_
  · simp only [hup]; simp; omega
  · have : up e (max (root e a) (root e b)) = max (root e a) (root e b) := by
      by_cases h : root e a ≤ root e b
      · rw [Nat.max_eq_right h]; exact up_root F b
      · rw [Nat.max_eq_left (by omega)]; exact up_root F a
    simp [this]
  · intro y _ hy
    simp only [hup] at hy
    split at hy
    · simp at hy; omega
    · exact hy
theorem nRoots_le (e : List Nat) : nRoots e ≤ e.length := by
  have := List.countP_le_length (p := fun i => up e i == i) (l := List.range e.length)
  simpa [nRoots] using this
end K12
set_option linter.all false
/-! K12b: passes and settling. -/
namespace K12
/-- the state of a pass: elders, what is found, whether anything was joined -/
structure J where
  e : List Nat
  fd : List ((Nat × Nat) × Nat)
  nw : Bool
def jStep (w : W) (s : J) (r : T3) : J :=
  match s.fd.lookup (root s.e (pk w r), root s.e (qk w r)) with
  | none => { s with fd := s.fd ++ [((root s.e (pk w r), root s.e (qk w r)), rk w r)] }
  | some v => { s with e := joinE s.e v (rk w r), nw := s.nw || joinB s.e v (rk w r) }
def pass (w : W) (rows : List T3) (e : List Nat) : J := rows.foldl (jStep w) ⟨e, [], false⟩
def Rows (n : Nat) (rows : List T3) : Prop := ∀ r ∈ rows, r.1 < n ∧ r.2.1 < n ∧ r.2.2 < n
theorem Rows.lt {n : Nat} {rows : List T3} (h : Rows n rows) {r : T3} (hr : r ∈ rows) (w : W) : pk w r < n ∧ qk w r < n ∧ rk w r < n := by
  obtain ⟨h1, h2, h3⟩ := h r hr
  cases w <;> simp [pk, qk, rk, *]
theorem lookup_mem {α β : Type} [BEq α] [LawfulBEq α] : ∀ {l : List (α × β)} {k : α} {v : β}, l.lookup k = some v → (k, v) ∈ l
  | (a, b) :: l, k, v, h => by
    rw [List.lookup_cons] at h
    cases q : k == a with
    | true => rw [q] at h; simp at h; have := eq_of_beq q; subst this; subst h; exact List.mem_cons_self
    | false => rw [q] at h; exact List.mem_cons_of_mem _ (lookup_mem h)
/-- what a pass keeps: a forest, its length, the found values below the length, and fewer roots if anything was joined -/
structure JInv (w : W) (e0 : List Nat) (s : J) : Prop where
  F : Forest s.e
  len : s.e.length = e0.length
  fd : ∀ k v, (k, v) ∈ s.fd → v < e0.length
  rt : nRoots s.e ≤ nRoots e0
  new : s.nw = true → nRoots s.e < nRoots e0
  old : s.nw = false → s.e = e0
theorem jStep_inv {w : W} {e0 : List Nat} {s : J} {r : T3} (h : JInv w e0 s) (hr : rk w r < e0.length) : JInv w e0 (jStep w s r) := by
  unfold jStep
  split
  · refine ⟨h.F, h.len, ?_, h.rt, h.new, h.old⟩
    intro k v hm
    rcases List.mem_append.mp hm with hm | hm
    · exact h.fd k v hm
    · simp at hm; omega
  · rename_i v hv
    have hvl : v < e0.length := h.fd _ v (lookup_mem hv)
    refine ⟨joinE_forest h.F _ _, by simp [joinE_len, h.len], h.fd, ?_, ?_, ?_⟩
    · show nRoots (joinE s.e v (rk w r)) ≤ _
      cases q : joinB s.e v (rk w r) with
      | true =>
        have := nRoots_join h.F (by rw [h.len]; exact hvl) (by rw [h.len]; exact hr) q
        have := h.rt; omega
      | false => rw [joinE_same h.F (joinB_false.mp q)]; exact h.rt
    · intro hn
      show nRoots (joinE s.e v (rk w r)) < _
      cases q : joinB s.e v (rk w r) with
      | true =>
        have := nRoots_join h.F (by rw [h.len]; exact hvl) (by rw [h.len]; exact hr) q
        have := h.rt; omega
      | false =>
        rw [joinE_same h.F (joinB_false.mp q)]
        simp [q] at hn
        exact h.new hn
    · intro hn
      show joinE s.e v (rk w r) = e0
      simp at hn
      rw [joinE_same h.F (joinB_false.mp hn.2)]
      exact h.old hn.1
theorem foldl_inv {α β : Type} (I : β → Prop) (f : β → α → β) : ∀ (l : List α) (s : β), I s → (∀ s, I s → ∀ x ∈ l, I (f s x)) → I (l.foldl f s)
  | [], _, h, _ => h
  | x :: l, s, h, k => foldl_inv I f l (f s x) (k s h x List.mem_cons_self) fun s hs y hy => k s hs y (List.mem_cons_of_mem _ hy)
theorem pass_inv {w : W} {rows : List T3} {e : List Nat} (F : Forest e) (R : Rows e.length rows) : JInv w e (pass w rows e) := by
  refine foldl_inv (JInv w e) _ rows _ ⟨F, rfl, ?_, Nat.le_refl _, ?_, fun _ => rfl⟩ fun s hs r hr => jStep_inv hs (R.lt hr w).2.2
  · intro k v h; cases h
  · intro h; cases h
/-- soundness of a pass -/
structure Snd {α : Type} (φ : Nat → α) (e : List Nat) : Prop where
  up : ∀ i, φ (up e i) = φ i
def Resp {α : Type} (φ : Nat → α) (rows : List T3) : Prop := ∀ w, ∀ r ∈ rows, ∀ r' ∈ rows, φ (pk w r) = φ (pk w r') → φ (qk w r) = φ (qk w r') → φ (rk w r) = φ (rk w r')
structure JSnd {α : Type} (φ : Nat → α) (w : W) (n : Nat) (rows : List T3) (s : J) : Prop where
  F : Forest s.e
  len : s.e.length = n
  fdl : ∀ k v, (k, v) ∈ s.fd → v < n
  up : ∀ i, φ (up s.e i) = φ i
  fd : ∀ k v, (k, v) ∈ s.fd → ∃ r ∈ rows, φ k.1 = φ (pk w r) ∧ φ k.2 = φ (qk w r) ∧ v = rk w r
theorem jStep_snd {α : Type} {φ : Nat → α} {w : W} {n : Nat} {rows : List T3} (Rp : Resp φ rows) {s : J} {r : T3} (h : JSnd φ w n rows s) (hm : r ∈ rows) (hr : rk w r < n) : JSnd φ w n rows (jStep w s r) := by
  have kp := root_keeps φ h.up
  unfold jStep
  split
  · refine ⟨h.F, h.len, ?_, h.up, ?_⟩
    · intro k v q
      rcases List.mem_append.mp q with q | q
      · exact h.fdl k v q
      · simp at q; omega
    · intro k v q
      rcases List.mem_append.mp q with q | q
      · exact h.fd k v q
      · simp at q
        obtain ⟨rfl, rfl⟩ := q
        exact ⟨r, hm, kp _, kp _, rfl⟩
  · rename_i v hv
    have hvl := h.fdl _ v (lookup_mem hv)
    refine ⟨joinE_forest h.F _ _, by simp [joinE_len, h.len], h.fdl, ?_, h.fd⟩
    obtain ⟨r', hr', e1, e2, e3⟩ := h.fd _ v (lookup_mem hv)
    refine join_keeps φ h.up ?_ ?_
    · have := root_lt_len (e := s.e) (a := v) (by rw [h.len]; exact hvl)
      have := root_lt_len (e := s.e) (a := rk w r) (by rw [h.len]; exact hr)
      omega
    · rw [e3]
      exact Rp w r' hr' r hm (by rw [← e1]; exact kp _) (by rw [← e2]; exact kp _)
theorem pass_snd {α : Type} {φ : Nat → α} {w : W} {rows : List T3} {e : List Nat} (Rp : Resp φ rows) (F : Forest e) (R : Rows e.length rows) (h : ∀ i, φ (up e i) = φ i) : ∀ i, φ (up (pass w rows e).e i) = φ i := by
  refine (foldl_inv (JSnd φ w e.length rows) _ rows _ ⟨F, rfl, ?_, h, ?_⟩ fun s hs r hr => jStep_snd Rp hs hr (R.lt hr w).2.2).up
  · intro k v h; cases h
  · intro k v h; cases h
/-- a pass that joins nothing tells that the rows are a function by these places -/
structure JQuiet (w : W) (e0 : List Nat) (done : List T3) (s : J) : Prop where
  e : s.nw = false → s.e = e0
  fd : s.nw = false → ∀ r ∈ done, ∃ v, s.fd.lookup (root e0 (pk w r), root e0 (qk w r)) = some v ∧ root e0 v = root e0 (rk w r)
theorem lookup_append_some {α β : Type} [BEq α] [LawfulBEq α] {l l' : List (α × β)} {k : α} {v : β} (h : l.lookup k = some v) : (l ++ l').lookup k = some v := by
  induction l with
  | nil => simp at h
  | cons p l ih =>
    obtain ⟨a, b⟩ := p
    rw [List.cons_append, List.lookup_cons]
    rw [List.lookup_cons] at h
    cases q : k == a with
    | true => rw [q] at h; exact h
    | false => rw [q] at h; exact ih h
theorem lookup_append_none {α β : Type} [BEq α] [LawfulBEq α] {l l' : List (α × β)} {k : α} (h : l.lookup k = none) : (l ++ l').lookup k = l'.lookup k := by
  induction l with
  | nil => rfl
  | cons p l ih =>
    obtain ⟨a, b⟩ := p
    rw [List.cons_append, List.lookup_cons]
    rw [List.lookup_cons] at h
    cases q : k == a with
    | true => rw [q] at h; simp at h
    | false => rw [q] at h; exact ih h
theorem jStep_quiet {w : W} {e0 : List Nat} {done : List T3} {s : J} {r : T3} (F : Forest e0) (h : JQuiet w e0 done s) : JQuiet w e0 (done ++ [r]) (jStep w s r) := by
  unfold jStep
  split
  · rename_i hn
    refine ⟨h.e, fun q r' hr' => ?_⟩
    have he := h.e q
    rw [he] at hn ⊢
    rcases List.mem_append.mp hr' with hr' | hr'
    · obtain ⟨v, h1, h2⟩ := h.fd q r' hr'
      exact ⟨v, lookup_append_some h1, h2⟩
    · simp at hr'; subst hr'
      refine ⟨rk w r', ?_, rfl⟩
      show List.lookup _ (s.fd ++ _) = _
      rw [lookup_append_none hn]
      simp
  · rename_i v hv
    refine ⟨fun q => ?_, fun q r' hr' => ?_⟩
    · simp at q
      show joinE s.e v (rk w r) = e0
      have he := h.e q.1
      rw [he] at q ⊢
      exact joinE_same F (joinB_false.mp q.2)
    · simp at q
      have he := h.e q.1
      rcases List.mem_append.mp hr' with hr' | hr'
      · exact h.fd q.1 r' hr'
      · simp at hr'; subst hr'
        rw [he] at hv q
        exact ⟨v, hv, joinB_false.mp q.2⟩
theorem pass_quiet {w : W} {rows : List T3} {e : List Nat} (F : Forest e) (h : (pass w rows e).nw = false) :
    ∀ r ∈ rows, ∀ r' ∈ rows, root e (pk w r) = root e (pk w r') → root e (qk w r) = root e (qk w r') → root e (rk w r) = root e (rk w r') := by
  have key : ∀ (todo done : List T3) (s : J), JQuiet w e done s → JQuiet w e (done ++ todo) (todo.foldl (jStep w) s) := by
    intro todo
    induction todo with
    | nil => intro done s h; simpa using h
    | cons r todo ih =>
      intro done s h
      have := ih (done ++ [r]) _ (jStep_quiet F h (r := r))
      simpa using this
  have k := key rows [] ⟨e, [], false⟩ ⟨fun _ => rfl, fun _ r hr => by cases hr⟩
  simp at k
  intro r hr r' hr' e1 e2
  obtain ⟨v, h1, h2⟩ := k.fd h r hr
  obtain ⟨v', h1', h2'⟩ := k.fd h r' hr'
  rw [e1, e2] at h1
  rw [h1] at h1'
  cases h1'
  rw [← h2, ← h2']

/-! ### rooted rows, sorted -/
def r3 (e : List Nat) (r : T3) : T3 := (root e r.1, root e r.2.1, root e r.2.2)
@[simp] theorem pk_r3 (w e r) : pk w (r3 e r) = root e (pk w r) := by cases w <;> rfl
@[simp] theorem qk_r3 (w e r) : qk w (r3 e r) = root e (qk w r) := by cases w <;> rfl
@[simp] theorem rk_r3 (w e r) : rk w (r3 e r) = root e (rk w r) := by cases w <;> rfl
def lt3 (a b : T3) : Prop := a.1 < b.1 ∨ (a.1 = b.1 ∧ (a.2.1 < b.2.1 ∨ (a.2.1 = b.2.1 ∧ a.2.2 < b.2.2)))
instance (a b : T3) : Decidable (lt3 a b) := by unfold lt3; infer_instance
theorem lt3_trans {a b c : T3} (h : lt3 a b) (k : lt3 b c) : lt3 a c := by unfold lt3 at *; omega
theorem lt3_irr (a : T3) : ¬ lt3 a a := by unfold lt3; omega
theorem lt3_tri (a b : T3) : lt3 a b ∨ a = b ∨ lt3 b a := by
  unfold lt3
  obtain ⟨a1, a2, a3⟩ := a
  obtain ⟨b1, b2, b3⟩ := b
  simp only [Prod.mk.injEq]
  omega
def ins3 (a : T3) : List T3 → List T3
  | [] => [a]
  | b :: l => if lt3 a b then a :: b :: l else if a = b then b :: l else b :: ins3 a l
def srt3 (l : List T3) : List T3 := l.foldr ins3 []
def Asc (l : List T3) : Prop := l.Pairwise lt3
theorem mem_ins3 {a x : T3} : ∀ {l : List T3}, x ∈ ins3 a l ↔ x = a ∨ x ∈ l
  | [] => by simp [ins3]
  | b :: l => by
    unfold ins3
    split
    · simp
    · split
      · rename_i h; subst h; simp
      · simp [mem_ins3 (l := l)]
        constructor
        · rintro (h | h | h) <;> simp [h]
        · rintro (h | h | h) <;> simp [h]
theorem asc_ins3 {a : T3} : ∀ {l : List T3}, Asc l → Asc (ins3 a l)
  | [], _ => by simp [ins3, Asc]
  | b :: l, h => by
    unfold ins3
    have h' := List.pairwise_cons.mp h
    split
    · rename_i hl
      refine List.pairwise_cons.mpr ⟨fun c hc => ?_, h⟩
      rcases List.mem_cons.mp hc with rfl | hc
      · exact hl
      · exact lt3_trans hl (h'.1 c hc)
    · split
      · exact h
      · rename_i h1 h2
        refine List.pairwise_cons.mpr ⟨fun c hc => ?_, asc_ins3 h'.2⟩
        rcases mem_ins3.mp hc with rfl | hc
        · rcases lt3_tri c b with q | q | q
          · exact absurd q h1
          · exact absurd q h2
          · exact q
        · exact h'.1 c hc
theorem mem_srt3 {x : T3} : ∀ {l : List T3}, x ∈ srt3 l ↔ x ∈ l
  | [] => by simp [srt3]
  | a :: l => by
    show x ∈ ins3 a (srt3 l) ↔ _
    rw [mem_ins3, mem_srt3 (l := l)]
    simp
theorem asc_srt3 : ∀ (l : List T3), Asc (srt3 l)
  | [] => List.Pairwise.nil
  | a :: l => asc_ins3 (asc_srt3 l)
theorem asc_one : ∀ {l l' : List T3}, Asc l → Asc l' → (∀ x, x ∈ l ↔ x ∈ l') → l = l'
  | [], [], _, _, _ => rfl
  | [], b :: l', _, _, h => by have := (h b).mpr List.mem_cons_self; cases this
  | a :: l, [], _, _, h => by have := (h a).mp List.mem_cons_self; cases this
  | a :: l, b :: l', h1, h2, h => by
    have p1 := List.pairwise_cons.mp h1
    have p2 := List.pairwise_cons.mp h2
    have e1 : a = b := by
      have m1 := (h a).mp List.mem_cons_self
      have m2 := (h b).mpr List.mem_cons_self
      rcases List.mem_cons.mp m1 with e | m1
      · exact e
      · rcases List.mem_cons.mp m2 with e | m2
        · exact e.symm
        · exact absurd (lt3_trans (p1.1 b m2) (p2.1 a m1)) (lt3_irr _)
    subst e1
    have e2 : l = l' := asc_one p1.2 p2.2 fun x => by
      constructor
      · intro hx
        rcases List.mem_cons.mp ((h x).mp (List.mem_cons_of_mem _ hx)) with e | m
        · subst e; exact absurd (p1.1 _ hx) (lt3_irr _)
        · exact m
      · intro hx
        rcases List.mem_cons.mp ((h x).mpr (List.mem_cons_of_mem _ hx)) with e | m
        · subst e; exact absurd (p2.1 _ hx) (lt3_irr _)
        · exact m
    rw [e2]
def rooted (e : List Nat) (rows : List T3) : List T3 := srt3 (rows.map (r3 e))
theorem mem_rooted {e : List Nat} {rows : List T3} {x : T3} : x ∈ rooted e rows ↔ ∃ r ∈ rows, r3 e r = x := by
  unfold rooted; rw [mem_srt3, List.mem_map]

/-! ### settling -/
/-- the three passes one behind the other -/
def pass3 (rows : List T3) (e : List Nat) : List Nat × Bool :=
  let j1 := pass .wi rows e
  let j2 := pass .be rows j1.e
  let j3 := pass .ah rows j2.e
  (j3.e, j1.nw || (j2.nw || j3.nw))
def settle : Nat → List Nat → List T3 → List Nat × List T3
  | 0, e, rows => (e, rooted e rows)
  | k + 1, e, rows => if (pass3 rows e).2 = true then settle k (pass3 rows e).1 (rooted (pass3 rows e).1 rows) else ((pass3 rows e).1, rooted (pass3 rows e).1 rows)
structure P3 (e : List Nat) (rows : List T3) : Prop where
  F : Forest (pass3 rows e).1
  len : (pass3 rows e).1.length = e.length
  yes : (pass3 rows e).2 = true → nRoots (pass3 rows e).1 < nRoots e
  no : (pass3 rows e).2 = false → (pass3 rows e).1 = e ∧ ∀ w, ∀ r ∈ rows, ∀ r' ∈ rows, root e (pk w r) = root e (pk w r') → root e (qk w r) = root e (qk w r') → root e (rk w r) = root e (rk w r')
theorem p3_of {e : List Nat} {rows : List T3} (F : Forest e) (R : Rows e.length rows) : P3 e rows := by
  have i1 := pass_inv (w := .wi) F R
  have i2 := pass_inv (w := .be) (rows := rows) (e := (pass .wi rows e).e) i1.F (by rw [i1.len]; exact R)
  have i3 := pass_inv (w := .ah) (rows := rows) (e := (pass .be rows (pass .wi rows e).e).e) i2.F (by rw [i2.len, i1.len]; exact R)
  refine ⟨i3.F, by show List.length _ = _; rw [show (pass3 rows e).1 = (pass .ah rows (pass .be rows (pass .wi rows e).e).e).e from rfl, i3.len, i2.len, i1.len], ?_, ?_⟩
  · intro h
    have h' : ((pass .wi rows e).nw || ((pass .be rows (pass .wi rows e).e).nw || (pass .ah rows (pass .be rows (pass .wi rows e).e).e).nw)) = true := h
    show nRoots (pass .ah rows (pass .be rows (pass .wi rows e).e).e).e < _
    have a1 := i1.rt; have a2 := i2.rt; have a3 := i3.rt
    rcases Bool.or_eq_true _ _ |>.mp h' with q | q
    · have := i1.new q; omega
    · rcases Bool.or_eq_true _ _ |>.mp q with q | q
      · have := i2.new q; omega
      · have := i3.new q; omega
  · intro h
    have h' : ((pass .wi rows e).nw || ((pass .be rows (pass .wi rows e).e).nw || (pass .ah rows (pass .be rows (pass .wi rows e).e).e).nw)) = false := h
    rw [Bool.or_eq_false_iff, Bool.or_eq_false_iff] at h'
    obtain ⟨q1, q2, q3⟩ := h'
    have e1 := i1.old q1
    have e2 := i2.old q2
    have e3 := i3.old q3
    rw [e1] at e2 q2 e3 q3
    rw [e2] at e3 q3
    refine ⟨?_, ?_⟩
    · show (pass .ah rows (pass .be rows (pass .wi rows e).e).e).e = e
      rw [e1, e2, e3]
    · intro w
      cases w
      · exact pass_quiet F q1
      · exact pass_quiet F q2
      · exact pass_quiet F q3
theorem pass3_snd {α : Type} {φ : Nat → α} {rows : List T3} {e : List Nat} (Rp : Resp φ rows) (F : Forest e) (R : Rows e.length rows) (h : ∀ i, φ (up e i) = φ i) : ∀ i, φ (up (pass3 rows e).1 i) = φ i := by
  have i1 := pass_inv (w := .wi) F R
  have i2 := pass_inv (w := .be) (rows := rows) (e := (pass .wi rows e).e) i1.F (by rw [i1.len]; exact R)
  exact pass_snd Rp i2.F (by rw [i2.len, i1.len]; exact R) (pass_snd Rp i1.F (by rw [i1.len]; exact R) (pass_snd Rp F R h))
theorem rooted_rows {e : List Nat} {rows : List T3} {n : Nat} (R : Rows n rows) : Rows n (rooted e rows) := by
  intro x hx
  obtain ⟨r, hr, rfl⟩ := mem_rooted.mp hx
  obtain ⟨h1, h2, h3⟩ := R r hr
  have := root_le (e := e) r.1; have := root_le (e := e) r.2.1; have := root_le (e := e) r.2.2
  refine ⟨?_, ?_, ?_⟩ <;> simp only [r3] <;> omega
/-- what is closed -/
structure Good (e : List Nat) (rows : List T3) : Prop where
  F : Forest e
  R : Rows e.length rows
  rt : ∀ r ∈ rows, r3 e r = r
  fn : ∀ w, ∀ r ∈ rows, ∀ r' ∈ rows, pk w r = pk w r' → qk w r = qk w r' → r = r'
  nd : rows.Nodup
theorem asc_nodup {l : List T3} (h : Asc l) : l.Nodup := h.imp fun {a b} h e => by subst e; exact lt3_irr _ h
theorem settle_good : ∀ (k : Nat) (e : List Nat) (rows : List T3), Forest e → Rows e.length rows → nRoots e < k → Good (settle k e rows).1 (settle k e rows).2
  | 0, e, rows, F, R, h => by omega
  | k + 1, e, rows, F, R, h => by
    have p := p3_of F R
    unfold settle
    split
    · rename_i hy
      have := p.yes hy
      exact settle_good k _ _ p.F (by rw [p.len]; exact rooted_rows R) (by omega)
    · rename_i hn
      have hn' : (pass3 rows e).2 = false := by simpa using hn
      obtain ⟨e1, e2⟩ := p.no hn'
      refine ⟨p.F, by rw [p.len]; exact rooted_rows R, ?_, ?_, asc_nodup (asc_srt3 _)⟩
      · intro r hr
        obtain ⟨r0, _, rfl⟩ := mem_rooted.mp hr
        simp [r3, root_root p.F]
      · intro w r hr r' hr' h1 h2
        simp only at hr hr'
        rw [e1] at hr hr'
        obtain ⟨r0, hm, rfl⟩ := mem_rooted.mp hr
        obtain ⟨r1, hm', rfl⟩ := mem_rooted.mp hr'
        simp only [pk_r3, qk_r3] at h1 h2
        exact row_ext w (by simpa using h1) (by simpa using h2) (by simpa using e2 w r0 hm r1 hm' h1 h2)
theorem settle_len : ∀ (k : Nat) (e : List Nat) (rows : List T3), Forest e → Rows e.length rows → (settle k e rows).1.length = e.length
  | 0, e, rows, F, R => rfl
  | k + 1, e, rows, F, R => by
    have p := p3_of F R
    unfold settle
    split
    · rw [settle_len k _ _ p.F (by rw [p.len]; exact rooted_rows R), p.len]
    · exact p.len
theorem settle_snd {α : Type} {φ : Nat → α} : ∀ (k : Nat) (e : List Nat) (rows : List T3), Forest e → Rows e.length rows → Resp φ rows → (∀ i, φ (up e i) = φ i) → ∀ i, φ (up (settle k e rows).1 i) = φ i
  | 0, e, rows, _, _, _, h => h
  | k + 1, e, rows, F, R, Rp, h => by
    have p := p3_of F R
    have h1 := pass3_snd Rp F R h
    unfold settle
    split
    · refine settle_snd k _ _ p.F (by rw [p.len]; exact rooted_rows R) ?_ h1
      have kp := root_keeps φ h1
      intro w r hr r' hr' q1 q2
      obtain ⟨r0, hm, rfl⟩ := mem_rooted.mp hr
      obtain ⟨r1, hm', rfl⟩ := mem_rooted.mp hr'
      simp only [pk_r3, qk_r3, rk_r3, kp] at *
      exact Rp w r0 hm r1 hm' q1 q2
    · exact h1
/-- finer and finer: later roots merge earlier ones -/
theorem settle_rows : ∀ (k : Nat) (e : List Nat) (rows : List T3), Forest e → Rows e.length rows → (∀ i, root (settle k e rows).1 (up e i) = root (settle k e rows).1 i) ∧ ∀ x, x ∈ (settle k e rows).2 ↔ ∃ r ∈ rows, r3 (settle k e rows).1 r = x
  | 0, e, rows, F, R => ⟨root_up F, fun x => mem_rooted⟩
  | k + 1, e, rows, F, R => by
    have p := p3_of F R
    -- a pass keeps the identifications of e
    have mono1 : ∀ w (e : List Nat), Forest e → Rows e.length rows → ∀ i, root (pass w rows e).e (up e i) = root (pass w rows e).e i := by
      intro w e F R
      have hi : (fun s : J => Forest s.e ∧ s.e.length = e.length ∧ (∀ k v, (k, v) ∈ s.fd → v < e.length) ∧ ∀ i, root s.e (up e i) = root s.e i) (pass w rows e) := by
        refine foldl_inv (fun s : J => Forest s.e ∧ s.e.length = e.length ∧ (∀ k v, (k, v) ∈ s.fd → v < e.length) ∧ ∀ i, root s.e (up e i) = root s.e i) _ rows _ ⟨F, rfl, (fun k v h => by cases h), root_up F⟩ ?_
        rintro s ⟨F1, l1, d1, h1⟩ r hr
        unfold jStep
        split
        · refine ⟨F1, l1, ?_, h1⟩
          intro k v hm
          rcases List.mem_append.mp hm with hm | hm
          · exact d1 k v hm
          · simp at hm; have := (R.lt hr w).2.2; omega
        · rename_i v hv
          have hvl : v < e.length := d1 _ v (lookup_mem hv)
          refine ⟨joinE_forest F1 _ _, by simp [joinE_len, l1], d1, fun i => ?_⟩
          have hr' := (R.lt hr w).2.2
          show root (joinE s.e v (rk w r)) _ = root (joinE s.e v (rk w r)) _
          rw [root_join F1 (by omega) (by omega), root_join F1 (by omega) (by omega), h1]
      exact hi.2.2.2
    have i1 := pass_inv (w := .wi) F R
    have R1 : Rows (pass .wi rows e).e.length rows := by rw [i1.len]; exact R
    have i2 := pass_inv (w := .be) i1.F R1
    have R2 : Rows (pass .be rows (pass .wi rows e).e).e.length rows := by rw [i2.len]; exact R1
    have i3 := pass_inv (w := .ah) i2.F R2
    have m1 := mono1 .wi e F R
    have m2 := mono1 .be _ i1.F R1
    have m3 := mono1 .ah _ i2.F R2
    have m : ∀ i, root (pass3 rows e).1 (up e i) = root (pass3 rows e).1 i := by
      intro i
      show root (pass .ah rows (pass .be rows (pass .wi rows e).e).e).e _ = root (pass .ah rows (pass .be rows (pass .wi rows e).e).e).e _
      have f3 := root_keeps (fun i => root (pass .ah rows (pass .be rows (pass .wi rows e).e).e).e i) m3
      have f2 := root_keeps (fun i => root (pass .be rows (pass .wi rows e).e).e i) m2
      have f1 := m1 i
      rw [← f3 (up e i), ← f3 i, ← f2 (up e i), ← f2 i, f1]
    unfold settle
    split
    · obtain ⟨q1, q2⟩ := settle_rows k (pass3 rows e).1 (rooted (pass3 rows e).1 rows) p.F (by rw [p.len]; exact rooted_rows R)
      have f := root_keeps (fun i => root (settle k (pass3 rows e).1 (rooted (pass3 rows e).1 rows)).1 i) q1
      refine ⟨fun i => ?_, fun x => ?_⟩
      · rw [← f (up e i), ← f i, m]
      · rw [q2]
        constructor
        · rintro ⟨r, hr, rfl⟩
          obtain ⟨r0, h0, rfl⟩ := mem_rooted.mp hr
          refine ⟨r0, h0, ?_⟩
          simp [r3, f]
        · rintro ⟨r, hr, rfl⟩
          refine ⟨r3 (pass3 rows e).1 r, mem_rooted.mpr ⟨r, hr, rfl⟩, ?_⟩
          simp [r3, f]
    · exact ⟨m, fun x => mem_rooted⟩

/-! ### the closing of names and entries -/
def closeOf (n : Nat) (entries : List T3) : List Nat × List T3 := settle (n + 1) (List.range n) entries
theorem range_forest (n : Nat) : Forest (List.range n) := by intro i h; simp
theorem up_range (n i : Nat) : up (List.range n) i = i := by
  unfold up
  by_cases h : i < n
  · simp [List.getD, h]
  · simp [List.getD, h]
theorem closeOf_good {n : Nat} {entries : List T3} (R : Rows n entries) : Good (closeOf n entries).1 (closeOf n entries).2 :=
  settle_good _ _ _ (range_forest n) (by simpa using R) (by have := nRoots_le (List.range n); simp at this; omega)
theorem closeOf_len {n : Nat} {entries : List T3} (R : Rows n entries) : (closeOf n entries).1.length = n := by
  unfold closeOf; rw [settle_len _ _ _ (range_forest n) (by simpa using R)]; simp
theorem closeOf_snd {α : Type} {φ : Nat → α} {n : Nat} {entries : List T3} (R : Rows n entries) (Rp : Resp φ entries) (i : Nat) : φ (root (closeOf n entries).1 i) = φ i :=
  root_keeps φ (settle_snd _ _ _ (range_forest n) (by simpa using R) Rp fun i => by rw [up_range]) i
theorem closeOf_rows {n : Nat} {entries : List T3} (R : Rows n entries) (x : T3) : x ∈ (closeOf n entries).2 ↔ ∃ r ∈ entries, r3 (closeOf n entries).1 r = x :=
  (settle_rows _ _ _ (range_forest n) (by simpa using R)).2 x
end K12
set_option linter.all false
/-! K12c: formulas, plain forms, the things that formulas tell. -/
namespace K12
inductive Fm where
  | nm (n : Nat)
  | ap (w : W) (a b : Fm)
deriving DecidableEq
def Fm.depth : Fm → Nat | .nm _ => 0 | .ap _ a b => max a.depth b.depth + 1
def Fm.size : Fm → Nat | .nm _ => 1 | .ap _ a b => 1 + a.size + b.size
def Fm.bel (n : Nat) : Fm → Prop | .nm k => k < n | .ap _ a b => a.bel n ∧ b.bel n
theorem Fm.bel_mono {n m : Nat} (h : n ≤ m) : ∀ {f : Fm}, f.bel n → f.bel m
  | .nm k, q => Nat.lt_of_lt_of_le q h
  | .ap _ _ _, q => ⟨Fm.bel_mono h q.1, Fm.bel_mono h q.2⟩
/-- Closing.told -/
def told (rows : List T3) (w : W) (a b : Nat) : Option Nat := (rows.find? fun r => decide (pk w r = a ∧ qk w r = b)).map (rk w)
/-- plain.entry_told -/
def entryTold (e : List Nat) (rows : List T3) (w : W) : Fm → Fm → Option Nat
  | .nm a, .nm b => told rows w (root e a) (root e b)
  | _, _ => none
/-- plain.rule_told -/
def ruleB (w : W) (x : Fm) : Fm → Option Fm
  | .ap v c d => match w, v with
    | .wi, .be => if c = x then some d else none
    | .be, .wi => if c = x then some d else none
    | .ah, .wi => if d = x then some c else none
    | _, _ => none
  | .nm _ => none
def ruleA (w : W) (y : Fm) : Fm → Option Fm
  | .ap v c d => match w, v with
    | .wi, .ah => if c = y then some d else none
    | .be, .ah => if d = y then some c else none
    | .ah, .be => if d = y then some c else none
    | _, _ => none
  | .nm _ => none
def ruleTold (w : W) (a b : Fm) : Option Fm := match ruleB w a b with | some f => some f | none => ruleA w b a
/-- plain.shorter of a formula that is no name -/
def topTold (e : List Nat) (rows : List T3) (w : W) (a b : Fm) : Option Fm :=
  match entryTold e rows w a b with | some n => some (.nm n) | none => ruleTold w a b
def shorter (e : List Nat) (rows : List T3) : Fm → Option Fm
  | .nm n => if root e n = n then none else some (.nm (root e n))
  | .ap w a b => topTold e rows w a b
def firstStep (e : List Nat) (rows : List T3) : Fm → Option Fm
  | .nm n => shorter e rows (.nm n)
  | .ap w a b => match firstStep e rows a with
    | some a' => some (.ap w a' b)
    | none => match firstStep e rows b with
      | some b' => some (.ap w a b')
      | none => shorter e rows (.ap w a b)
/-- the plain form -/
def plainF (e : List Nat) (rows : List T3) : Fm → Fm
  | .nm n => .nm (root e n)
  | .ap w a b => (topTold e rows w (plainF e rows a) (plainF e rows b)).getD (.ap w (plainF e rows a) (plainF e rows b))
/-- what falls -/
def meas (e : List Nat) : Fm → Nat
  | .nm n => if root e n = n then 1 else 2
  | .ap _ a b => 1 + meas e a + meas e b
theorem meas_pos (e : List Nat) : ∀ f, 1 ≤ meas e f
  | .nm n => by unfold meas; split <;> omega
  | .ap _ a b => by unfold meas; omega
def RowsRt (e : List Nat) (rows : List T3) : Prop := ∀ w, ∀ r ∈ rows, root e (rk w r) = rk w r
theorem Good.rowsRt {e : List Nat} {rows : List T3} (G : Good e rows) : RowsRt e rows := by
  intro w r hr
  have := congrArg (rk w) (G.rt r hr)
  simpa using this
theorem told_mem {rows : List T3} {w : W} {a b t : Nat} (h : told rows w a b = some t) : mkRow w a b t ∈ rows := by
  unfold told at h
  cases q : rows.find? fun r => decide (pk w r = a ∧ qk w r = b) with
  | none => rw [q] at h; cases h
  | some r =>
    rw [q] at h
    simp at h
    have h1 := List.find?_some q
    simp at h1
    have h2 := List.mem_of_find?_eq_some q
    rw [← h, ← h1.1, ← h1.2, mkRow_pqr]; exact h2
theorem told_none {rows : List T3} {w : W} {a b : Nat} (h : told rows w a b = none) : ∀ r ∈ rows, pk w r = a → qk w r = b → False := by
  intro r hr h1 h2
  unfold told at h
  simp at h
  exact h r.1 r.2.1 r.2.2 hr h1 h2
theorem told_of {e : List Nat} {rows : List T3} (G : Good e rows) {w : W} {a b t : Nat} (h : mkRow w a b t ∈ rows) : told rows w a b = some t := by
  cases q : told rows w a b with
  | none => exact absurd (told_none q _ h (by simp) (by simp)) id
  | some t' =>
    have h' := told_mem q
    have := G.fn w _ h _ h' (by simp) (by simp)
    have := congrArg (rk w) this
    simp at this
    rw [this]
/-- plain formulas: names are roots, no part is shorter -/
def Plain (e : List Nat) (rows : List T3) : Fm → Prop
  | .nm n => root e n = n
  | .ap w a b => Plain e rows a ∧ Plain e rows b ∧ topTold e rows w a b = none
theorem ruleB_sub {w : W} {x y f : Fm} (h : ruleB w x y = some f) : ∃ v c d, y = .ap v c d ∧ (f = c ∨ f = d) := by
  cases y with
  | nm n => simp [ruleB] at h
  | ap v c d =>
    refine ⟨v, c, d, rfl, ?_⟩
    cases w <;> cases v <;> simp [ruleB] at h <;> obtain ⟨_, rfl⟩ := h <;> simp
theorem ruleA_sub {w : W} {x y f : Fm} (h : ruleA w x y = some f) : ∃ v c d, y = .ap v c d ∧ (f = c ∨ f = d) := by
  cases y with
  | nm n => simp [ruleA] at h
  | ap v c d =>
    refine ⟨v, c, d, rfl, ?_⟩
    cases w <;> cases v <;> simp [ruleA] at h <;> obtain ⟨_, rfl⟩ := h <;> simp
theorem ruleTold_sub {w : W} {a b f : Fm} (h : ruleTold w a b = some f) : (∃ v c d, b = .ap v c d ∧ (f = c ∨ f = d)) ∨ ∃ v c d, a = .ap v c d ∧ (f = c ∨ f = d) := by
  unfold ruleTold at h
  cases q : ruleB w a b with
  | some g => rw [q] at h; cases h; exact .inl (ruleB_sub q)
  | none => rw [q] at h; exact .inr (ruleA_sub h)
theorem topTold_plain {e : List Nat} {rows : List T3} (Rt : RowsRt e rows) {w : W} {a b f : Fm} (pa : Plain e rows a) (pb : Plain e rows b) (h : topTold e rows w a b = some f) : Plain e rows f := by
  unfold topTold at h
  cases q : entryTold e rows w a b with
  | some n =>
    rw [q] at h; cases h
    cases a with
    | ap => simp [entryTold] at q
    | nm a =>
      cases b with
      | ap => simp [entryTold] at q
      | nm b => simpa [Plain] using Rt w _ (told_mem (show told rows w _ _ = some n from q))
  | none =>
    rw [q] at h
    rcases ruleTold_sub h with ⟨v, c, d, rfl, rfl | rfl⟩ | ⟨v, c, d, rfl, rfl | rfl⟩
    · exact pb.1
    · exact pb.2.1
    · exact pa.1
    · exact pa.2.1
theorem plainF_plain {e : List Nat} {rows : List T3} (F : Forest e) (Rt : RowsRt e rows) : ∀ f, Plain e rows (plainF e rows f)
  | .nm n => root_root F n
  | .ap w a b => by
    have pa := plainF_plain F Rt a
    have pb := plainF_plain F Rt b
    unfold plainF
    cases q : topTold e rows w (plainF e rows a) (plainF e rows b) with
    | some f => exact topTold_plain Rt pa pb q
    | none => exact ⟨pa, pb, q⟩
theorem plainF_of_plain {e : List Nat} {rows : List T3} : ∀ {f}, Plain e rows f → plainF e rows f = f
  | .nm n, h => by unfold plainF; rw [show root e n = n from h]
  | .ap w a b, h => by unfold plainF; rw [plainF_of_plain h.1, plainF_of_plain h.2.1, h.2.2]; rfl
theorem firstStep_none {e : List Nat} {rows : List T3} : ∀ {f}, firstStep e rows f = none → Plain e rows f
  | .nm n, h => by
    simp only [firstStep, shorter] at h
    split at h
    · assumption
    · cases h
  | .ap w a b, h => by
    unfold firstStep at h
    cases qa : firstStep e rows a with
    | some a' => rw [qa] at h; cases h
    | none =>
      rw [qa] at h
      cases qb : firstStep e rows b with
      | some b' => rw [qb] at h; cases h
      | none =>
        rw [qb] at h
        exact ⟨firstStep_none qa, firstStep_none qb, h⟩
theorem meas_sub {e : List Nat} {w : W} {a b f : Fm} (h : ruleTold w a b = some f) : meas e f < meas e (.ap w a b) := by
  have h1 := meas_pos e a
  have h2 := meas_pos e b
  have h3 : meas e (.ap w a b) = 1 + meas e a + meas e b := rfl
  have hs : ∀ v c d, meas e (.ap v c d) = 1 + meas e c + meas e d := fun _ _ _ => rfl
  rcases ruleTold_sub h with ⟨v, c, d, rfl, rfl | rfl⟩ | ⟨v, c, d, rfl, rfl | rfl⟩
  all_goals
    rw [h3]
    simp only [hs] at *
    omega
theorem firstStep_some {e : List Nat} {rows : List T3} (F : Forest e) (Rt : RowsRt e rows) : ∀ {f f'}, firstStep e rows f = some f' → plainF e rows f' = plainF e rows f ∧ meas e f' < meas e f
  | .nm n, f', h => by
    simp only [firstStep, shorter] at h
    split at h
    · cases h
    · rename_i hn
      cases h
      unfold plainF meas
      rw [root_root F]
      simp [hn]
  | .ap w a b, f', h => by
    unfold firstStep at h
    cases qa : firstStep e rows a with
    | some a' =>
      rw [qa] at h; cases h
      obtain ⟨h1, h2⟩ := firstStep_some F Rt qa
      constructor
      · unfold plainF; rw [h1]
      · unfold meas; omega
    | none =>
      rw [qa] at h
      cases qb : firstStep e rows b with
      | some b' =>
        rw [qb] at h; cases h
        obtain ⟨h1, h2⟩ := firstStep_some F Rt qb
        constructor
        · rw [plainF, plainF, h1]
        · rw [meas, meas]; omega
      | none =>
        rw [qb] at h
        have pa := firstStep_none qa
        have pb := firstStep_none qb
        have ht : topTold e rows w a b = some f' := h
        have pf := topTold_plain Rt pa pb ht
        constructor
        · rw [plainF_of_plain pf, plainF, plainF_of_plain pa, plainF_of_plain pb, ht]; rfl
        · unfold topTold at ht
          cases q : entryTold e rows w a b with
          | some n =>
            rw [q] at ht
            simp at ht
            subst ht
            have hr : root e n = n := pf
            have h1 := meas_pos e a
            have h2 := meas_pos e b
            have h3 : meas e (.ap w a b) = 1 + meas e a + meas e b := rfl
            have h4 : meas e (.nm n) = 1 := by unfold meas; rw [if_pos hr]
            omega
          | none =>
            rw [q] at ht
            exact meas_sub ht
theorem firstStep_below {e : List Nat} {rows : List T3} {n : Nat} (R : Rows n rows) : ∀ {f f'}, f.bel n → firstStep e rows f = some f' → f'.bel n
  | .nm k, f', hb, h => by
    simp only [firstStep, shorter] at h
    split at h
    · cases h
    · cases h
      exact Nat.lt_of_le_of_lt (root_le k) hb
  | .ap w a b, f', hb, h => by
    unfold firstStep at h
    cases qa : firstStep e rows a with
    | some a' => rw [qa] at h; cases h; exact ⟨firstStep_below R hb.1 qa, hb.2⟩
    | none =>
      rw [qa] at h
      cases qb : firstStep e rows b with
      | some b' => rw [qb] at h; cases h; exact ⟨hb.1, firstStep_below R hb.2 qb⟩
      | none =>
        rw [qb] at h
        have ht : topTold e rows w a b = some f' := h
        unfold topTold at ht
        cases q : entryTold e rows w a b with
        | some n =>
          rw [q] at ht
          cases ht
          cases a with
          | ap => simp [entryTold] at q
          | nm a =>
            cases b with
            | ap => simp [entryTold] at q
            | nm b =>
              have := (R.lt (told_mem (show told rows w _ _ = some _ from q)) w).2.2
              simpa [Fm.bel] using this
        | none =>
          rw [q] at ht
          rcases ruleTold_sub ht with ⟨v, c, d, rfl, rfl | rfl⟩ | ⟨v, c, d, rfl, rfl | rfl⟩
          · exact hb.2.1
          · exact hb.2.2
          · exact hb.1.1
          · exact hb.1.2
theorem firstStep_depth {e : List Nat} {rows : List T3} : ∀ {f f'}, firstStep e rows f = some f' → f'.depth ≤ f.depth
  | .nm k, f', h => by
    simp only [firstStep, shorter] at h
    split at h
    · cases h
    · cases h; exact Nat.le_refl _
  | .ap w a b, f', h => by
    unfold firstStep at h
    cases qa : firstStep e rows a with
    | some a' =>
      rw [qa] at h; cases h
      have := firstStep_depth qa
      simp only [Fm.depth]; omega
    | none =>
      rw [qa] at h
      cases qb : firstStep e rows b with
      | some b' =>
        rw [qb] at h; cases h
        have := firstStep_depth qb
        simp only [Fm.depth]; omega
      | none =>
        rw [qb] at h
        have ht : topTold e rows w a b = some f' := h
        unfold topTold at ht
        cases q : entryTold e rows w a b with
        | some n => rw [q] at ht; cases ht; simp [Fm.depth]
        | none =>
          rw [q] at ht
          rcases ruleTold_sub ht with ⟨v, c, d, rfl, rfl | rfl⟩ | ⟨v, c, d, rfl, rfl | rfl⟩
          all_goals simp only [Fm.depth]; omega

/-! ### things -/
/-- Closing.third -/
def third (e : List Nat) (rows : List T3) (w : W) (a b : Nat) : (List Nat × List T3) × Nat :=
  match told rows w a b with
  | some t => ((e, rows), t)
  | none => ((e ++ [e.length], rows ++ [mkRow w a b e.length]), e.length)
def thing : Fm → List Nat → List T3 → (List Nat × List T3) × Nat
  | .nm n, e, rows => ((e, rows), root e n)
  | .ap w f g, e, rows =>
    let x := thing f e rows
    let y := thing g x.1.1 x.1.2
    third y.1.1 y.1.2 w x.2 y.2
theorem up_app {e : List Nat} (i : Nat) : up (e ++ [e.length]) i = up e i := by
  unfold up
  rcases Nat.lt_trichotomy i e.length with h | h | h
  · simp [List.getD, List.getElem?_append_left h]
  · subst h; simp [List.getD]
  · have h1 : (e ++ [e.length])[i]? = none := List.getElem?_eq_none (by simp; omega)
    have h2 : e[i]? = none := List.getElem?_eq_none (by omega)
    simp [List.getD, h1, h2]
theorem root_app {e : List Nat} : ∀ i, root (e ++ [e.length]) i = root e i := by
  intro i
  induction i using Nat.strongRecOn with
  | ind i ih =>
    by_cases h : up e i < i
    · rw [root_lt h, root_lt (e := e ++ [e.length]) (by rw [up_app]; exact h), up_app, ih _ h]
    · rw [root_ge h, root_ge (e := e ++ [e.length]) (by rw [up_app]; exact h)]
theorem third_good {e : List Nat} {rows : List T3} (G : Good e rows) {w : W} {a b : Nat} (ha : a < e.length) (hb : b < e.length) (ra : root e a = a) (rb : root e b = b) :
    Good (third e rows w a b).1.1 (third e rows w a b).1.2 ∧ (third e rows w a b).2 < (third e rows w a b).1.1.length ∧ root (third e rows w a b).1.1 (third e rows w a b).2 = (third e rows w a b).2 ∧
    mkRow w a b (third e rows w a b).2 ∈ (third e rows w a b).1.2 := by
  unfold third
  cases q : told rows w a b with
  | some t =>
    have hm := told_mem q
    have h1 := (G.R.lt hm w).2.2
    have h2 := G.rowsRt w _ hm
    simp at h1 h2
    exact ⟨G, h1, h2, hm⟩
  | none =>
    have hn := told_none q
    have hself : root (e ++ [e.length]) e.length = e.length := by
      rw [root_app]; apply root_self; simp [up, List.getD]
    have Rn : Rows (e.length + 1) [mkRow w a b e.length] := by
      intro r hr
      simp at hr; subst hr
      cases w <;> simp [mkRow] <;> omega
    refine ⟨⟨?_, ?_, ?_, ?_, ?_⟩, by simp, hself, by simp⟩
    · intro i h
      simp at h
      rcases Nat.lt_or_ge i e.length with h' | h'
      · rw [List.getElem_append_left h']; exact G.F i h'
      · have : i = e.length := by omega
        subst this; simp
    · intro r hr
      simp only [List.length_append, List.length_singleton]
      rcases List.mem_append.mp hr with hr | hr
      · obtain ⟨h1, h2, h3⟩ := G.R r hr; exact ⟨by omega, by omega, by omega⟩
      · exact Rn r hr
    · intro r hr
      rcases List.mem_append.mp hr with hr | hr
      · have := G.rt r hr
        unfold r3 at *
        simp only [root_app]; exact this
      · simp at hr; subst hr
        unfold r3
        cases w <;> simp only [mkRow, root_app, ra, rb] <;> rw [root_self] <;> simp [up, List.getD]
    · -- functional
      have old : ∀ v, ∀ r ∈ rows, pk v r = pk v (mkRow w a b e.length) → qk v r = qk v (mkRow w a b e.length) → False := by
        intro v r hr h1 h2
        by_cases hv : v = w
        · subst hv; simp at h1 h2; exact hn r hr h1 h2
        · have l := G.R.lt hr v
          have l1 : ¬ pk v r = e.length := by omega
          have l2 : ¬ qk v r = e.length := by omega
          cases v <;> cases w <;> first | exact absurd rfl hv | (simp [pk, qk, mkRow] at h1 h2 l1 l2; omega)
      intro v r hr r' hr' h1 h2
      rcases List.mem_append.mp hr with hr | hr <;> rcases List.mem_append.mp hr' with hr' | hr'
      · exact G.fn v r hr r' hr' h1 h2
      · simp at hr'; subst hr'; exact absurd (old v r hr h1 h2) id
      · simp at hr; subst hr; exact absurd (old v r' hr' h1.symm h2.symm) id
      · simp at hr hr'; rw [hr, hr']
    · refine List.nodup_append.mpr ⟨G.nd, by simp, ?_⟩
      intro r hr r' hr' hh
      simp at hr'; subst hr'; subst hh
      exact hn _ hr (by simp) (by simp)
/-- a state that goes on from another one -/
structure Ext (e : List Nat) (rows : List T3) (e' : List Nat) (rows' : List T3) : Prop where
  le : e.length ≤ e'.length
  rt : ∀ i, root e' i = root e i
  rows : ∀ r ∈ rows, r ∈ rows'
theorem Ext.refl (e rows) : Ext e rows e rows := ⟨Nat.le_refl _, fun _ => rfl, fun _ h => h⟩
theorem Ext.trans {e rows e1 rows1 e2 rows2} (a : Ext e rows e1 rows1) (b : Ext e1 rows1 e2 rows2) : Ext e rows e2 rows2 :=
  ⟨Nat.le_trans a.le b.le, fun i => (b.rt i).trans (a.rt i), fun r h => b.rows r (a.rows r h)⟩
theorem third_ext (e rows w a b) : Ext e rows (third e rows w a b).1.1 (third e rows w a b).1.2 := by
  unfold third
  cases q : told rows w a b with
  | some t => exact Ext.refl _ _
  | none => exact ⟨by simp, fun i => root_app i, fun r h => List.mem_append_left _ h⟩
structure ThingOk (f : Fm) (e : List Nat) (rows : List T3) (x : (List Nat × List T3) × Nat) : Prop where
  good : Good x.1.1 x.1.2
  ext : Ext e rows x.1.1 x.1.2
  lt : x.2 < x.1.1.length
  rt : root x.1.1 x.2 = x.2
  len : x.1.1.length ≤ e.length + f.size
theorem thing_ok : ∀ (f : Fm) (e : List Nat) (rows : List T3), Good e rows → f.bel e.length → ThingOk f e rows (thing f e rows)
  | .nm n, e, rows, G, hb => ⟨G, Ext.refl _ _, root_lt_len hb, root_root G.F n, by simp [thing]⟩
  | .ap w f g, e, rows, G, hb => by
    have h1 := thing_ok f e rows G hb.1
    have h2 := thing_ok g _ _ h1.good (Fm.bel_mono h1.ext.le hb.2)
    have rx : root (thing g (thing f e rows).1.1 (thing f e rows).1.2).1.1 (thing f e rows).2 = (thing f e rows).2 := by rw [h2.ext.rt]; exact h1.rt
    have h3 := third_good h2.good (w := w) (a := (thing f e rows).2) (b := (thing g (thing f e rows).1.1 (thing f e rows).1.2).2) (Nat.lt_of_lt_of_le h1.lt h2.ext.le) h2.lt rx h2.rt
    have x3 := third_ext (thing g (thing f e rows).1.1 (thing f e rows).1.2).1.1 (thing g (thing f e rows).1.1 (thing f e rows).1.2).1.2 w (thing f e rows).2 (thing g (thing f e rows).1.1 (thing f e rows).1.2).2
    refine ⟨h3.1, (h1.ext.trans h2.ext).trans x3, h3.2.1, h3.2.2.1, ?_⟩
    have l1 := h1.len
    have l2 := h2.len
    show (third _ _ w _ _).1.1.length ≤ _
    have l3 : (third (thing g (thing f e rows).1.1 (thing f e rows).1.2).1.1 (thing g (thing f e rows).1.1 (thing f e rows).1.2).1.2 w (thing f e rows).2 (thing g (thing f e rows).1.1 (thing f e rows).1.2).2).1.1.length ≤ (thing g (thing f e rows).1.1 (thing f e rows).1.2).1.1.length + 1 := by
      unfold third; split <;> simp
    simp only [Fm.size]
    omega
end K12
set_option linter.all false
/-! K12d: two formulas have one plain form just if they tell one thing. -/
namespace K12
inductive Psi (e0 : List Nat) (L : List (W × Nat × Nat)) : Nat → Fm → Prop
  | nm {t : Nat} (h : t < e0.length) (r : root e0 t = t) : Psi e0 L t (.nm t)
  | ap {i : Nat} {w : W} {a b : Nat} {f g : Fm} (h : L[i]? = some (w, a, b)) (pa : Psi e0 L a f) (pb : Psi e0 L b g) : Psi e0 L (e0.length + i) (.ap w f g)
theorem Psi.nm_inv {e0 L t n} (h : Psi e0 L t (.nm n)) : t = n ∧ n < e0.length ∧ root e0 n = n := by
  cases h with
  | nm h r => exact ⟨rfl, h, r⟩
theorem Psi.ap_inv {e0 L t w f g} (h : Psi e0 L t (.ap w f g)) : ∃ i a b, t = e0.length + i ∧ L[i]? = some (w, a, b) ∧ Psi e0 L a f ∧ Psi e0 L b g := by
  cases h with
  | ap h pa pb => exact ⟨_, _, _, rfl, h, pa, pb⟩
theorem Psi.small {e0 L t f} (h : Psi e0 L t f) (hl : t < e0.length) : f = .nm t := by
  cases h with
  | nm h r => rfl
  | ap h pa pb => omega
theorem Psi.det {e0 L t f f'} (h : Psi e0 L t f) (h' : Psi e0 L t f') : f = f' := by
  induction h generalizing f' with
  | nm hl r => exact (h'.small hl).symm
  | @ap i w a b f g hi pa pb iha ihb =>
    generalize hq : e0.length + i = q at h'
    cases h' with
    | nm hl r => omega
    | @ap j w' a' b' f1 g1 hj pa' pb' =>
      have : i = j := by omega
      subst this
      rw [hi] at hj
      cases hj
      rw [iha pa', ihb pb']
theorem Psi.inj {e0 L t t' f} (nd : ∀ (i j : Nat) x, L[i]? = some x → L[j]? = some x → i = j) (h : Psi e0 L t f) (h' : Psi e0 L t' f) : t = t' := by
  induction h generalizing t' with
  | nm hl r => exact h'.nm_inv.1.symm
  | @ap i w a b f g hi pa pb iha ihb =>
    obtain ⟨j, a', b', rfl, hj, pa', pb'⟩ := h'.ap_inv
    have e1 := iha pa'
    have e2 := ihb pb'
    subst e1; subst e2
    rw [nd i j _ hi hj]
theorem Psi.mono {e0 L L' t f} (hL : ∀ (i : Nat) x, L[i]? = some x → L'[i]? = some x) (h : Psi e0 L t f) : Psi e0 L' t f := by
  induction h with
  | nm hl r => exact .nm hl r
  | ap hi pa pb iha ihb => exact .ap (hL _ _ hi) iha ihb
structure Log (e0 : List Nat) (rows0 : List T3) (L : List (W × Nat × Nat)) (e : List Nat) (rows : List T3) : Prop where
  good : Good e rows
  len : e.length = e0.length + L.length
  rt : ∀ i, root e i = root e0 i
  mem : ∀ r, r ∈ rows ↔ r ∈ rows0 ∨ ∃ (i : Nat) (w : W) (a b : Nat), L[i]? = some (w, a, b) ∧ r = mkRow w a b (e0.length + i)
  psi : ∀ (i : Nat) w a b, L[i]? = some (w, a, b) → ∃ f g, Psi e0 L a f ∧ Psi e0 L b g ∧ Plain e0 rows0 (.ap w f g)
  nd : ∀ (i j : Nat) x, L[i]? = some x → L[j]? = some x → i = j
section
variable {e0 : List Nat} {rows0 : List T3} {L : List (W × Nat × Nat)} {e : List Nat} {rows : List T3}
theorem Log.plain (I : Log e0 rows0 L e rows) {t f} (h : Psi e0 L t f) : Plain e0 rows0 f := by
  cases h with
  | nm hl r => exact r
  | ap hi pa pb =>
    obtain ⟨f', g', pa', pb', hp⟩ := I.psi _ _ _ _ hi
    rw [pa.det pa', pb.det pb']; exact hp
theorem Log.some (G0 : Good e0 rows0) (I : Log e0 rows0 L e rows) {w a b F G X} (pa : Psi e0 L a F) (pb : Psi e0 L b G) (h : topTold e0 rows0 w F G = some X) :
    ∃ t, Psi e0 L t X ∧ mkRow w a b t ∈ rows := by
  unfold topTold at h
  cases q : entryTold e0 rows0 w F G with
  | some m =>
    rw [q] at h; cases h
    cases F with
    | ap => simp [entryTold] at q
    | nm a0 =>
      cases G with
      | ap => simp [entryTold] at q
      | nm b0 =>
        obtain ⟨rfl, _, ra⟩ := pa.nm_inv
        obtain ⟨rfl, _, rb⟩ := pb.nm_inv
        have hm : mkRow w (root e0 a) (root e0 b) m ∈ rows0 := told_mem q
        have l := (G0.R.lt hm w).2.2
        have r := G0.rowsRt w _ hm
        rw [ra, rb] at hm
        simp at l r
        exact ⟨m, .nm l r, (I.mem _).mpr (.inl hm)⟩
  | none =>
    rw [q] at h
    have put : ∀ {i : Nat} {v c d}, L[i]? = Option.some (v, c, d) → mkRow v c d (e0.length + i) ∈ rows := fun hi => (I.mem _).mpr (.inr ⟨_, _, _, _, hi, rfl⟩)
    replace h : ruleTold w F G = Option.some X := h
    unfold ruleTold at h
    cases qb : ruleB w F G with
    | some g =>
      rw [qb] at h; cases h
      cases G with
      | nm => simp [ruleB] at qb
      | ap v c d =>
        obtain ⟨i, a', b', rfl, hi, pa', pb'⟩ := pb.ap_inv
        have row := put hi
        cases w <;> cases v <;> simp [ruleB] at qb <;> obtain ⟨rfl, rfl⟩ := qb
        · have := pa.inj I.nd pa'; subst this; exact ⟨_, pb', row⟩
        · have := pa.inj I.nd pa'; subst this; exact ⟨_, pb', row⟩
        · have := pa.inj I.nd pb'; subst this; exact ⟨_, pa', row⟩
    | none =>
      rw [qb] at h
      replace h : ruleA w G F = Option.some X := h
      cases F with
      | nm => simp [ruleA] at h
      | ap v c d =>
        obtain ⟨i, a', b', rfl, hi, pa', pb'⟩ := pa.ap_inv
        have row := put hi
        cases w <;> cases v <;> simp [ruleA] at h <;> obtain ⟨rfl, rfl⟩ := h
        · have := pb.inj I.nd pa'; subst this; exact ⟨_, pb', row⟩
        · have := pb.inj I.nd pb'; subst this; exact ⟨_, pa', row⟩
        · have := pb.inj I.nd pb'; subst this; exact ⟨_, pa', row⟩
theorem ruleTold_of_B {w F G X} (h : ruleB w F G = some X) : ruleTold w F G ≠ none := by unfold ruleTold; rw [h]; simp
theorem ruleTold_of_A {w F G X} (h : ruleA w G F = some X) : ruleTold w F G ≠ none := by
  unfold ruleTold
  cases ruleB w F G with
  | some => simp
  | none => simp [h]
theorem Log.none (G0 : Good e0 rows0) (I : Log e0 rows0 L e rows) {w a b F G t} (pa : Psi e0 L a F) (pb : Psi e0 L b G) (h : topTold e0 rows0 w F G = none) (hm : mkRow w a b t ∈ rows) :
    Psi e0 L t (.ap w F G) := by
  unfold topTold at h
  cases q : entryTold e0 rows0 w F G with
  | some m => rw [q] at h; cases h
  | none =>
    rw [q] at h
    replace h : ruleTold w F G = Option.none := h
    rcases (I.mem _).mp hm with hm | ⟨i, v, c, d, hi, he⟩
    · exfalso
      have l := G0.R.lt hm w
      have r := G0.rt _ hm
      simp at l
      have ea := pa.small l.1
      have eb := pb.small l.2.1
      subst ea; subst eb
      have ra : root e0 a = a := by simpa using congrArg (pk w) r
      have rb : root e0 b = b := by simpa using congrArg (qk w) r
      have : entryTold e0 rows0 w (.nm a) (.nm b) = Option.some t := by
        show told rows0 w (root e0 a) (root e0 b) = _
        rw [ra, rb]; exact told_of G0 hm
      rw [this] at q; cases q
    · obtain ⟨f', g', pc, pd, _⟩ := I.psi _ _ _ _ hi
      by_cases hv : v = w
      · subst hv
        have e1 : a = c := by simpa using congrArg (pk v) he
        have e2 : b = d := by simpa using congrArg (qk v) he
        have e3 : t = e0.length + i := by simpa using congrArg (rk v) he
        subst e1; subst e2; subst e3
        exact .ap hi pa pb
      · exfalso
        cases w <;> cases v <;> first | exact absurd rfl hv | skip
        all_goals
          simp only [mkRow, Prod.mk.injEq] at he
          obtain ⟨h1, h2, h3⟩ := he
        · -- wi, be: a = c, b = new, t = d
          subst h1; subst h2
          have := pb.det (.ap hi pa pd); subst this
          exact ruleTold_of_B (X := g') (by simp [ruleB]) h
        · -- wi, ah: a = new, b = c, t = d
          subst h1; subst h2
          have := pa.det (.ap hi pb pd); subst this
          exact ruleTold_of_A (X := g') (by simp [ruleA]) h
        · -- be, wi: a = c, t = d, b = new
          subst h1; subst h3
          have := pb.det (.ap hi pa pd); subst this
          exact ruleTold_of_B (X := g') (by simp [ruleB]) h
        · -- be, ah: a = new, t = c, b = d
          subst h1; subst h3
          have := pa.det (.ap hi pc pb); subst this
          exact ruleTold_of_A (X := f') (by simp [ruleA]) h
        · -- ah, wi: t = c, a = d, b = new
          subst h2; subst h3
          have := pb.det (.ap hi pc pa); subst this
          exact ruleTold_of_B (X := f') (by simp [ruleB]) h
        · -- ah, be: t = c, a = new, b = d
          subst h2; subst h3
          have := pa.det (.ap hi pc pb); subst this
          exact ruleTold_of_A (X := f') (by simp [ruleA]) h
theorem thing_psi (G0 : Good e0 rows0) : ∀ (f : Fm) (e : List Nat) (rows : List T3) (L : List (W × Nat × Nat)), f.bel e0.length → Log e0 rows0 L e rows →
    ∃ L' : List (W × Nat × Nat), (∀ (i : Nat) x, L[i]? = some x → L'[i]? = some x) ∧ Log e0 rows0 L' (thing f e rows).1.1 (thing f e rows).1.2 ∧ Psi e0 L' (thing f e rows).2 (plainF e0 rows0 f)
  | .nm n, e, rows, L, hb, I => by
    refine ⟨L, fun _ _ h => h, I, ?_⟩
    show Psi e0 L (root e n) (.nm (root e0 n))
    rw [I.rt]
    exact .nm (root_lt_len hb) (root_root G0.F n)
  | .ap w f g, e, rows, L, hb, I => by
    obtain ⟨L1, m1, I1, p1⟩ := thing_psi G0 f e rows L hb.1 I
    obtain ⟨L2, m2, I2, p2⟩ := thing_psi G0 g _ _ L1 hb.2 I1
    have p1' := p1.mono m2
    have lf : f.bel e.length := Fm.bel_mono (by rw [I.len]; omega) hb.1
    have ok1 := thing_ok f e rows I.good lf
    have ok2 := thing_ok g _ _ ok1.good (Fm.bel_mono (by rw [I1.len]; omega) hb.2)
    have rx : root (thing g (thing f e rows).1.1 (thing f e rows).1.2).1.1 (thing f e rows).2 = (thing f e rows).2 := by rw [ok2.ext.rt]; exact ok1.rt
    have t3 := third_good ok2.good (w := w) (Nat.lt_of_lt_of_le ok1.lt ok2.ext.le) ok2.lt rx ok2.rt
    generalize hx : (thing f e rows).2 = a at *
    generalize hy : thing g (thing f e rows).1.1 (thing f e rows).1.2 = y at *
    show ∃ L', _ ∧ Log e0 rows0 L' (third (thing g (thing f e rows).1.1 (thing f e rows).1.2).1.1 (thing g (thing f e rows).1.1 (thing f e rows).1.2).1.2 w (thing f e rows).2 (thing g (thing f e rows).1.1 (thing f e rows).1.2).2).1.1 (third (thing g (thing f e rows).1.1 (thing f e rows).1.2).1.1 (thing g (thing f e rows).1.1 (thing f e rows).1.2).1.2 w (thing f e rows).2 (thing g (thing f e rows).1.1 (thing f e rows).1.2).2).1.2 ∧ Psi e0 L' (third (thing g (thing f e rows).1.1 (thing f e rows).1.2).1.1 (thing g (thing f e rows).1.1 (thing f e rows).1.2).1.2 w (thing f e rows).2 (thing g (thing f e rows).1.1 (thing f e rows).1.2).2).2 (plainF e0 rows0 (.ap w f g))
    rw [hy, hx]
    unfold plainF
    cases q : told y.1.2 w a y.2 with
    | some t =>
      have hm := told_mem q
      have e3 : third y.1.1 y.1.2 w a y.2 = (y.1, t) := by unfold third; rw [q]
      rw [e3]
      refine ⟨L2, fun i x h => m2 _ _ (m1 _ _ h), I2, ?_⟩
      cases qt : topTold e0 rows0 w (plainF e0 rows0 f) (plainF e0 rows0 g) with
      | some X =>
        obtain ⟨t', pt, hm'⟩ := I2.some G0 p1' p2 qt
        have := I2.good.fn w _ hm _ hm' (by simp) (by simp)
        have := congrArg (rk w) this
        simp at this; subst this
        exact pt
      | none => exact I2.none G0 p1' p2 qt hm
    | none =>
      have hn := told_none q
      have e3 : third y.1.1 y.1.2 w a y.2 = ((y.1.1 ++ [y.1.1.length], y.1.2 ++ [mkRow w a y.2 y.1.1.length]), y.1.1.length) := by unfold third; rw [q]
      rw [e3] at t3 ⊢
      have qt : topTold e0 rows0 w (plainF e0 rows0 f) (plainF e0 rows0 g) = none := by
        cases qt : topTold e0 rows0 w (plainF e0 rows0 f) (plainF e0 rows0 g) with
        | some X =>
          obtain ⟨t', pt, hm'⟩ := I2.some G0 p1' p2 qt
          exact absurd (hn _ hm' (by simp) (by simp)) id
        | none => rfl
      rw [qt]
      have old : ∀ (i : Nat) x, L2[i]? = some x → (L2 ++ [(w, a, y.2)])[i]? = some x := fun i x h => by
        rw [List.getElem?_append_left (List.getElem?_eq_some_iff.mp h).1]; exact h
      have new : ∀ (i : Nat) x, (L2 ++ [(w, a, y.2)])[i]? = some x → L2[i]? = some x ∨ (i = L2.length ∧ x = (w, a, y.2)) := fun i x h => by
        rcases Nat.lt_trichotomy i L2.length with h1 | h1 | h1
        · rw [List.getElem?_append_left h1] at h; exact .inl h
        · subst h1; simp at h; exact .inr ⟨rfl, h.symm⟩
        · rw [List.getElem?_eq_none (by simp; omega)] at h; cases h
      refine ⟨L2 ++ [(w, a, y.2)], fun i x h => old _ _ (m2 _ _ (m1 _ _ h)), ⟨t3.1, ?_, ?_, ?_, ?_, ?_⟩, ?_⟩
      · simp [I2.len]; omega
      · intro i; show root (y.1.1 ++ _) i = _; rw [root_app, I2.rt]
      · intro r
        show r ∈ y.1.2 ++ _ ↔ _
        rw [List.mem_append, I2.mem]
        constructor
        · rintro ((h | ⟨i, v, c, d, h, rfl⟩) | h)
          · exact .inl h
          · exact .inr ⟨i, v, c, d, old _ _ h, rfl⟩
          · simp at h; subst h
            refine .inr ⟨L2.length, w, a, y.2, by simp, ?_⟩
            rw [I2.len]
        · rintro (h | ⟨i, v, c, d, h, rfl⟩)
          · exact .inl (.inl h)
          · rcases new _ _ h with k | ⟨rfl, k⟩
            · exact .inl (.inr ⟨i, v, c, d, k, rfl⟩)
            · cases k
              refine .inr ?_
              rw [I2.len]; simp
      · intro i v c d h
        rcases new _ _ h with h | ⟨rfl, k⟩
        · obtain ⟨f', g', h1, h2, h3⟩ := I2.psi _ _ _ _ h
          exact ⟨f', g', h1.mono old, h2.mono old, h3⟩
        · cases k
          exact ⟨_, _, p1'.mono old, p2.mono old, I2.plain p1', I2.plain p2, qt⟩
      · intro i j x h h'
        rcases new _ _ h with k | ⟨k1, k2⟩ <;> rcases new _ _ h' with k' | ⟨k1', k2'⟩
        · exact I2.nd _ _ _ k k'
        · rw [k2'] at k
          exact absurd (hn _ ((I2.mem _).mpr (.inr ⟨_, _, _, _, k, rfl⟩)) (by simp) (by simp)) id
        · rw [k2] at k'
          exact absurd (hn _ ((I2.mem _).mpr (.inr ⟨_, _, _, _, k', rfl⟩)) (by simp) (by simp)) id
        · omega
      · show Psi e0 _ y.1.1.length (.ap w _ _)
        rw [I2.len]
        exact .ap (by simp) (p1'.mono old) (p2.mono old)
/-- one plain form just if one thing -/
theorem plain_thing (G0 : Good e0 rows0) {f g : Fm} (hf : f.bel e0.length) (hg : g.bel e0.length) :
    (thing f e0 rows0).2 = (thing g (thing f e0 rows0).1.1 (thing f e0 rows0).1.2).2 ↔ plainF e0 rows0 f = plainF e0 rows0 g := by
  have I0 : Log e0 rows0 [] e0 rows0 := ⟨G0, by simp, fun _ => rfl, fun r => by simp, fun i w a b h => by simp at h, fun i j x h => by simp at h⟩
  obtain ⟨L1, m1, I1, p1⟩ := thing_psi G0 f e0 rows0 [] hf I0
  obtain ⟨L2, m2, I2, p2⟩ := thing_psi G0 g _ _ L1 hg I1
  have p1' := p1.mono m2
  constructor
  · intro h; rw [h] at p1'; exact p1'.det p2
  · intro h; rw [h] at p1'; exact p1'.inj I2.nd p2
end
end K12
set_option linter.all false
/-! K12e: pairs dealt to rounds (an edge colouring by exchanged ways). Plain Lean. -/
namespace K12
inductive Nd where
  | row (i : Nat)
  | th (t : Nat)
deriving DecidableEq
abbrev Pt := Nd → Nat → Option Nd
structure Col (P : Pt) (D : List (Nat × Nat)) (m : Nat) : Prop where
  sym : ∀ u v c, P u c = some v → P v c = some u
  bipR : ∀ i c v, P (.row i) c = some v → ∃ t, v = .th t
  bipT : ∀ t c v, P (.th t) c = some v → ∃ i, v = .row i
  lt : ∀ u c v, P u c = some v → c < m
  mem : ∀ i t, (∃ c, P (.row i) c = some (.th t)) ↔ (i, t) ∈ D
  uq : ∀ u c c' v, P u c = some v → P u c' = some v → c = c'
def noPt : Pt := fun _ _ => none
theorem col_no (m : Nat) : Col noPt [] m where
  sym := fun u v c h => nomatch h
  bipR := fun i c v h => nomatch h
  bipT := fun i c v h => nomatch h
  lt := fun u c v h => nomatch h
  mem := fun i t => by simp [noPt]
  uq := fun u c c' v h => nomatch h
/-- Rounds.free -/
def free (P : Pt) (m : Nat) (u : Nd) : Nat := ((List.range m).filter fun c => (P u c).isNone).headD 0
def put (P : Pt) (a b : Nd) (c : Nat) : Pt := fun u k => if u = b ∧ k = c then some a else if u = a ∧ k = c then some b else P u k
def sw (h t c : Nat) : Nat := if c = h then t else if c = t then h else c
theorem sw_sw (h t c : Nat) : sw h t (sw h t c) = c := by
  unfold sw
  repeat' split
  all_goals omega
theorem sw_inj {h t c c' : Nat} (e : sw h t c = sw h t c') : c = c' := by rw [← sw_sw h t c, e, sw_sw]
theorem sw_other {h t c : Nat} (h1 : c ≠ h) (h2 : c ≠ t) : sw h t c = c := by unfold sw; rw [if_neg h1, if_neg h2]
theorem sw_h (h t : Nat) : sw h t h = t := by unfold sw; rw [if_pos rfl]
theorem sw_t (h t : Nat) : sw h t t = h := by
  unfold sw
  split
  · omega
  · rw [if_pos rfl]
theorem sw_lt {h t c m : Nat} (h1 : h < m) (h2 : t < m) (h3 : c < m) : sw h t c < m := by
  unfold sw
  by_cases e1 : c = h
  · rw [if_pos e1]; exact h2
  · rw [if_neg e1]
    by_cases e2 : c = t
    · rw [if_pos e2]; exact h1
    · rw [if_neg e2]; exact h3
open Classical in
noncomputable def kempe (P : Pt) (S : Nd → Prop) (h t : Nat) : Pt := fun u c => if S u then P u (sw h t c) else P u c
theorem kempe_in {P : Pt} {S : Nd → Prop} {h t : Nat} {u : Nd} (hu : S u) (c : Nat) : kempe P S h t u c = P u (sw h t c) := by unfold kempe; rw [if_pos hu]
theorem kempe_out {P : Pt} {S : Nd → Prop} {h t : Nat} {u : Nd} (hu : ¬ S u) (c : Nat) : kempe P S h t u c = P u c := by unfold kempe; rw [if_neg hu]
theorem kempe_col {P : Pt} {D : List (Nat × Nat)} {m : Nat} (C : Col P D m) {S : Nd → Prop} {h t : Nat} (hh : h < m) (ht : t < m)
    (cl : ∀ u v c, S u → (c = h ∨ c = t) → P u c = some v → S v) : Col (kempe P S h t) D m := by
  have back : ∀ u v c, (c = h ∨ c = t) → P u c = some v → (S u ↔ S v) := fun u v c hc e => ⟨fun s => cl u v c s hc e, fun s => cl v u c s hc (C.sym _ _ _ e)⟩
  have val : ∀ u c v, kempe P S h t u c = some v → ∃ c', P u c' = some v := by
    intro u c v e
    by_cases hu : S u
    · rw [kempe_in hu] at e; exact ⟨_, e⟩
    · rw [kempe_out hu] at e; exact ⟨_, e⟩
  have val' : ∀ u c v, P u c = some v → ∃ c', kempe P S h t u c' = some v := by
    intro u c v e
    by_cases hu : S u
    · exact ⟨sw h t c, by rw [kempe_in hu, sw_sw]; exact e⟩
    · exact ⟨c, by rw [kempe_out hu]; exact e⟩
  refine ⟨?_, ?_, ?_, ?_, ?_, ?_⟩
  · intro u v c e
    by_cases hu : S u
    · rw [kempe_in hu] at e
      by_cases hc : sw h t c = h ∨ sw h t c = t
      · have hv := (back _ _ _ hc e).mp hu
        rw [kempe_in hv]; exact C.sym _ _ _ e
      · have hc1 : sw h t c = c := by
          have hc' : c ≠ h ∧ c ≠ t := by
            constructor
            · rintro rfl; exact hc (.inr (sw_h _ _))
            · rintro rfl; exact hc (.inl (sw_t _ _))
          exact sw_other hc'.1 hc'.2
        by_cases hv : S v
        · rw [kempe_in hv]; exact C.sym _ _ _ e
        · rw [kempe_out hv]; rw [hc1] at e; exact C.sym _ _ _ e
    · rw [kempe_out hu] at e
      by_cases hv : S v
      · rw [kempe_in hv]
        by_cases hc : c = h ∨ c = t
        · exact absurd ((back _ _ _ hc e).mpr hv) hu
        · rw [sw_other (fun q => hc (.inl q)) (fun q => hc (.inr q))]; exact C.sym _ _ _ e
      · rw [kempe_out hv]; exact C.sym _ _ _ e
  · intro i c v e
    obtain ⟨c', e'⟩ := val _ _ _ e
    exact C.bipR _ _ _ e'
  · intro i c v e
    obtain ⟨c', e'⟩ := val _ _ _ e
    exact C.bipT _ _ _ e'
  · intro u c v e
    by_cases hu : S u
    · rw [kempe_in hu] at e
      have := C.lt _ _ _ e
      have := sw_lt hh ht this
      rwa [sw_sw] at this
    · rw [kempe_out hu] at e; exact C.lt _ _ _ e
  · intro i t
    rw [← C.mem]
    constructor
    · rintro ⟨c, e⟩; exact val _ _ _ e
    · rintro ⟨c, e⟩; exact val' _ _ _ e
  · intro u c c' v e e'
    by_cases hu : S u
    · rw [kempe_in hu] at e e'; exact sw_inj (C.uq _ _ _ _ e e')
    · rw [kempe_out hu] at e e'; exact C.uq _ _ _ _ e e'
theorem put_col {P : Pt} {D : List (Nat × Nat)} {m : Nat} (C : Col P D m) {i t c : Nat} (hc : c < m) (hi : P (.row i) c = none) (ht : P (.th t) c = none) (hn : (i, t) ∉ D) :
    Col (put P (.row i) (.th t) c) (D ++ [(i, t)]) m := by
  have pr : ∀ j k, put P (.row i) (.th t) c (.row j) k = if j = i ∧ k = c then some (.th t) else P (.row j) k := by
    intro j k; unfold put; rw [if_neg (by simp)]; simp
  have pt : ∀ j k, put P (.row i) (.th t) c (.th j) k = if j = t ∧ k = c then some (.row i) else P (.th j) k := by
    intro j k; unfold put; simp
  refine ⟨?_, ?_, ?_, ?_, ?_, ?_⟩
  · intro u v k e
    cases u with
    | row j =>
      rw [pr] at e
      split at e
      · rename_i q; obtain ⟨rfl, rfl⟩ := q; cases e; rw [pt, if_pos ⟨rfl, rfl⟩]
      · obtain ⟨s, rfl⟩ := C.bipR _ _ _ e
        rw [pt]
        split
        · rename_i q; obtain ⟨rfl, rfl⟩ := q
          have := C.sym _ _ _ e; rw [ht] at this; cases this
        · exact C.sym _ _ _ e
    | th s =>
      rw [pt] at e
      split at e
      · rename_i q; obtain ⟨rfl, rfl⟩ := q; cases e; rw [pr, if_pos ⟨rfl, rfl⟩]
      · obtain ⟨j, rfl⟩ := C.bipT _ _ _ e
        rw [pr]
        split
        · rename_i q; obtain ⟨rfl, rfl⟩ := q
          have := C.sym _ _ _ e; rw [hi] at this; cases this
        · exact C.sym _ _ _ e
  · intro j k v e
    rw [pr] at e
    split at e
    · cases e; exact ⟨_, rfl⟩
    · exact C.bipR _ _ _ e
  · intro j k v e
    rw [pt] at e
    split at e
    · cases e; exact ⟨_, rfl⟩
    · exact C.bipT _ _ _ e
  · intro u k v e
    cases u with
    | row j =>
      rw [pr] at e
      split at e
      · omega
      · exact C.lt _ _ _ e
    | th j =>
      rw [pt] at e
      split at e
      · omega
      · exact C.lt _ _ _ e
  · intro j s
    rw [List.mem_append, ← C.mem]
    constructor
    · rintro ⟨k, e⟩
      rw [pr] at e
      split at e
      · rename_i q; obtain ⟨rfl, rfl⟩ := q; cases e; exact .inr (by simp)
      · exact .inl ⟨k, e⟩
    · rintro (⟨k, e⟩ | e)
      · refine ⟨k, ?_⟩
        rw [pr]
        split
        · rename_i q; obtain ⟨rfl, rfl⟩ := q; rw [hi] at e; cases e
        · exact e
      · simp at e
        obtain ⟨rfl, rfl⟩ := e
        exact ⟨c, by rw [pr, if_pos ⟨rfl, rfl⟩]⟩
  · intro u k k' v e e'
    cases u with
    | row j =>
      rw [pr] at e e'
      split at e
      · rename_i q; obtain ⟨rfl, rfl⟩ := q
        cases e
        split at e'
        · rename_i q; exact q.2.symm
        · exact absurd ((C.mem _ _).mp ⟨_, e'⟩) hn
      · split at e'
        · rename_i q; obtain ⟨rfl, rfl⟩ := q
          cases e'
          exact absurd ((C.mem _ _).mp ⟨_, e⟩) hn
        · exact C.uq _ _ _ _ e e'
    | th j =>
      rw [pt] at e e'
      split at e
      · rename_i q; obtain ⟨rfl, rfl⟩ := q
        cases e
        split at e'
        · rename_i q; exact q.2.symm
        · exact absurd ((C.mem _ _).mp ⟨_, C.sym _ _ _ e'⟩) hn
      · split at e'
        · rename_i q; obtain ⟨rfl, rfl⟩ := q
          cases e'
          exact absurd ((C.mem _ _).mp ⟨_, C.sym _ _ _ e⟩) hn
        · exact C.uq _ _ _ _ e e'

/-! ### chains -/
def col (h t k : Nat) : Nat := if k % 2 = 0 then h else t
theorem col_succ (h t k : Nat) : col h t (k + 1) = col t h k := by
  unfold col
  rcases Nat.mod_two_eq_zero_or_one k with e | e
  · rw [if_neg (by omega), if_pos e]
  · rw [if_pos (by omega), if_neg (by omega)]
theorem sw_col (h t k : Nat) : sw h t (col h t k) = col t h k := by
  unfold col
  split
  · exact sw_h h t
  · exact sw_t h t
/-- a way: from each node to the next one by the two rounds in turn -/
structure Way (P : Pt) (h t : Nat) (ns : List Nd) : Prop where
  ne : 0 < ns.length
  st : ∀ k (hk : k + 1 < ns.length), P (ns[k]) (col h t k) = some (ns[k + 1])
structure Chain (P : Pt) (h t : Nat) (x : Nd) (ns : List Nd) : Prop where
  way : Way P h t ns
  fst : ns[0]? = some x
  stop : ∀ y, ns[ns.length - 1]? = some y → P y (col h t (ns.length - 1)) = none
theorem Way.snoc {P : Pt} {h t : Nat} {ns : List Nd} (w : Way P h t ns) {x y : Nd} (hx : ns[ns.length - 1]? = some x) (hy : P x (col h t (ns.length - 1)) = some y) : Way P h t (ns ++ [y]) := by
  refine ⟨by simp, fun k hk => ?_⟩
  simp at hk
  have ne := w.ne
  by_cases hk' : k + 1 < ns.length
  · rw [List.getElem_append_left (by omega), List.getElem_append_left hk']
    exact w.st k hk'
  · have e : k = ns.length - 1 := by omega
    subst e
    rw [List.getElem_append_left (by omega), List.getElem_append_right (by omega)]
    rw [List.getElem?_eq_getElem (by omega)] at hx
    cases hx
    simp [hy]
theorem Way.parity {P : Pt} {D : List (Nat × Nat)} {m : Nat} (C : Col P D m) {h t : Nat} {ns : List Nd} (w : Way P h t ns) {x : Nat} (h0 : ns[0]? = some (.th x)) :
    ∀ k (hk : k < ns.length), (k % 2 = 0 → ∃ s, ns[k] = .th s) ∧ (k % 2 = 1 → ∃ s, ns[k] = .row s) := by
  intro k
  induction k with
  | zero =>
    intro hk
    rw [List.getElem?_eq_getElem hk] at h0
    exact ⟨fun _ => ⟨x, Option.some.inj h0⟩, fun q => by omega⟩
  | succ k ih =>
    intro hk
    obtain ⟨i1, i2⟩ := ih (by omega)
    have s := w.st k hk
    constructor
    · intro q
      obtain ⟨r, er⟩ := i2 (by omega)
      rw [er] at s
      exact C.bipR _ _ _ s
    · intro q
      obtain ⟨r, er⟩ := i1 (by omega)
      rw [er] at s
      exact C.bipT _ _ _ s
theorem Way.apart {P : Pt} {D : List (Nat × Nat)} {m : Nat} (C : Col P D m) {h t : Nat} {ns : List Nd} (w : Way P h t ns) {x : Nat} (h0 : ns[0]? = some (.th x)) (ht : P (.th x) t = none) :
    ∀ i j (hi : i < ns.length) (hj : j < ns.length), i < j → ns[i] ≠ ns[j] := by
  intro i
  induction i with
  | zero =>
    intro j hi hj hij e
    obtain ⟨p1, p2⟩ := w.parity C h0 j hj
    have e0 : ns[0] = .th x := by rw [List.getElem?_eq_getElem hi] at h0; exact Option.some.inj h0
    have hj2 : j % 2 = 0 := by
      rcases Nat.mod_two_eq_zero_or_one j with q | q
      · exact q
      · obtain ⟨s, es⟩ := p2 q; rw [← e, e0] at es; cases es
    obtain ⟨k, rfl⟩ : ∃ k, j = k + 1 := ⟨j - 1, by omega⟩
    have s := C.sym _ _ _ (w.st k hj)
    rw [← e, e0] at s
    have : col h t k = t := by unfold col; rw [if_neg (by omega)]
    rw [this, ht] at s; cases s
  | succ i ih =>
    intro j hi hj hij e
    obtain ⟨k, rfl⟩ : ∃ k, j = k + 1 := ⟨j - 1, by omega⟩
    have par : i % 2 = k % 2 := by
      obtain ⟨p1, p2⟩ := w.parity C h0 (i + 1) hi
      obtain ⟨q1, q2⟩ := w.parity C h0 (k + 1) hj
      rcases Nat.mod_two_eq_zero_or_one (i + 1) with a | a <;> rcases Nat.mod_two_eq_zero_or_one (k + 1) with b | b
      · omega
      · obtain ⟨s, es⟩ := p1 a; obtain ⟨r, er⟩ := q2 b; rw [es, er] at e; cases e
      · obtain ⟨s, es⟩ := p2 a; obtain ⟨r, er⟩ := q1 b; rw [es, er] at e; cases e
      · omega
    have s1 := C.sym _ _ _ (w.st i hi)
    have s2 := C.sym _ _ _ (w.st k hj)
    have ec : col h t i = col h t k := by unfold col; rw [par]
    rw [e, ec, s2] at s1
    exact ih k (by omega) (by omega) (by omega) (Option.some.inj s1).symm
theorem Way.nodup {P : Pt} {D : List (Nat × Nat)} {m : Nat} (C : Col P D m) {h t : Nat} {ns : List Nd} (w : Way P h t ns) {x : Nat} (h0 : ns[0]? = some (.th x)) (ht : P (.th x) t = none) : ns.Nodup := by
  rw [List.nodup_iff_pairwise_ne, List.pairwise_iff_getElem]
  intro i j hi hj hij
  exact w.apart C h0 ht i j hi hj hij
theorem nodup_len {α : Type} [DecidableEq α] : ∀ {l u : List α}, l.Nodup → (∀ x ∈ l, x ∈ u) → l.length ≤ u.length
  | [], u, _, _ => Nat.zero_le _
  | a :: l, u, nd, h => by
    have nd' := List.nodup_cons.mp nd
    have ha := h a List.mem_cons_self
    have : l.length ≤ (u.erase a).length := nodup_len nd'.2 fun x hx => by
      have hne : x ≠ a := fun q => by subst q; exact nd'.1 hx
      exact (List.mem_erase_of_ne hne).mpr (h x (List.mem_cons_of_mem _ hx))
    have e := List.length_erase_of_mem ha
    have : 0 < u.length := List.length_pos_of_mem ha
    simp only [List.length_cons]
    omega
def nodesOf (D : List (Nat × Nat)) : List Nd := D.flatMap fun p => [.row p.1, .th p.2]
theorem nodesOf_len (D : List (Nat × Nat)) : (nodesOf D).length = 2 * D.length := by
  unfold nodesOf
  induction D with
  | nil => rfl
  | cons p D ih => simp [ih]; omega
theorem Col.node {P : Pt} {D : List (Nat × Nat)} {m : Nat} (C : Col P D m) {u v : Nd} {c : Nat} (e : P u c = some v) : v ∈ nodesOf D := by
  unfold nodesOf
  rw [List.mem_flatMap]
  cases u with
  | row i =>
    obtain ⟨t, rfl⟩ := C.bipR _ _ _ e
    exact ⟨(i, t), (C.mem _ _).mp ⟨c, e⟩, by simp⟩
  | th t =>
    obtain ⟨i, rfl⟩ := C.bipT _ _ _ e
    exact ⟨(i, t), (C.mem _ _).mp ⟨c, C.sym _ _ _ e⟩, by simp⟩
theorem Way.short {P : Pt} {D : List (Nat × Nat)} {m : Nat} (C : Col P D m) {h t : Nat} {ns : List Nd} (w : Way P h t ns) {x : Nat} (h0 : ns[0]? = some (.th x)) (ht : P (.th x) t = none) : ns.length ≤ 2 * D.length + 1 := by
  have := nodup_len (u := .th x :: nodesOf D) (w.nodup C h0 ht) ?_
  · simpa [nodesOf_len] using this
  · intro y hy
    obtain ⟨k, hk, rfl⟩ := List.getElem_of_mem hy
    cases k with
    | zero =>
      rw [List.getElem?_eq_getElem hk] at h0
      rw [Option.some.inj h0]
      exact List.mem_cons_self
    | succ k => exact List.mem_cons_of_mem _ (C.node (w.st k hk))
/-- the way is closed: a neighbour by the two rounds of a node of it is in it -/
theorem Chain.closed {P : Pt} {D : List (Nat × Nat)} {m : Nat} (C : Col P D m) {h t : Nat} {ns : List Nd} {x : Nat} (ch : Chain P h t (.th x) ns) (ht : P (.th x) t = none) :
    ∀ u v c, u ∈ ns → (c = h ∨ c = t) → P u c = some v → v ∈ ns := by
  intro u v c hu hc e
  obtain ⟨k, hk, rfl⟩ := List.getElem_of_mem hu
  have e0 : ∀ (q : 0 < ns.length), ns[0] = .th x := fun q => by have := ch.fst; rw [List.getElem?_eq_getElem q] at this; exact Option.some.inj this
  by_cases hck : c = col h t k
  · by_cases hl : k + 1 < ns.length
    · have s := ch.way.st k hl
      rw [← hck, e] at s
      cases s
      exact List.getElem_mem _
    · have : k = ns.length - 1 := by omega
      subst this
      have s := ch.stop _ (List.getElem?_eq_getElem hk)
      rw [← hck, e] at s; cases s
  · cases k with
    | zero =>
      have : c = t := by
        unfold col at hck; simp at hck
        rcases hc with rfl | rfl
        · exact absurd rfl hck
        · rfl
      rw [this, e0, ht] at e; cases e
    | succ k =>
      have : c = col h t k := by
        unfold col at hck ⊢
        rcases Nat.mod_two_eq_zero_or_one k with q | q
        · rw [if_neg (by omega)] at hck; rw [if_pos q]
          rcases hc with rfl | rfl
          · rfl
          · exact absurd rfl hck
        · rw [if_pos (by omega)] at hck; rw [if_neg (by omega)]
          rcases hc with rfl | rfl
          · exact absurd rfl hck
          · rfl
      have s := C.sym _ _ _ (ch.way.st k hk)
      rw [← this, e] at s
      cases s
      exact List.getElem_mem _
theorem Chain.unique {P : Pt} {h t : Nat} {x : Nd} {ns ns' : List Nd} (a : Chain P h t x ns) (b : Chain P h t x ns') : ns = ns' := by
  have key : ∀ k, (hk : k < ns.length) → (hk' : k < ns'.length) → ns[k] = ns'[k] := by
    intro k
    induction k with
    | zero =>
      intro hk hk'
      have h1 := a.fst; have h2 := b.fst
      rw [List.getElem?_eq_getElem hk] at h1
      rw [List.getElem?_eq_getElem hk'] at h2
      exact (Option.some.inj h1).trans (Option.some.inj h2).symm
    | succ k ih =>
      intro hk hk'
      have s1 := a.way.st k hk
      have s2 := b.way.st k hk'
      rw [ih (by omega) (by omega), s2] at s1
      exact (Option.some.inj s1).symm
  have la := a.way.ne
  have lb := b.way.ne
  have len : ns.length = ns'.length := by
    rcases Nat.lt_trichotomy ns.length ns'.length with q | q | q
    · have s := b.way.st (ns.length - 1) (by omega)
      rw [← key (ns.length - 1) (by omega) (by omega), a.stop _ (List.getElem?_eq_getElem (by omega))] at s
      cases s
    · exact q
    · have s := a.way.st (ns'.length - 1) (by omega)
      rw [key (ns'.length - 1) (by omega) (by omega), b.stop _ (List.getElem?_eq_getElem (by omega))] at s
      cases s
  exact List.ext_getElem len key
/-- Rounds.add -/
noncomputable def addP (P : Pt) (m : Nat) (i t : Nat) : Pt :=
  let h := free P m (.row i)
  let k := free P m (.th t)
  put (if h = k then P else kempe P (fun u => ∃ ns, Chain P h k (.th t) ns ∧ u ∈ ns) h k) (.row i) (.th t) h
theorem free_ok {P : Pt} {m : Nat} {u : Nd} (h : ∃ c, c < m ∧ P u c = none) : free P m u < m ∧ P u (free P m u) = none := by
  obtain ⟨c, hc, hn⟩ := h
  have hm : c ∈ (List.range m).filter fun c => (P u c).isNone := by rw [List.mem_filter]; simp [hc, hn]
  unfold free
  cases e : (List.range m).filter fun c => (P u c).isNone with
  | nil => rw [e] at hm; cases hm
  | cons a l =>
    have : a ∈ (List.range m).filter fun c => (P u c).isNone := by rw [e]; exact List.mem_cons_self
    rw [List.mem_filter] at this
    simpa using this
/-- a node in fewer pairs than rounds has a free round -/
theorem exists_free {P : Pt} {m : Nat} {u : Nd} (N : List Nd) (hN : N.length < m) (h : ∀ c v, P u c = some v → v ∈ N) (uq : ∀ c c' v, P u c = some v → P u c' = some v → c = c') : ∃ c, c < m ∧ P u c = none := by
  refine Classical.byContradiction fun hn => ?_
  have hs : ∀ c, c < m → ∃ v, P u c = some v := fun c hc => by
    cases e : P u c with
    | none => exact absurd ⟨c, hc, e⟩ hn
    | some v => exact ⟨v, rfl⟩
  have nd : ((List.range m).map fun c => (P u c).getD (.row 0)).Nodup := by
    rw [List.nodup_iff_pairwise_ne, List.pairwise_map]
    refine List.Pairwise.imp_of_mem (R := fun a b => a < b) ?_ List.pairwise_lt_range
    intro a b ha hb hab q
    obtain ⟨v, hv⟩ := hs a (List.mem_range.mp ha)
    obtain ⟨v', hv'⟩ := hs b (List.mem_range.mp hb)
    rw [hv, hv'] at q
    simp at q; subst q
    have := uq _ _ _ hv hv'
    omega
  have := nodup_len nd (u := N) fun x hx => by
    rw [List.mem_map] at hx
    obtain ⟨c, hc, rfl⟩ := hx
    obtain ⟨v, hv⟩ := hs c (List.mem_range.mp hc)
    rw [hv]; exact h c v hv
  simp at this
  omega
def degR (D : List (Nat × Nat)) (i : Nat) : Nat := (D.filter fun p => p.1 == i).length
def degT (D : List (Nat × Nat)) (t : Nat) : Nat := (D.filter fun p => p.2 == t).length
theorem free_row {P : Pt} {D : List (Nat × Nat)} {m : Nat} (C : Col P D m) {i : Nat} (h : degR D i < m) : ∃ c, c < m ∧ P (.row i) c = none := by
  refine exists_free ((D.filter fun p => p.1 == i).map fun p => .th p.2) (by simpa [degR] using h) ?_ (fun c c' v => C.uq _ c c' v)
  intro c v e
  obtain ⟨t, rfl⟩ := C.bipR _ _ _ e
  rw [List.mem_map]
  exact ⟨(i, t), by rw [List.mem_filter]; exact ⟨(C.mem _ _).mp ⟨c, e⟩, by simp⟩, rfl⟩
theorem free_th {P : Pt} {D : List (Nat × Nat)} {m : Nat} (C : Col P D m) {t : Nat} (h : degT D t < m) : ∃ c, c < m ∧ P (.th t) c = none := by
  refine exists_free ((D.filter fun p => p.2 == t).map fun p => .row p.1) (by simpa [degT] using h) ?_ (fun c c' v => C.uq _ c c' v)
  intro c v e
  obtain ⟨i, rfl⟩ := C.bipT _ _ _ e
  rw [List.mem_map]
  exact ⟨(i, t), by rw [List.mem_filter]; exact ⟨(C.mem _ _).mp ⟨c, C.sym _ _ _ e⟩, by simp⟩, rfl⟩
/-- what add meets: free rounds, the exchange along the chain -/
structure AddOk (P : Pt) (D : List (Nat × Nat)) (m i t : Nat) : Prop where
  hl : free P m (.row i) < m
  hn : P (.row i) (free P m (.row i)) = none
  kl : free P m (.th t) < m
  kn : P (.th t) (free P m (.th t)) = none
theorem addOk {P : Pt} {D : List (Nat × Nat)} {m i t : Nat} (C : Col P D m) (hi : degR D i < m) (ht : degT D t < m) : AddOk P D m i t :=
  ⟨(free_ok (free_row C hi)).1, (free_ok (free_row C hi)).2, (free_ok (free_th C ht)).1, (free_ok (free_th C ht)).2⟩
theorem add_col {P : Pt} {D : List (Nat × Nat)} {m i t : Nat} (C : Col P D m) (hi : degR D i < m) (ht : degT D t < m) (hn : (i, t) ∉ D) : Col (addP P m i t) (D ++ [(i, t)]) m := by
  have A := addOk C hi ht
  unfold addP
  generalize eh : free P m (.row i) = h
  generalize ek : free P m (.th t) = k
  have A1 := A.hl; have A2 := A.hn; have A3 := A.kl; have A4 := A.kn
  rw [eh] at A1 A2; rw [ek] at A3 A4
  simp only
  by_cases hk : h = k
  · rw [if_pos hk]
    exact put_col C A1 A2 (by rw [hk]; exact A4) hn
  · rw [if_neg hk]
    have cl : ∀ u v c, (∃ ns, Chain P h k (.th t) ns ∧ u ∈ ns) → (c = h ∨ c = k) → P u c = some v → ∃ ns, Chain P h k (.th t) ns ∧ v ∈ ns := by
      rintro u v c ⟨ns, ch, hu⟩ hc e
      exact ⟨ns, ch, ch.closed C A4 u v c hu hc e⟩
    refine put_col (kempe_col C A1 A3 cl) A1 ?_ ?_ hn
    · have out : ¬ ∃ ns, Chain P h k (.th t) ns ∧ Nd.row i ∈ ns := by
        rintro ⟨ns, ch, hm⟩
        obtain ⟨j, hj, e⟩ := List.getElem_of_mem hm
        obtain ⟨p1, p2⟩ := ch.way.parity C ch.fst j hj
        rcases Nat.mod_two_eq_zero_or_one j with q | q
        · obtain ⟨s, es⟩ := p1 q; rw [e] at es; cases es
        · obtain ⟨j', rfl⟩ : ∃ j', j = j' + 1 := ⟨j - 1, by omega⟩
          have s := C.sym _ _ _ (ch.way.st j' hj)
          have ec : col h k j' = h := by unfold col; rw [if_pos (by omega)]
          rw [e, ec, A2] at s; cases s
      rw [kempe_out out]; exact A2
    · by_cases inn : ∃ ns, Chain P h k (.th t) ns ∧ Nd.th t ∈ ns
      · rw [kempe_in inn, sw_h]; exact A4
      · -- no chain: then there is none at all, but h is free at once
        rw [kempe_out inn]
        cases e : P (.th t) h with
        | none => rfl
        | some v =>
          exfalso
          -- chains exist: lengthen a way while it can be lengthened
          have ex : ∀ n (ns : List Nd), Way P h k ns → ns[0]? = some (.th t) → 2 * D.length + 2 ≤ ns.length + n → ∃ ns', Chain P h k (.th t) ns' := by
            intro n
            induction n with
            | zero =>
              intro ns w f0 hl
              have := w.short C f0 A4
              omega
            | succ n ih =>
              intro ns w f0 hl
              have ne := w.ne
              have hx := List.getElem?_eq_getElem (l := ns) (i := ns.length - 1) (by omega)
              cases q : P ns[ns.length - 1] (col h k (ns.length - 1)) with
              | none => exact ⟨ns, w, f0, fun y hy => by rw [hx] at hy; cases hy; exact q⟩
              | some y => exact ih (ns ++ [y]) (w.snoc hx q) (by rw [List.getElem?_append_left ne]; exact f0) (by simp; omega)
          obtain ⟨ns, ch⟩ := ex (2 * D.length + 1) [.th t] ⟨by simp, fun k hk => by simp at hk⟩ rfl (by simp; omega)
          refine inn ⟨ns, ch, ?_⟩
          exact List.mem_of_getElem? ch.fst
end K12
set_option linter.all false
/-! K12f: Latin tables, what formulas tell in them, plain forms tell the same. Plain Lean. -/
namespace K12
def cell (T : List (List Nat)) (i j : Nat) : Nat := (T.getD i []).getD j 0
structure Latin (n : Nat) (T : List (List Nat)) : Prop where
  len : T.length = n
  row : ∀ r ∈ T, r.length = n ∧ r.Nodup ∧ ∀ x ∈ r, x < n
  col : ∀ i i' j, i < n → i' < n → j < n → cell T i j = cell T i' j → i = i'
theorem getD_lt {α : Type} {l : List α} {i : Nat} {d : α} (h : i < l.length) : l.getD i d = l[i] := by
  simp [List.getD, List.getElem?_eq_getElem h]
theorem nodup_all {n : Nat} {l : List Nat} (nd : l.Nodup) (hl : l.length = n) (hx : ∀ x ∈ l, x < n) : ∀ y, y < n → y ∈ l := by
  intro y hy
  refine Classical.byContradiction fun hn => ?_
  have h1 : (y :: l).Nodup := List.nodup_cons.mpr ⟨hn, nd⟩
  have h2 : ∀ x ∈ y :: l, x ∈ List.range n := by
    intro x hx'
    rcases List.mem_cons.mp hx' with rfl | h
    · exact List.mem_range.mpr hy
    · exact List.mem_range.mpr (hx x h)
  have h3 : (y :: l).length ≤ (List.range n).length := by
    have : ∀ {l u : List Nat}, l.Nodup → (∀ x ∈ l, x ∈ u) → l.length ≤ u.length := by
      intro l
      induction l with
      | nil => intro u _ _; exact Nat.zero_le _
      | cons a l ih =>
        intro u nd h
        have nd' := List.nodup_cons.mp nd
        have ha := h a List.mem_cons_self
        have h1 : l.length ≤ (u.erase a).length := ih nd'.2 fun x hx => by
          have hne : x ≠ a := fun q => by subst q; exact nd'.1 hx
          exact (List.mem_erase_of_ne hne).mpr (h x (List.mem_cons_of_mem _ hx))
        have e := List.length_erase_of_mem ha
        have : 0 < u.length := List.length_pos_of_mem ha
        simp only [List.length_cons]
        omega
    exact this h1 h2
  simp at h3
  omega
theorem nodup_inj {α : Type} {l : List α} (nd : l.Nodup) {i j : Nat} (hi : i < l.length) (hj : j < l.length) (h : l[i] = l[j]) : i = j := (List.getElem_inj nd).mp h
section
variable {n : Nat} {T : List (List Nat)}
theorem Latin.rowOf (L : Latin n T) {i : Nat} (hi : i < n) : (T.getD i []).length = n ∧ (T.getD i []).Nodup ∧ ∀ x ∈ T.getD i [], x < n := by
  rw [getD_lt (by rw [L.len]; exact hi)]
  exact L.row _ (List.getElem_mem _)
theorem Latin.cell_lt (L : Latin n T) {i j : Nat} (hi : i < n) (hj : j < n) : cell T i j < n := by
  obtain ⟨h1, h2, h3⟩ := L.rowOf hi
  unfold cell
  rw [getD_lt (by rw [h1]; exact hj)]
  exact h3 _ (List.getElem_mem _)
theorem Latin.row_inj (L : Latin n T) {i j j' : Nat} (hi : i < n) (hj : j < n) (hj' : j' < n) (h : cell T i j = cell T i j') : j = j' := by
  obtain ⟨h1, h2, h3⟩ := L.rowOf hi
  unfold cell at h
  rw [getD_lt (l := T.getD i []) (by rw [h1]; exact hj), getD_lt (l := T.getD i []) (by rw [h1]; exact hj')] at h
  exact nodup_inj h2 _ _ h
theorem Latin.row_ex (L : Latin n T) {i z : Nat} (hi : i < n) (hz : z < n) : ∃ j, j < n ∧ cell T i j = z := by
  obtain ⟨h1, h2, h3⟩ := L.rowOf hi
  obtain ⟨j, hj, e⟩ := List.getElem_of_mem (nodup_all h2 h1 h3 z hz)
  refine ⟨j, by omega, ?_⟩
  unfold cell
  rw [getD_lt hj, e]
theorem Latin.col_ex (L : Latin n T) {j z : Nat} (hj : j < n) (hz : z < n) : ∃ i, i < n ∧ cell T i j = z := by
  have nd : ((List.range n).map fun i => cell T i j).Nodup := by
    rw [List.nodup_iff_pairwise_ne, List.pairwise_map]
    refine List.Pairwise.imp_of_mem (R := fun a b => a < b) ?_ List.pairwise_lt_range
    intro a b ha hb hab q
    have := L.col a b j (List.mem_range.mp ha) (List.mem_range.mp hb) hj q
    omega
  have hm := nodup_all nd (by simp) (by
    intro x hx
    obtain ⟨i, hi, rfl⟩ := List.mem_map.mp hx
    exact L.cell_lt (List.mem_range.mp hi) hj) z hz
  obtain ⟨i, hi, e⟩ := List.mem_map.mp hm
  exact ⟨i, List.mem_range.mp hi, e⟩
/-- the first number below n with a property, as the law finds it -/
def firstK (n : Nat) (p : Nat → Bool) : Nat := ((List.range n).filter p).headD 0
theorem firstK_is {p : Nat → Bool} {k : Nat} (hk : k < n) (hp : p k = true) (un : ∀ k', k' < n → p k' = true → k' = k) : firstK n p = k := by
  unfold firstK
  cases e : (List.range n).filter p with
  | nil =>
    have : k ∈ (List.range n).filter p := List.mem_filter.mpr ⟨List.mem_range.mpr hk, hp⟩
    rw [e] at this; cases this
  | cons a l =>
    have : a ∈ (List.range n).filter p := by rw [e]; exact List.mem_cons_self
    obtain ⟨h1, h2⟩ := List.mem_filter.mp this
    exact un a (List.mem_range.mp h1) h2
def opM (n : Nat) (T : List (List Nat)) : W → Nat → Nat → Nat
  | .wi, x, y => cell T x y
  | .be, x, z => firstK n fun k => cell T x k == z
  | .ah, y, z => firstK n fun k => cell T k y == z
def Hold (T : List (List Nat)) (r : T3) : Prop := cell T r.1 r.2.1 = r.2.2
theorem op_hold (L : Latin n T) (w : W) {x y : Nat} (hx : x < n) (hy : y < n) : opM n T w x y < n ∧ Hold T (mkRow w x y (opM n T w x y)) := by
  cases w with
  | wi => exact ⟨L.cell_lt hx hy, rfl⟩
  | be =>
    obtain ⟨j, hj, e⟩ := L.row_ex hx hy
    have : opM n T .be x y = j := firstK_is hj (by simp [e]) fun k' hk' q => L.row_inj hx hk' hj (by simp at q; omega)
    rw [this]; exact ⟨hj, e⟩
  | ah =>
    obtain ⟨j, hj, e⟩ := L.col_ex hx hy
    have : opM n T .ah x y = j := firstK_is hj (by simp [e]) fun k' hk' q => L.col k' j x hk' hj hx (by simp at q; omega)
    rw [this]; exact ⟨hj, e⟩
theorem op_of (L : Latin n T) (w : W) {x y t : Nat} (hx : x < n) (hy : y < n) (ht : t < n) (h : Hold T (mkRow w x y t)) : opM n T w x y = t := by
  cases w with
  | wi => exact h
  | be => exact firstK_is ht (by simpa [Hold, mkRow] using h) fun k' hk' q => L.row_inj hx hk' ht (by simp at q; simp [Hold, mkRow] at h; omega)
  | ah => exact firstK_is ht (by simpa [Hold, mkRow] using h) fun k' hk' q => L.col k' t x hk' ht hx (by simp at q; simp [Hold, mkRow] at h; omega)
def valM (n : Nat) (T : List (List Nat)) (th : List Nat) : Fm → Nat
  | .nm k => th.getD k 0
  | .ap w a b => opM n T w (valM n T th a) (valM n T th b)
/-- a world: a table, things for the names, all entries hold -/
structure Wrld (n m : Nat) (T : List (List Nat)) (th : List Nat) (es : List T3) : Prop where
  L : Latin n T
  pos : 0 < n
  len : th.length = m
  lt : ∀ x ∈ th, x < n
  es : ∀ r ∈ es, cell T (th.getD r.1 0) (th.getD r.2.1 0) = th.getD r.2.2 0
variable {m : Nat} {th : List Nat} {es : List T3}
theorem Wrld.thlt (V : Wrld n m T th es) (k : Nat) : th.getD k 0 < n := by
  by_cases h : k < th.length
  · rw [getD_lt h]; exact V.lt _ (List.getElem_mem _)
  · simp [List.getD, List.getElem?_eq_none (Nat.le_of_not_lt h)]; exact V.pos
theorem Wrld.val_lt (V : Wrld n m T th es) : ∀ f, valM n T th f < n
  | .nm k => V.thlt k
  | .ap w a b => (op_hold V.L w (V.val_lt a) (V.val_lt b)).1
theorem Wrld.hold (V : Wrld n m T th es) (w : W) {r : T3} (hr : r ∈ es) : opM n T w (th.getD (pk w r) 0) (th.getD (qk w r) 0) = th.getD (rk w r) 0 := by
  have h := V.es r hr
  refine op_of V.L w (V.thlt _) (V.thlt _) (V.thlt _) ?_
  cases w <;> exact h
theorem Wrld.vroot (V : Wrld n m T th es) (R : Rows m es) (k : Nat) : th.getD (root (closeOf m es).1 k) 0 = th.getD k 0 := by
  refine closeOf_snd (φ := fun k => th.getD k 0) R ?_ k
  intro w r hr r' hr' h1 h2
  simp only at h1 h2 ⊢
  rw [← V.hold w hr, ← V.hold w hr', h1, h2]
theorem Wrld.vtold (V : Wrld n m T th es) (R : Rows m es) {w : W} {a b t : Nat} (h : told (closeOf m es).2 w a b = some t) : opM n T w (th.getD a 0) (th.getD b 0) = th.getD t 0 := by
  obtain ⟨r, hr, e⟩ := (closeOf_rows R _).mp (told_mem h)
  have h1 : root (closeOf m es).1 (pk w r) = a := by have := congrArg (pk w) e; simpa using this
  have h2 : root (closeOf m es).1 (qk w r) = b := by have := congrArg (qk w) e; simpa using this
  have h3 : root (closeOf m es).1 (rk w r) = t := by have := congrArg (rk w) e; simpa using this
  rw [← h1, ← h2, ← h3, V.vroot R, V.vroot R, V.vroot R]
  exact V.hold w hr
theorem Wrld.rule (V : Wrld n m T th es) {w : W} {a b X : Fm} (h : ruleTold w a b = some X) : opM n T w (valM n T th a) (valM n T th b) = valM n T th X := by
  have key : ∀ (v w : W) (x y t : Nat), x < n → y < n → t < n → ∀ x' y' t', mkRow v x y (opM n T v x y) = mkRow w x' y' t' → x' < n → y' < n → t' < n → opM n T w x' y' = t' := by
    intro v w x y t hx hy ht x' y' t' e hx' hy' ht'
    exact op_of V.L w hx' hy' ht' (by rw [← e]; exact (op_hold V.L v hx hy).2)
  unfold ruleTold at h
  cases qb : ruleB w a b with
  | some g =>
    rw [qb] at h; cases h
    cases b with
    | nm => simp [ruleB] at qb
    | ap v c d =>
      have hc := V.val_lt c
      have hd := V.val_lt d
      have ho := (op_hold V.L v hc hd).1
      cases w <;> cases v <;> simp [ruleB] at qb <;> obtain ⟨rfl, rfl⟩ := qb
      all_goals
        simp only [valM]
        first
          | (refine key .wi _ _ _ _ hc hd ho _ _ _ rfl ?_ ?_ ?_ <;> assumption)
          | (refine key .be _ _ _ _ hc hd ho _ _ _ rfl ?_ ?_ ?_ <;> assumption)
          | (refine key .ah _ _ _ _ hc hd ho _ _ _ rfl ?_ ?_ ?_ <;> assumption)
  | none =>
    rw [qb] at h
    replace h : ruleA w b a = some X := h
    cases a with
    | nm => simp [ruleA] at h
    | ap v c d =>
      have hc := V.val_lt c
      have hd := V.val_lt d
      have ho := (op_hold V.L v hc hd).1
      cases w <;> cases v <;> simp [ruleA] at h <;> obtain ⟨rfl, rfl⟩ := h
      all_goals
        simp only [valM]
        first
          | (refine key .wi _ _ _ _ hc hd ho _ _ _ rfl ?_ ?_ ?_ <;> assumption)
          | (refine key .be _ _ _ _ hc hd ho _ _ _ rfl ?_ ?_ ?_ <;> assumption)
          | (refine key .ah _ _ _ _ hc hd ho _ _ _ rfl ?_ ?_ ?_ <;> assumption)
theorem Wrld.top (V : Wrld n m T th es) (R : Rows m es) {w : W} {a b X : Fm} (h : topTold (closeOf m es).1 (closeOf m es).2 w a b = some X) : opM n T w (valM n T th a) (valM n T th b) = valM n T th X := by
  unfold topTold at h
  cases q : entryTold (closeOf m es).1 (closeOf m es).2 w a b with
  | some k =>
    rw [q] at h; cases h
    cases a with
    | ap => simp [entryTold] at q
    | nm a =>
      cases b with
      | ap => simp [entryTold] at q
      | nm b =>
        have := V.vtold R (show told _ w _ _ = some k from q)
        rw [V.vroot R, V.vroot R] at this
        exact this
  | none => rw [q] at h; exact V.rule h
/-- a plain form tells what the formula tells -/
theorem Wrld.plain (V : Wrld n m T th es) (R : Rows m es) : ∀ f, valM n T th (plainF (closeOf m es).1 (closeOf m es).2 f) = valM n T th f
  | .nm k => V.vroot R k
  | .ap w a b => by
    have ha := V.plain R a
    have hb := V.plain R b
    unfold plainF
    cases q : topTold (closeOf m es).1 (closeOf m es).2 w (plainF (closeOf m es).1 (closeOf m es).2 a) (plainF (closeOf m es).1 (closeOf m es).2 b) with
    | none => simp only [Option.getD, valM, ha, hb]
    | some X =>
      have := V.top R q
      rw [ha, hb] at this
      simp only [Option.getD, valM]
      exact this.symm
end
end K12
set_option linter.all false
/-! K12h: rounds of a whole row of pairs; a block goes on to a Latin table. Plain Lean. -/
namespace K12
theorem nd_filter {α : Type} (p : α → Bool) {l : List α} (h : l.Nodup) : (l.filter p).Nodup := List.Pairwise.sublist List.filter_sublist h
theorem filter_two {α : Type} (p : α → Bool) : ∀ l : List α, (l.filter p).length + (l.filter fun x => !p x).length = l.length
  | [] => rfl
  | a :: l => by
    have := filter_two p l
    rw [List.filter_cons, List.filter_cons]
    cases h : p a <;> simp [h] <;> omega
noncomputable def roundsM (pairs : List (Nat × Nat)) (m : Nat) : Pt := pairs.foldl (fun P p => addP P m p.1 p.2) noPt
theorem degR_app (D E : List (Nat × Nat)) (i : Nat) : degR (D ++ E) i = degR D i + degR E i := by simp [degR]
theorem degT_app (D E : List (Nat × Nat)) (t : Nat) : degT (D ++ E) t = degT D t + degT E t := by simp [degT]
theorem rounds_col {pairs : List (Nat × Nat)} {m : Nat} (nd : pairs.Nodup) (hR : ∀ i, degR pairs i ≤ m) (hT : ∀ t, degT pairs t ≤ m) : Col (roundsM pairs m) pairs m := by
  have key : ∀ (todo done : List (Nat × Nat)) (P : Pt), done ++ todo = pairs → Col P done m → Col (todo.foldl (fun P p => addP P m p.1 p.2) P) pairs m := by
    intro todo
    induction todo with
    | nil => intro done P e C; simp at e; subst e; exact C
    | cons p todo ih =>
      intro done P e C
      obtain ⟨i, t⟩ := p
      have hr := hR i
      have ht := hT t
      rw [← e, degR_app] at hr
      rw [← e, degT_app] at ht
      have h1 : 1 ≤ degR ((i, t) :: todo) i := by simp [degR]
      have h2 : 1 ≤ degT ((i, t) :: todo) t := by simp [degT]
      have hn : (i, t) ∉ done := by
        rw [← e] at nd
        intro hm
        exact (List.nodup_append.mp nd).2.2 _ hm _ List.mem_cons_self rfl
      exact ih (done ++ [(i, t)]) _ (by simp [e]) (add_col C (i := i) (t := t) (by omega) (by omega) hn)
  exact key pairs [] noPt rfl (col_no m)
def dealt (P : Pt) (c i : Nat) : Option Nat := match P (.row i) c with | some (.th t) => some t | _ => none
theorem dealt_iff {P : Pt} {c i t : Nat} : dealt P c i = some t ↔ P (.row i) c = some (.th t) := by
  unfold dealt
  cases P (.row i) c with
  | none => simp
  | some v => cases v <;> simp
theorem full_row {P : Pt} {D : List (Nat × Nat)} {m i : Nat} (C : Col P D m) (Ts : List Nat) (nd : Ts.Nodup) (hl : Ts.length = m) (hm : ∀ t ∈ Ts, (i, t) ∈ D) : ∀ c, c < m → ∃ t, P (.row i) c = some (.th t) := by
  intro c hc
  cases e : P (.row i) c with
  | some v =>
    obtain ⟨t, rfl⟩ := C.bipR _ _ _ e
    exact ⟨t, rfl⟩
  | none =>
    exfalso
    have ex : ∀ t ∈ Ts, ∃ c, P (.row i) c = some (.th t) := fun t ht => (C.mem _ _).mpr (hm t ht)
    let g : Nat → Nat := fun t => ((List.range m).filter fun c => P (.row i) c == some (.th t)).headD 0
    have hg : ∀ t ∈ Ts, P (.row i) (g t) = some (.th t) := by
      intro t ht
      obtain ⟨c', hc'⟩ := ex t ht
      have hcm := C.lt _ _ _ hc'
      show P (.row i) (((List.range m).filter fun c => P (.row i) c == some (.th t)).headD 0) = _
      cases q : (List.range m).filter fun c => P (.row i) c == some (.th t) with
      | nil =>
        have : c' ∈ (List.range m).filter fun c => P (.row i) c == some (.th t) := by rw [List.mem_filter]; exact ⟨List.mem_range.mpr hcm, by simp [hc']⟩
        rw [q] at this; cases this
      | cons a l =>
        have : a ∈ (List.range m).filter fun c => P (.row i) c == some (.th t) := by rw [q]; exact List.mem_cons_self
        rw [List.mem_filter] at this
        simpa using this.2
    have ndg : (Ts.map g).Nodup := by
      rw [List.nodup_iff_pairwise_ne, List.pairwise_map]
      refine List.Pairwise.imp_of_mem (R := fun a b => a ≠ b) ?_ (List.nodup_iff_pairwise_ne.mp nd)
      intro a b ha hb hab q
      have h1 := hg a ha
      have h2 := hg b hb
      rw [q, h2] at h1
      cases h1
      exact hab rfl
    have := nodup_len ndg (u := (List.range m).erase c) (by
      intro x hx
      obtain ⟨t, ht, rfl⟩ := List.mem_map.mp hx
      have h1 := hg t ht
      have hne : g t ≠ c := fun q => by rw [q, e] at h1; cases h1
      exact (List.mem_erase_of_ne hne).mpr (List.mem_range.mpr (C.lt _ _ _ h1)))
    rw [List.length_map, List.length_erase_of_mem (List.mem_range.mpr hc)] at this
    simp at this
    omega
/-! ### pairs by a test -/
def pairsOf (k size : Nat) (p : Nat → Nat → Bool) : List (Nat × Nat) := (List.range k).flatMap fun i => ((List.range size).filter (p i)).map fun t => (i, t)
theorem mem_pairsOf {k size : Nat} {p : Nat → Nat → Bool} {i t : Nat} : (i, t) ∈ pairsOf k size p ↔ i < k ∧ t < size ∧ p i t = true := by
  unfold pairsOf
  rw [List.mem_flatMap]
  constructor
  · rintro ⟨j, hj, h⟩
    obtain ⟨s, hs, e⟩ := List.mem_map.mp h
    cases e
    obtain ⟨h1, h2⟩ := List.mem_filter.mp hs
    exact ⟨List.mem_range.mp hj, List.mem_range.mp h1, h2⟩
  · rintro ⟨h1, h2, h3⟩
    exact ⟨i, List.mem_range.mpr h1, List.mem_map.mpr ⟨t, List.mem_filter.mpr ⟨List.mem_range.mpr h2, h3⟩, rfl⟩⟩
theorem nodup_map_of {α β : Type} {f : α → β} {l : List α} (nd : l.Nodup) (h : ∀ a ∈ l, ∀ b ∈ l, f a = f b → a = b) : (l.map f).Nodup := by
  rw [List.nodup_iff_pairwise_ne, List.pairwise_map]
  refine List.Pairwise.imp_of_mem (R := fun a b => a ≠ b) ?_ (List.nodup_iff_pairwise_ne.mp nd)
  intro a b ha hb hab q
  exact hab (h a ha b hb q)
theorem nodup_pairsOf (k size : Nat) (p : Nat → Nat → Bool) : (pairsOf k size p).Nodup := by
  unfold pairsOf
  induction k with
  | zero => simp
  | succ k ih =>
    rw [List.range_succ, List.flatMap_append, List.nodup_append]
    refine ⟨ih, ?_, ?_⟩
    · simp only [List.flatMap_cons, List.flatMap_nil, List.append_nil]
      exact nodup_map_of (nd_filter _ List.nodup_range) (fun a _ b _ q => (Prod.mk.inj q).2)
    · intro a ha b hb hab
      subst hab
      rw [List.mem_flatMap] at ha hb
      obtain ⟨i, hi, h⟩ := ha
      obtain ⟨j, hj, h'⟩ := hb
      obtain ⟨s, _, e⟩ := List.mem_map.mp h
      obtain ⟨s', _, e'⟩ := List.mem_map.mp h'
      have hi' := List.mem_range.mp hi
      simp at hj
      rw [← e] at e'
      cases e'
      omega
theorem degR_pairsOf (k size : Nat) (p : Nat → Nat → Bool) (i : Nat) : degR (pairsOf k size p) i ≤ ((List.range size).filter (p i)).length := by
  unfold degR
  rw [← List.length_map (f := Prod.snd)]
  refine nodup_len (nodup_map_of (nd_filter _ (nodup_pairsOf k size p)) ?_) ?_
  · intro a ha b hb q
    have h1 := (List.mem_filter.mp ha).2
    have h2 := (List.mem_filter.mp hb).2
    simp at h1 h2
    exact Prod.ext (by rw [h1, h2]) q
  · intro t ht
    obtain ⟨⟨j, s⟩, h, rfl⟩ := List.mem_map.mp ht
    obtain ⟨h1, h2⟩ := List.mem_filter.mp h
    simp at h2; subst h2
    obtain ⟨_, h3, h4⟩ := mem_pairsOf.mp h1
    exact List.mem_filter.mpr ⟨List.mem_range.mpr h3, h4⟩
theorem degT_pairsOf (k size : Nat) (p : Nat → Nat → Bool) (t : Nat) : degT (pairsOf k size p) t ≤ ((List.range k).filter fun i => p i t).length := by
  unfold degT
  rw [← List.length_map (f := Prod.fst)]
  refine nodup_len (nodup_map_of (nd_filter _ (nodup_pairsOf k size p)) ?_) ?_
  · intro a ha b hb q
    have h1 := (List.mem_filter.mp ha).2
    have h2 := (List.mem_filter.mp hb).2
    simp at h1 h2
    exact Prod.ext q (by rw [h1, h2])
  · intro i hi
    obtain ⟨⟨j, s⟩, h, rfl⟩ := List.mem_map.mp hi
    obtain ⟨h1, h2⟩ := List.mem_filter.mp h
    simp at h2; subst h2
    obtain ⟨h3, _, h4⟩ := mem_pairsOf.mp h1
    exact List.mem_filter.mpr ⟨List.mem_range.mpr h3, h4⟩
/-- how many numbers do not stand in a row -/
theorem count_not {N : Nat} {r : List Nat} (nd : r.Nodup) (hx : ∀ x ∈ r, x < N) : ((List.range N).filter fun t => !r.contains t).length = N - r.length := by
  have h1 : ((List.range N).filter fun t => r.contains t).length = r.length := by
    apply Nat.le_antisymm
    · exact nodup_len (nd_filter _ List.nodup_range) fun x hx' => by simpa using (List.mem_filter.mp hx').2
    · exact nodup_len nd fun x h => List.mem_filter.mpr ⟨List.mem_range.mpr (hx x h), by simpa using h⟩
  have h2 : ((List.range N).filter fun t => r.contains t).length + ((List.range N).filter fun t => !r.contains t).length = N := by
    have := filter_two (fun t => r.contains t) (List.range N)
    rw [List.length_range] at this
    exact this
  omega
/-! ### a block, widened and lengthened -/
structure Blk (n N : Nat) (B : List (List Nat)) : Prop where
  len : B.length = n
  row : ∀ r ∈ B, r.length = n ∧ r.Nodup ∧ ∀ x ∈ r, x < N
  col : ∀ i i' j, i < n → i' < n → j < n → cell B i j = cell B i' j → i = i'
def pairsW (B : List (List Nat)) (N : Nat) : List (Nat × Nat) := pairsOf B.length N fun i t => !(B.getD i []).contains t
noncomputable def wideRow (B : List (List Nat)) (N m i : Nat) : List Nat := B.getD i [] ++ (List.range m).map fun c => (dealt (roundsM (pairsW B N) m) c i).getD 0
noncomputable def widenedM (B : List (List Nat)) (N m : Nat) : List (List Nat) := (List.range B.length).map (wideRow B N m)
theorem Blk.rowOf {n N : Nat} {B : List (List Nat)} (b : Blk n N B) {i : Nat} (hi : i < n) : (B.getD i []).length = n ∧ (B.getD i []).Nodup ∧ ∀ x ∈ B.getD i [], x < N := by
  rw [getD_lt (by rw [b.len]; exact hi)]
  exact b.row _ (List.getElem_mem _)
/-- n rows of all N things, nothing twice in a column -/
structure Rect (n N : Nat) (R : List (List Nat)) : Prop where
  len : R.length = n
  row : ∀ r ∈ R, r.length = N ∧ r.Nodup ∧ ∀ x ∈ r, x < N
  col : ∀ i i' j, i < n → i' < n → j < N → cell R i j = cell R i' j → i = i'
section
variable {n : Nat} {B : List (List Nat)}
theorem Blk.col_ (b : Blk n (n + n) B) : Col (roundsM (pairsW B (n + n)) n) (pairsW B (n + n)) n := by
  refine rounds_col (nodup_pairsOf _ _ _) (fun i => ?_) (fun t => ?_)
  · by_cases hi : i < n
    · refine Nat.le_trans (degR_pairsOf _ _ _ _) ?_
      obtain ⟨h1, h2, h3⟩ := b.rowOf hi
      rw [count_not h2 h3, h1]; omega
    · have : degR (pairsW B (n + n)) i = 0 := by
        unfold degR
        rw [List.length_eq_zero_iff, List.filter_eq_nil_iff]
        rintro ⟨j, t⟩ hm q
        simp at q; subst q
        have := (mem_pairsOf.mp hm).1
        rw [b.len] at this
        exact hi this
      omega
  · refine Nat.le_trans (degT_pairsOf _ _ _ _) ?_
    have := List.length_filter_le (fun i => !(B.getD i []).contains t) (List.range B.length)
    rw [List.length_range, b.len] at this
    rw [b.len]; exact this
theorem Blk.dealt (b : Blk n (n + n) B) {i c : Nat} (hi : i < n) (hc : c < n) : ∃ t, K12.dealt (roundsM (pairsW B (n + n)) n) c i = some t ∧ t < n + n ∧ t ∉ B.getD i [] := by
  obtain ⟨h1, h2, h3⟩ := b.rowOf hi
  obtain ⟨t, ht⟩ := full_row b.col_ ((List.range (n + n)).filter fun t => !(B.getD i []).contains t) (nd_filter _ List.nodup_range) (by rw [count_not h2 h3, h1]; omega) (by
    intro t ht
    obtain ⟨h4, h5⟩ := List.mem_filter.mp ht
    exact mem_pairsOf.mpr ⟨by rw [b.len]; exact hi, List.mem_range.mp h4, h5⟩) c hc
  have hm := mem_pairsOf.mp ((b.col_.mem i t).mp ⟨c, ht⟩)
  exact ⟨t, dealt_iff.mpr ht, hm.2.1, by simpa using hm.2.2⟩
theorem Blk.wide_get (b : Blk n (n + n) B) {i c : Nat} (hi : i < n) (hc : c < n) : K12.dealt (roundsM (pairsW B (n + n)) n) c i = some ((wideRow B (n + n) n i).getD (n + c) 0) := by
  obtain ⟨t, h1, h2, h3⟩ := b.dealt hi hc
  have hl := (b.rowOf hi).1
  rw [h1]
  congr 1
  unfold wideRow
  rw [List.getD, List.getElem?_append_right (by omega), hl]
  have : n + c - n = c := by omega
  rw [this, List.getElem?_map, List.getElem?_range hc]
  simp [h1]
theorem Blk.rect (b : Blk n (n + n) B) : Rect n (n + n) (widenedM B (n + n) n) := by
  have hrow : ∀ i, i < n → (wideRow B (n + n) n i).length = n + n ∧ (wideRow B (n + n) n i).Nodup ∧ ∀ x ∈ wideRow B (n + n) n i, x < n + n := by
    intro i hi
    obtain ⟨h1, h2, h3⟩ := b.rowOf hi
    refine ⟨by simp only [wideRow, List.length_append, h1, List.length_map, List.length_range], ?_, ?_⟩
    · unfold wideRow
      rw [List.nodup_append]
      refine ⟨h2, nodup_map_of List.nodup_range ?_, ?_⟩
      · intro c hc c' hc' q
        obtain ⟨t, e1, _⟩ := b.dealt hi (List.mem_range.mp hc)
        obtain ⟨t', e2, _⟩ := b.dealt hi (List.mem_range.mp hc')
        rw [e1, e2] at q
        simp at q; subst q
        exact b.col_.uq _ _ _ _ (dealt_iff.mp e1) (dealt_iff.mp e2)
      · intro x hx y hy hxy
        subst hxy
        obtain ⟨c, hc, e⟩ := List.mem_map.mp hy
        obtain ⟨t, e1, _, e3⟩ := b.dealt hi (List.mem_range.mp hc)
        rw [e1] at e; simp at e; subst e
        exact e3 hx
    · intro x hx
      unfold wideRow at hx
      rcases List.mem_append.mp hx with hx | hx
      · exact h3 x hx
      · obtain ⟨c, hc, e⟩ := List.mem_map.mp hx
        obtain ⟨t, e1, e2, _⟩ := b.dealt hi (List.mem_range.mp hc)
        rw [e1] at e; simp at e; omega
  have get : ∀ i, i < n → (widenedM B (n + n) n).getD i [] = wideRow B (n + n) n i := by
    intro i hi
    unfold widenedM
    rw [List.getD, List.getElem?_map, List.getElem?_range (by rw [b.len]; exact hi)]; rfl
  refine ⟨by simp [widenedM, b.len], ?_, ?_⟩
  · intro r hr
    obtain ⟨i, hi, rfl⟩ := List.mem_map.mp hr
    rw [List.mem_range, b.len] at hi
    exact hrow i hi
  · intro i i' j hi hi' hj e
    unfold cell at e
    rw [get i hi, get i' hi'] at e
    by_cases hjn : j < n
    · have g : ∀ k, k < n → (wideRow B (n + n) n k).getD j 0 = cell B k j := by
        intro k hk
        unfold wideRow cell
        rw [List.getD, List.getElem?_append_left (by rw [(b.rowOf hk).1]; exact hjn)]; rfl
      rw [g i hi, g i' hi'] at e
      exact b.col i i' j hi hi' hjn e
    · obtain ⟨c, rfl⟩ : ∃ c, j = n + c := ⟨j - n, by omega⟩
      have hc : c < n := by omega
      have w1 := dealt_iff.mp (b.wide_get hi hc)
      have w2 := dealt_iff.mp (b.wide_get hi' hc)
      rw [e] at w1
      have s1 := b.col_.sym _ _ _ w1
      have s2 := b.col_.sym _ _ _ w2
      rw [s1] at s2
      cases s2; rfl
end
/-! ### lengthened -/
def colOf (R : List (List Nat)) (j : Nat) : List Nat := R.map fun r => r.getD j 0
def pairsL (R : List (List Nat)) (N : Nat) : List (Nat × Nat) := pairsOf N N fun j t => !(colOf R j).contains t
noncomputable def longRow (R : List (List Nat)) (N m c : Nat) : List Nat := (List.range N).map fun j => (dealt (roundsM (pairsL R N) m) c j).getD 0
noncomputable def lengthenedM (R : List (List Nat)) (N m : Nat) : List (List Nat) := R ++ (List.range m).map (longRow R N m)
section
variable {n m : Nat} {R : List (List Nat)}
theorem Rect.rowOf {N : Nat} (b : Rect n N R) {i : Nat} (hi : i < n) : (R.getD i []).length = N ∧ (R.getD i []).Nodup ∧ ∀ x ∈ R.getD i [], x < N := by
  rw [getD_lt (by rw [b.len]; exact hi)]
  exact b.row _ (List.getElem_mem _)
theorem colOf_get (R : List (List Nat)) (j : Nat) {i : Nat} (hi : i < R.length) : (colOf R j)[i]? = some (cell R i j) := by
  unfold colOf cell
  rw [List.getElem?_map, List.getElem?_eq_getElem hi, getD_lt hi]; rfl
theorem Rect.cell_lt {N : Nat} (b : Rect n N R) {i j : Nat} (hi : i < n) (hj : j < N) : cell R i j < N := by
  obtain ⟨h1, h2, h3⟩ := b.rowOf hi
  unfold cell
  rw [getD_lt (l := R.getD i []) (by rw [h1]; exact hj)]
  exact h3 _ (List.getElem_mem _)
theorem Rect.colOf {N : Nat} (b : Rect n N R) {j : Nat} (hj : j < N) : (K12.colOf R j).length = n ∧ (K12.colOf R j).Nodup ∧ ∀ x ∈ K12.colOf R j, x < N := by
  have hl : (K12.colOf R j).length = n := by simp [K12.colOf, b.len]
  have hg : ∀ i (h : i < (K12.colOf R j).length), (K12.colOf R j)[i] = cell R i j := by
    intro i h
    have := colOf_get R j (i := i) (by rw [b.len]; omega)
    rw [List.getElem?_eq_getElem h] at this
    exact Option.some.inj this
  refine ⟨hl, ?_, ?_⟩
  · rw [List.nodup_iff_pairwise_ne, List.pairwise_iff_getElem]
    intro i i' hi hi' hlt q
    rw [hg i hi, hg i' hi'] at q
    have := b.col i i' j (by omega) (by omega) hj q
    omega
  · intro x hx
    obtain ⟨i, hi, rfl⟩ := List.getElem_of_mem hx
    rw [hg i hi]
    exact b.cell_lt (by omega) hj
theorem Rect.col_ (b : Rect n (n + m) R) : Col (roundsM (pairsL R (n + m)) m) (pairsL R (n + m)) m := by
  refine rounds_col (nodup_pairsOf _ _ _) (fun j => ?_) (fun t => ?_)
  · by_cases hj : j < n + m
    · refine Nat.le_trans (degR_pairsOf _ _ _ _) ?_
      obtain ⟨h1, h2, h3⟩ := b.colOf hj
      rw [count_not h2 h3, h1]; omega
    · have : degR (pairsL R (n + m)) j = 0 := by
        unfold degR
        rw [List.length_eq_zero_iff, List.filter_eq_nil_iff]
        rintro ⟨j', t⟩ hm q
        simp at q; subst q
        exact hj (mem_pairsOf.mp hm).1
      omega
  · by_cases ht : t < n + m
    · refine Nat.le_trans (degT_pairsOf _ _ _ _) ?_
      -- the columns in which t stands: one for each row
      have ex : ∀ i, i < n → ∃ j, j < n + m ∧ cell R i j = t := by
        intro i hi
        obtain ⟨h1, h2, h3⟩ := b.rowOf hi
        obtain ⟨j, hj, e⟩ := List.getElem_of_mem (nodup_all h2 h1 h3 t ht)
        refine ⟨j, by omega, ?_⟩
        unfold cell
        rw [getD_lt hj, e]
      let g : Nat → Nat := fun i => firstK (n + m) fun j => cell R i j == t
      have hg : ∀ i, i < n → g i < n + m ∧ cell R i (g i) = t := by
        intro i hi
        obtain ⟨j, hj, e⟩ := ex i hi
        have : g i = j := firstK_is hj (by simp [e]) fun k' hk' q => by
          simp at q
          obtain ⟨h1, h2, h3⟩ := b.rowOf hi
          unfold cell at q e
          rw [getD_lt (l := R.getD i []) (by rw [h1]; exact hk')] at q
          rw [getD_lt (l := R.getD i []) (by rw [h1]; exact hj)] at e
          exact nodup_inj h2 _ _ (q.trans e.symm)
        rw [this]; exact ⟨hj, e⟩
      have nd : ((List.range n).map g ++ (List.range (n + m)).filter fun j => !(K12.colOf R j).contains t).Nodup := by
        rw [List.nodup_append]
        refine ⟨nodup_map_of List.nodup_range ?_, nd_filter _ List.nodup_range, ?_⟩
        · intro i hi i' hi' q
          have h1 := hg i (List.mem_range.mp hi)
          have h2 := hg i' (List.mem_range.mp hi')
          rw [q] at h1
          exact b.col i i' _ (List.mem_range.mp hi) (List.mem_range.mp hi') h1.1 (h1.2.trans h2.2.symm)
        · intro j hj j' hj' q
          subst q
          obtain ⟨i, hi, rfl⟩ := List.mem_map.mp hj
          have h1 := hg i (List.mem_range.mp hi)
          have h2 := (List.mem_filter.mp hj').2
          have h3 := colOf_get R (g i) (i := i) (by rw [b.len]; exact List.mem_range.mp hi)
          have h4 : t ∈ K12.colOf R (g i) := by rw [← h1.2]; exact List.mem_of_getElem? h3
          simp [h4] at h2
      have := nodup_len nd (u := List.range (n + m)) (by
        intro x hx
        rcases List.mem_append.mp hx with hx | hx
        · obtain ⟨i, hi, rfl⟩ := List.mem_map.mp hx
          exact List.mem_range.mpr (hg i (List.mem_range.mp hi)).1
        · exact (List.mem_filter.mp hx).1)
      simp only [List.length_append, List.length_map, List.length_range] at this
      omega
    · have : degT (pairsL R (n + m)) t = 0 := by
        unfold degT
        rw [List.length_eq_zero_iff, List.filter_eq_nil_iff]
        rintro ⟨j', t'⟩ hm q
        simp at q; subst q
        exact ht (mem_pairsOf.mp hm).2.1
      omega
theorem Rect.dealt (b : Rect n (n + m) R) {j c : Nat} (hj : j < n + m) (hc : c < m) : ∃ t, K12.dealt (roundsM (pairsL R (n + m)) m) c j = some t ∧ t < n + m ∧ t ∉ K12.colOf R j := by
  obtain ⟨h1, h2, h3⟩ := b.colOf hj
  obtain ⟨t, ht⟩ := full_row b.col_ ((List.range (n + m)).filter fun t => !(K12.colOf R j).contains t) (nd_filter _ List.nodup_range) (by rw [count_not h2 h3, h1]; omega) (by
    intro t ht
    obtain ⟨h4, h5⟩ := List.mem_filter.mp ht
    exact mem_pairsOf.mpr ⟨hj, List.mem_range.mp h4, h5⟩) c hc
  have hm := mem_pairsOf.mp ((b.col_.mem j t).mp ⟨c, ht⟩)
  exact ⟨t, dealt_iff.mpr ht, hm.2.1, by simpa using hm.2.2⟩
theorem Rect.long_get (b : Rect n (n + m) R) {j c : Nat} (hj : j < n + m) (hc : c < m) : K12.dealt (roundsM (pairsL R (n + m)) m) c j = some ((longRow R (n + m) m c).getD j 0) := by
  obtain ⟨t, h1, h2, h3⟩ := b.dealt hj hc
  rw [h1]
  congr 1
  unfold longRow
  rw [List.getD, List.getElem?_map, List.getElem?_range hj]
  simp [h1]
theorem Rect.latin (b : Rect n (n + m) R) : Latin (n + m) (lengthenedM R (n + m) m) := by
  have get1 : ∀ i, i < n → (lengthenedM R (n + m) m).getD i [] = R.getD i [] := by
    intro i hi
    unfold lengthenedM
    rw [List.getD, List.getElem?_append_left (by rw [b.len]; exact hi)]; rfl
  have get2 : ∀ c, c < m → (lengthenedM R (n + m) m).getD (n + c) [] = longRow R (n + m) m c := by
    intro c hc
    unfold lengthenedM
    rw [List.getD, List.getElem?_append_right (by rw [b.len]; omega), b.len]
    have : n + c - n = c := by omega
    rw [this, List.getElem?_map, List.getElem?_range hc]; rfl
  refine ⟨by simp [lengthenedM, b.len], ?_, ?_⟩
  · intro r hr
    unfold lengthenedM at hr
    rcases List.mem_append.mp hr with hr | hr
    · exact b.row r hr
    · obtain ⟨c, hc, rfl⟩ := List.mem_map.mp hr
      have hc' := List.mem_range.mp hc
      refine ⟨by simp [longRow], ?_, ?_⟩
      · unfold longRow
        refine nodup_map_of List.nodup_range ?_
        intro j hj j' hj' q
        obtain ⟨t, e1, _⟩ := b.dealt (List.mem_range.mp hj) hc'
        obtain ⟨t', e2, _⟩ := b.dealt (List.mem_range.mp hj') hc'
        rw [e1, e2] at q
        simp at q; subst q
        have s1 := b.col_.sym _ _ _ (dealt_iff.mp e1)
        have s2 := b.col_.sym _ _ _ (dealt_iff.mp e2)
        rw [s1] at s2
        cases s2; rfl
      · intro x hx
        unfold longRow at hx
        obtain ⟨j, hj, e⟩ := List.mem_map.mp hx
        obtain ⟨t, e1, e2, _⟩ := b.dealt (List.mem_range.mp hj) hc'
        rw [e1] at e; simp at e; omega
  · intro i i' j hi hi' hj e
    have old : ∀ k, k < n → cell (lengthenedM R (n + m) m) k j = cell R k j := fun k hk => by unfold cell; rw [get1 k hk]
    have new : ∀ c, c < m → K12.dealt (roundsM (pairsL R (n + m)) m) c j = some (cell (lengthenedM R (n + m) m) (n + c) j) := fun c hc => by unfold cell; rw [get2 c hc]; exact b.long_get hj hc
    have apart : ∀ k c, k < n → c < m → cell (lengthenedM R (n + m) m) k j ≠ cell (lengthenedM R (n + m) m) (n + c) j := by
      intro k c hk hc q
      obtain ⟨t, e1, _, e3⟩ := b.dealt hj hc
      rw [new c hc] at e1
      cases e1
      rw [← q, old k hk] at e3
      exact e3 (List.mem_of_getElem? (colOf_get R j (by rw [b.len]; exact hk)))
    by_cases h1 : i < n <;> by_cases h2 : i' < n
    · rw [old i h1, old i' h2] at e
      exact b.col i i' j h1 h2 hj e
    · obtain ⟨c, rfl⟩ : ∃ c, i' = n + c := ⟨i' - n, by omega⟩
      exact absurd e (apart i c h1 (by omega))
    · obtain ⟨c, rfl⟩ : ∃ c, i = n + c := ⟨i - n, by omega⟩
      exact absurd e.symm (apart i' c h2 (by omega))
    · obtain ⟨c, rfl⟩ : ∃ c, i = n + c := ⟨i - n, by omega⟩
      obtain ⟨c', rfl⟩ : ∃ c, i' = n + c := ⟨i' - n, by omega⟩
      have w1 := dealt_iff.mp (new c (by omega))
      have w2 := dealt_iff.mp (new c' (by omega))
      rw [← e] at w2
      have := b.col_.uq _ _ _ _ w1 w2
      omega
/-- completed: the block stands in the table's first rows and columns -/
noncomputable def completedM (B : List (List Nat)) (n : Nat) : List (List Nat) := lengthenedM (widenedM B (n + n) n) (n + n) n
theorem completed_ok {B : List (List Nat)} (b : Blk n (n + n) B) : Latin (n + n) (completedM B n) ∧ ∀ i j, i < n → j < n → cell (completedM B n) i j = cell B i j := by
  refine ⟨b.rect.latin, fun i j hi hj => ?_⟩
  have e1 : (completedM B n).getD i [] = wideRow B (n + n) n i := by
    unfold completedM lengthenedM
    rw [List.getD, List.getElem?_append_left (by rw [b.rect.len]; exact hi)]
    unfold widenedM
    rw [List.getElem?_map, List.getElem?_range (by rw [b.len]; exact hi)]
    rfl
  unfold cell
  rw [e1]
  unfold wideRow
  rw [List.getD, List.getElem?_append_left (by rw [(b.rowOf hi).1]; exact hj)]; rfl
end
end K12
set_option linter.all false
/-! K12g: the block of a closing, and the world that goes on from it. Plain Lean. -/
namespace K12
/-- Closing.numbered -/
def numbered (e : List Nat) : List Nat := (List.range e.length).filter fun i => up e i == i
def ix (e : List Nat) (x : Nat) : Nat := (numbered e).idxOf x
theorem numbered_nodup (e : List Nat) : (numbered e).Nodup := nd_filter _ List.nodup_range
theorem mem_numbered {e : List Nat} (F : Forest e) {x : Nat} : x ∈ numbered e ↔ x < e.length ∧ root e x = x := by
  unfold numbered
  rw [List.mem_filter, List.mem_range, root_iff F]
  simp
theorem ix_lt {e : List Nat} {x : Nat} (h : x ∈ numbered e) : ix e x < (numbered e).length := List.idxOf_lt_length_iff.mpr h
theorem ix_get {e : List Nat} {x : Nat} (h : x ∈ numbered e) : (numbered e)[ix e x]? = some x := by
  rw [List.getElem?_eq_getElem (ix_lt h)]
  congr 1
  exact List.getElem_idxOf (ix_lt h)
theorem ix_inj {e : List Nat} {x y : Nat} (hx : x ∈ numbered e) (hy : y ∈ numbered e) (h : ix e x = ix e y) : x = y := by
  have h1 := ix_get hx
  have h2 := ix_get hy
  rw [h, h2] at h1
  exact (Option.some.inj h1).symm
theorem numbered_le (e : List Nat) : (numbered e).length ≤ e.length := by
  have := List.length_filter_le (fun i => up e i == i) (List.range e.length)
  rw [List.length_range] at this
  exact this
/-! ### cells set -/
def setCell (B : List (List Nat)) (i j v : Nat) : List (List Nat) := B.set i ((B.getD i []).set j v)
structure Shape (n : Nat) (B : List (List Nat)) : Prop where
  len : B.length = n
  row : ∀ i, i < n → (B.getD i []).length = n
theorem setCell_row {B : List (List Nat)} {i j v k : Nat} (hi : i < B.length) : (setCell B i j v).getD k [] = if k = i then (B.getD i []).set j v else B.getD k [] := by
  unfold setCell
  by_cases h : k = i
  · subst h
    rw [if_pos rfl, List.getD, List.getElem?_set_self hi]; rfl
  · rw [if_neg h, List.getD, List.getElem?_set_ne (Ne.symm h)]; rfl
theorem setCell_shape {n : Nat} {B : List (List Nat)} (S : Shape n B) {i j v : Nat} (hi : i < n) : Shape n (setCell B i j v) := by
  refine ⟨by simp [setCell, S.len], fun k hk => ?_⟩
  rw [setCell_row (by rw [S.len]; exact hi)]
  split
  · rw [List.length_set]; exact S.row i hi
  · exact S.row k hk
theorem setCell_cell {n : Nat} {B : List (List Nat)} (S : Shape n B) {i j v k l : Nat} (hi : i < n) (hj : j < n) : cell (setCell B i j v) k l = if k = i ∧ l = j then v else cell B k l := by
  unfold cell
  rw [setCell_row (by rw [S.len]; exact hi)]
  by_cases h : k = i
  · subst h
    rw [if_pos rfl]
    by_cases h2 : l = j
    · subst h2
      rw [if_pos ⟨rfl, rfl⟩, List.getD, List.getElem?_set_self (by rw [S.row k hi]; exact hj)]; rfl
    · rw [if_neg (fun q => h2 q.2), List.getD, List.getElem?_set_ne (Ne.symm h2)]; rfl
  · rw [if_neg h, if_neg (fun q => h q.1)]
def baseB (n : Nat) : List (List Nat) := (List.range n).map fun i => (List.range n).map fun j => n + (i + j) % n
theorem baseB_shape (n : Nat) : Shape n (baseB n) := by
  refine ⟨by simp [baseB], fun i hi => ?_⟩
  unfold baseB
  rw [List.getD, List.getElem?_map, List.getElem?_range hi]; simp
theorem baseB_cell {n i j : Nat} (hi : i < n) (hj : j < n) : cell (baseB n) i j = n + (i + j) % n := by
  unfold cell baseB
  have e1 : ((List.range n).map fun i => (List.range n).map fun j => n + (i + j) % n).getD i [] = (List.range n).map fun j => n + (i + j) % n := by
    rw [List.getD, List.getElem?_map, List.getElem?_range hi]; rfl
  rw [e1, List.getD, List.getElem?_map, List.getElem?_range hj]; rfl
/-- worlds.block_of -/
def blockM (e : List Nat) (rows : List T3) : List (List Nat) := rows.foldl (fun B r => setCell B (ix e r.1) (ix e r.2.1) (ix e r.2.2)) (baseB (numbered e).length)
theorem add_mod_inj {n i j j' : Nat} (hi : i < n) (hj : j < n) (hj' : j' < n) (h : (i + j) % n = (i + j') % n) : j = j' := by
  have key : ∀ k, k < n → (i + k) % n = if i + k < n then i + k else i + k - n := by
    intro k hk
    split
    · rename_i h; exact Nat.mod_eq_of_lt h
    · rename_i h
      rw [Nat.mod_eq_sub_mod (by omega)]
      exact Nat.mod_eq_of_lt (by omega)
  rw [key j hj, key j' hj'] at h
  split at h <;> split at h <;> omega
structure Fill (e : List Nat) (rows : List T3) (n : Nat) (done : List T3) (B : List (List Nat)) : Prop where
  sh : Shape n B
  at_ : ∀ i j, i < n → j < n → (∃ r ∈ done, ix e r.1 = i ∧ ix e r.2.1 = j ∧ cell B i j = ix e r.2.2) ∨ ((∀ r ∈ done, ¬ (ix e r.1 = i ∧ ix e r.2.1 = j)) ∧ cell B i j = n + (i + j) % n)
section
variable {e : List Nat} {rows : List T3}
theorem Good.inN (G : Good e rows) {r : T3} (hr : r ∈ rows) : r.1 ∈ numbered e ∧ r.2.1 ∈ numbered e ∧ r.2.2 ∈ numbered e := by
  obtain ⟨h1, h2, h3⟩ := G.R r hr
  have q := G.rt r hr
  have q1 : root e r.1 = r.1 := congrArg (·.1) q
  have q2 : root e r.2.1 = r.2.1 := congrArg (·.2.1) q
  have q3 : root e r.2.2 = r.2.2 := congrArg (·.2.2) q
  exact ⟨(mem_numbered G.F).mpr ⟨h1, q1⟩, (mem_numbered G.F).mpr ⟨h2, q2⟩, (mem_numbered G.F).mpr ⟨h3, q3⟩⟩
theorem block_fill (G : Good e rows) : Fill e rows (numbered e).length rows (blockM e rows) := by
  have key : ∀ (todo done : List T3) (B : List (List Nat)), (∀ r ∈ done ++ todo, r ∈ rows) → (done ++ todo).Nodup → Fill e rows (numbered e).length done B →
      Fill e rows (numbered e).length (done ++ todo) (todo.foldl (fun B r => setCell B (ix e r.1) (ix e r.2.1) (ix e r.2.2)) B) := by
    intro todo
    induction todo with
    | nil => intro done B _ _ F; simpa using F
    | cons r todo ih =>
      intro done B hm nd F
      have hr := hm r (by simp)
      obtain ⟨i1, i2, i3⟩ := G.inN hr
      have := ih (done ++ [r]) (setCell B (ix e r.1) (ix e r.2.1) (ix e r.2.2)) (by simpa using hm) (by simpa using nd) ⟨setCell_shape F.sh (ix_lt i1), fun i j hi hj => ?_⟩
      · simpa using this
      rw [setCell_cell F.sh (ix_lt i1) (ix_lt i2)]
      by_cases h : i = ix e r.1 ∧ j = ix e r.2.1
      · rw [if_pos h]
        exact .inl ⟨r, by simp, h.1.symm, h.2.symm, rfl⟩
      · rw [if_neg h]
        rcases F.at_ i j hi hj with ⟨r', hr', e1, e2, e3⟩ | ⟨h1, h2⟩
        · exact .inl ⟨r', by simp [hr'], e1, e2, e3⟩
        · refine .inr ⟨?_, h2⟩
          intro r' hr' q
          rcases List.mem_append.mp hr' with hr' | hr'
          · exact h1 r' hr' q
          · simp at hr'; subst hr'; exact h ⟨q.1.symm, q.2.symm⟩
  have := key rows [] (baseB (numbered e).length) (by simp) (by simpa using G.nd) ⟨baseB_shape _, fun i j hi hj => .inr ⟨by simp, baseB_cell hi hj⟩⟩
  simpa [blockM] using this
theorem block_at (G : Good e rows) {r : T3} (hr : r ∈ rows) : cell (blockM e rows) (ix e r.1) (ix e r.2.1) = ix e r.2.2 := by
  obtain ⟨i1, i2, i3⟩ := G.inN hr
  rcases (block_fill G).at_ _ _ (ix_lt i1) (ix_lt i2) with ⟨r', hr', e1, e2, e3⟩ | ⟨h1, _⟩
  · obtain ⟨j1, j2, j3⟩ := G.inN hr'
    have a := ix_inj j1 i1 e1
    have b := ix_inj j2 i2 e2
    have := G.fn .wi r' hr' r hr a b
    subst this
    exact e3
  · exact absurd ⟨rfl, rfl⟩ (h1 r hr)
theorem getD_cell {B : List (List Nat)} {i j : Nat} (h : j < (B.getD i []).length) : (B.getD i [])[j] = cell B i j := by
  unfold cell; rw [getD_lt (l := B.getD i []) h]
theorem block_blk (G : Good e rows) : Blk (numbered e).length ((numbered e).length + (numbered e).length) (blockM e rows) := by
  have F := block_fill G
  generalize hn : (numbered e).length = n at F
  have lt : ∀ i j, i < n → j < n → cell (blockM e rows) i j < n + n := by
    intro i j hi hj
    rcases F.at_ i j hi hj with ⟨r, hr, _, _, e3⟩ | ⟨_, e3⟩
    · rw [e3]; have := ix_lt (G.inN hr).2.2; omega
    · rw [e3]; have := Nat.mod_lt (i + j) (show n > 0 by omega); omega
  have one : ∀ i j i' j', i < n → j < n → i' < n → j' < n → cell (blockM e rows) i j = cell (blockM e rows) i' j' →
      (∃ r ∈ rows, ∃ r' ∈ rows, ix e r.1 = i ∧ ix e r.2.1 = j ∧ ix e r'.1 = i' ∧ ix e r'.2.1 = j' ∧ r.2.2 = r'.2.2) ∨ (i + j) % n = (i' + j') % n := by
    intro i j i' j' hi hj hi' hj' q
    rcases F.at_ i j hi hj with ⟨r, hr, e1, e2, e3⟩ | ⟨_, e3⟩ <;> rcases F.at_ i' j' hi' hj' with ⟨r', hr', e1', e2', e3'⟩ | ⟨_, e3'⟩
    · rw [e3, e3'] at q
      exact .inl ⟨r, hr, r', hr', e1, e2, e1', e2', ix_inj (G.inN hr).2.2 (G.inN hr').2.2 q⟩
    · rw [e3, e3'] at q; have := ix_lt (G.inN hr).2.2; omega
    · rw [e3, e3'] at q; have := ix_lt (G.inN hr').2.2; omega
    · rw [e3, e3'] at q; exact .inr (by omega)
  refine ⟨F.sh.len, ?_, ?_⟩
  · intro r hr
    obtain ⟨i, hi, rfl⟩ := List.getElem_of_mem hr
    have hi' : i < n := by rw [← F.sh.len]; exact hi
    have hl := F.sh.row i hi'
    rw [getD_lt hi] at hl
    have hc : ∀ j (h : j < (blockM e rows)[i].length), (blockM e rows)[i][j] = cell (blockM e rows) i j := by
      intro j h
      unfold cell
      rw [getD_lt hi, getD_lt h]
    refine ⟨hl, ?_, ?_⟩
    · rw [List.nodup_iff_pairwise_ne, List.pairwise_iff_getElem]
      intro j j' hj hj' hlt q
      rw [hc j hj, hc j' hj'] at q
      rcases one i j i j' hi' (by omega) hi' (by omega) q with ⟨r, hr, r', hr', e1, e2, e1', e2', e3⟩ | q
      · have a := ix_inj (G.inN hr).1 (G.inN hr').1 (e1.trans e1'.symm)
        have := G.fn .be r hr r' hr' a e3
        subst this
        omega
      · have := add_mod_inj hi' (by omega) (by omega) q
        omega
    · intro x hx
      obtain ⟨j, hj, rfl⟩ := List.getElem_of_mem hx
      rw [hc j hj]
      exact lt i j hi' (by omega)
  · intro i i' j hi hi' hj q
    rcases one i j i' j hi hj hi' hj q with ⟨r, hr, r', hr', e1, e2, e1', e2', e3⟩ | q
    · have a := ix_inj (G.inN hr).2.1 (G.inN hr').2.1 (e2.trans e2'.symm)
      have := G.fn .ah r hr r' hr' a e3
      subst this
      omega
    · rw [Nat.add_comm i, Nat.add_comm i'] at q
      exact add_mod_inj hj hi hi' q
/-! ### the world -/
noncomputable def worldT (e : List Nat) (rows : List T3) : List (List Nat) := completedM (blockM e rows) (numbered e).length
def worldP (e : List Nat) (m : Nat) : List Nat := (List.range m).map fun k => ix e (root e k)
theorem root_in (G : Good e rows) {k : Nat} (h : k < e.length) : root e k ∈ numbered e := (mem_numbered G.F).mpr ⟨root_lt_len h, root_root G.F k⟩
theorem worldP_get {m k : Nat} (h : k < m) : (worldP e m).getD k 0 = ix e (root e k) := by
  unfold worldP
  rw [List.getD, List.getElem?_map, List.getElem?_range h]; rfl
theorem worldT_at (G : Good e rows) {r : T3} (hr : r ∈ rows) : cell (worldT e rows) (ix e r.1) (ix e r.2.1) = ix e r.2.2 := by
  obtain ⟨i1, i2, i3⟩ := G.inN hr
  unfold worldT
  rw [(completed_ok (block_blk G)).2 _ _ (ix_lt i1) (ix_lt i2), block_at G hr]
theorem world_ok (G : Good e rows) {m : Nat} (hm : 0 < m) (hle : m ≤ e.length) {es : List T3} (R : Rows m es) (he : ∀ r ∈ es, r3 e r ∈ rows) :
    Wrld ((numbered e).length + (numbered e).length) m (worldT e rows) (worldP e m) es := by
  have pos : 0 < (numbered e).length := List.length_pos_of_mem (root_in G (k := 0) (by omega))
  refine ⟨(completed_ok (block_blk G)).1, by omega, by simp [worldP], ?_, ?_⟩
  · intro x hx
    obtain ⟨k, hk, rfl⟩ := List.mem_map.mp hx
    have := ix_lt (root_in G (k := k) (by have := List.mem_range.mp hk; omega))
    omega
  · intro r hr
    obtain ⟨h1, h2, h3⟩ := R r hr
    rw [worldP_get h1, worldP_get h2, worldP_get h3]
    exact worldT_at G (he r hr)
theorem val_thing (G : Good e rows) {m : Nat} (hm : 0 < m) (hle : m ≤ e.length) : ∀ (f : Fm) (e1 : List Nat) (rows1 : List T3), Good e1 rows1 → m ≤ e1.length → f.bel m → Ext (thing f e1 rows1).1.1 (thing f e1 rows1).1.2 e rows →
    valM ((numbered e).length + (numbered e).length) (worldT e rows) (worldP e m) f = ix e (thing f e1 rows1).2 ∧ (thing f e1 rows1).2 ∈ numbered e
  | .nm k, e1, rows1, G1, h1, hb, X => by
    have hb' : k < m := hb
    refine ⟨?_, ?_⟩
    · show (worldP e m).getD k 0 = ix e (root e1 k)
      rw [worldP_get hb', X.rt]; rfl
    · show root e1 k ∈ _
      have := X.rt k
      have h2 : root e k = root e1 k := this
      rw [← h2]
      exact root_in G (by omega)
  | .ap w f g, e1, rows1, G1, h1, hb, X => by
    have ok1 := thing_ok f e1 rows1 G1 (Fm.bel_mono h1 hb.1)
    have l2 : m ≤ (thing f e1 rows1).1.1.length := Nat.le_trans h1 ok1.ext.le
    have ok2 := thing_ok g _ _ ok1.good (Fm.bel_mono l2 hb.2)
    have x3 := third_ext (thing g (thing f e1 rows1).1.1 (thing f e1 rows1).1.2).1.1 (thing g (thing f e1 rows1).1.1 (thing f e1 rows1).1.2).1.2 w (thing f e1 rows1).2 (thing g (thing f e1 rows1).1.1 (thing f e1 rows1).1.2).2
    have X2 : Ext (thing g (thing f e1 rows1).1.1 (thing f e1 rows1).1.2).1.1 (thing g (thing f e1 rows1).1.1 (thing f e1 rows1).1.2).1.2 e rows := x3.trans X
    obtain ⟨v1, m1⟩ := val_thing G hm hle f e1 rows1 G1 h1 hb.1 (ok2.ext.trans X2)
    obtain ⟨v2, m2⟩ := val_thing G hm hle g _ _ ok1.good l2 hb.2 X2
    have rx : root (thing g (thing f e1 rows1).1.1 (thing f e1 rows1).1.2).1.1 (thing f e1 rows1).2 = (thing f e1 rows1).2 := by rw [ok2.ext.rt]; exact ok1.rt
    have t3 := third_good ok2.good (w := w) (Nat.lt_of_lt_of_le ok1.lt ok2.ext.le) ok2.lt rx ok2.rt
    have hrow := X.rows _ t3.2.2.2
    have mt : (thing (.ap w f g) e1 rows1).2 ∈ numbered e := by
      have h := G.inN hrow
      cases w
      · exact h.2.2
      · exact h.2.1
      · exact h.1
    refine ⟨?_, mt⟩
    simp only [valM]
    rw [v1, v2]
    have hc := worldT_at G hrow
    have L := (completed_ok (block_blk G)).1
    have b1 := ix_lt m1
    have b2 := ix_lt m2
    have b3 := ix_lt mt
    refine op_of L w (by omega) (by omega) (by omega) ?_
    cases w <;> exact hc
/-- two formulas of unlike things part -/
theorem world_parts (G : Good e rows) {x y : Nat} (hx : x ∈ numbered e) (hy : y ∈ numbered e) (h : x ≠ y) : ix e x ≠ ix e y := fun q => h (ix_inj hx hy q)
end
end K12
set_option linter.all false
/-! K12i: the law's own tables: small squares turned over; marks closed. Plain Lean. -/
namespace K12
theorem getD_set {l : List Nat} {i j v d : Nat} (hi : i < l.length) : (l.set i v).getD j d = if j = i then v else l.getD j d := by
  by_cases h : j = i
  · subst h; rw [if_pos rfl, List.getD, List.getElem?_set_self hi]; rfl
  · rw [if_neg h, List.getD, List.getElem?_set_ne (Ne.symm h)]; rfl
theorem nodup_getD {l : List Nat} (nd : l.Nodup) {i j : Nat} (hi : i < l.length) (hj : j < l.length) (h : l.getD i 0 = l.getD j 0) : i = j := by
  rw [getD_lt hi, getD_lt hj] at h
  exact nodup_inj nd hi hj h
theorem nodup_of_getD {l : List Nat} (h : ∀ i j, i < l.length → j < l.length → l.getD i 0 = l.getD j 0 → i = j) : l.Nodup := by
  rw [List.nodup_iff_pairwise_ne, List.pairwise_iff_getElem]
  intro i j hi hj hlt q
  have := h i j hi hj (by rw [getD_lt hi, getD_lt hj]; exact q)
  omega
/-- between two turns: the columns C are exchanged, c is next -/
structure TO (n : Nat) (a0 b0 : List Nat) (bg : Nat) (C : List Nat) (c : Nat) (a b : List Nat) : Prop where
  la0 : a0.length = n
  lb0 : b0.length = n
  na0 : a0.Nodup
  nb0 : b0.Nodup
  va0 : ∀ x ∈ a0, x < n
  vb0 : ∀ x ∈ b0, x < n
  ne : ∀ k, k < n → a0.getD k 0 ≠ b0.getD k 0
  la : a.length = n
  lb : b.length = n
  yes : ∀ k, k < n → k ∈ C → a.getD k 0 = b0.getD k 0 ∧ b.getD k 0 = a0.getD k 0
  no : ∀ k, k < n → k ∉ C → a.getD k 0 = a0.getD k 0 ∧ b.getD k 0 = b0.getD k 0
  cn : c < n
  cC : c ∉ C
  nC : C.Nodup
  lC : ∀ k ∈ C, k < n
  bl : bg < n
  j1 : (a.set c bg).Nodup
/-- two rows exchanged in some columns -/
structure Sw (n : Nat) (a0 b0 a b : List Nat) : Prop where
  la : a.length = n
  lb : b.length = n
  na : a.Nodup
  nb : b.Nodup
  va : ∀ x ∈ a, x < n
  vb : ∀ x ∈ b, x < n
  sw : ∀ k, k < n → (a.getD k 0 = a0.getD k 0 ∧ b.getD k 0 = b0.getD k 0) ∨ (a.getD k 0 = b0.getD k 0 ∧ b.getD k 0 = a0.getD k 0)
section
variable {n : Nat} {a0 b0 : List Nat} {bg : Nat} {C : List Nat} {c : Nat} {a b : List Nat}
theorem TO.more (h : TO n a0 b0 bg C c a b) : C.length < n := by
  have := nodup_len (List.nodup_cons.mpr ⟨h.cC, h.nC⟩) (u := List.range n) (by
    intro x hx
    rcases List.mem_cons.mp hx with rfl | hx
    · exact List.mem_range.mpr h.cn
    · exact List.mem_range.mpr (h.lC x hx))
  simp at this; omega
theorem mem_getD {l : List Nat} {x : Nat} (h : x ∈ l) : ∃ k, k < l.length ∧ l.getD k 0 = x := by
  obtain ⟨k, hk, e⟩ := List.getElem_of_mem h
  exact ⟨k, hk, by rw [getD_lt hk]; exact e⟩
theorem getD_mem {l : List Nat} {k : Nat} (h : k < l.length) : l.getD k 0 ∈ l := by rw [getD_lt h]; exact List.getElem_mem _
theorem TO.val_a (h : TO n a0 b0 bg C c a b) {k : Nat} (hk : k < n) : a.getD k 0 < n := by
  by_cases hc : k ∈ C
  · rw [(h.yes k hk hc).1]; exact h.vb0 _ (getD_mem (by rw [h.lb0]; exact hk))
  · rw [(h.no k hk hc).1]; exact h.va0 _ (getD_mem (by rw [h.la0]; exact hk))
theorem TO.val_b (h : TO n a0 b0 bg C c a b) {k : Nat} (hk : k < n) : b.getD k 0 < n := by
  by_cases hc : k ∈ C
  · rw [(h.yes k hk hc).2]; exact h.va0 _ (getD_mem (by rw [h.la0]; exact hk))
  · rw [(h.no k hk hc).2]; exact h.vb0 _ (getD_mem (by rw [h.lb0]; exact hk))
theorem val_of {l : List Nat} (hl : l.length = n) (h : ∀ k, k < n → l.getD k 0 < n) : ∀ x ∈ l, x < n := by
  intro x hx
  obtain ⟨k, hk, e⟩ := mem_getD hx
  rw [← e]; exact h k (by omega)
/-- the ring is closed -/
theorem TO.done (h : TO n a0 b0 bg C c a b) (hb : b.getD c 0 = bg) : Sw n a0 b0 (a.set c (b.getD c 0)) (b.set c (a.getD c 0)) := by
  have ca : c < a.length := by rw [h.la]; exact h.cn
  have cb : c < b.length := by rw [h.lb]; exact h.cn
  have nc := h.no c h.cn h.cC
  have ya : ∀ k, k < n → (k = c ∨ k ∈ C) → (a.set c (b.getD c 0)).getD k 0 = b0.getD k 0 ∧ (b.set c (a.getD c 0)).getD k 0 = a0.getD k 0 := by
    intro k hk q
    rw [getD_set ca, getD_set cb]
    by_cases e : k = c
    · subst e; rw [if_pos rfl, if_pos rfl]; exact ⟨nc.2, nc.1⟩
    · rw [if_neg e, if_neg e]; exact h.yes k hk (q.resolve_left e)
  have na : ∀ k, k < n → ¬ (k = c ∨ k ∈ C) → (a.set c (b.getD c 0)).getD k 0 = a0.getD k 0 ∧ (b.set c (a.getD c 0)).getD k 0 = b0.getD k 0 := by
    intro k hk q
    rw [getD_set ca, getD_set cb, if_neg (fun e => q (.inl e)), if_neg (fun e => q (.inl e))]
    exact h.no k hk fun e => q (.inr e)
  have nda : (a.set c (b.getD c 0)).Nodup := by rw [hb]; exact h.j1
  have la : (a.set c (b.getD c 0)).length = n := by rw [List.length_set]; exact h.la
  have lb : (b.set c (a.getD c 0)).length = n := by rw [List.length_set]; exact h.lb
  have va : ∀ x ∈ a.set c (b.getD c 0), x < n := val_of la fun k hk => by
    by_cases q : k = c ∨ k ∈ C
    · rw [(ya k hk q).1]; exact h.vb0 _ (getD_mem (by rw [h.lb0]; exact hk))
    · rw [(na k hk q).1]; exact h.va0 _ (getD_mem (by rw [h.la0]; exact hk))
  refine ⟨la, lb, nda, ?_, va, ?_, ?_⟩
  · -- the other row
    have cross : ∀ k l, k < n → l < n → (k = c ∨ k ∈ C) → ¬ (l = c ∨ l ∈ C) → a0.getD k 0 ≠ b0.getD l 0 := by
      intro k l hk hl q r e
      have hv : b0.getD l 0 < n := h.vb0 _ (getD_mem (by rw [h.lb0]; exact hl))
      obtain ⟨j, hj, ej⟩ := mem_getD (nodup_all nda la va _ hv)
      have hj' : j < n := by omega
      by_cases s : j = c ∨ j ∈ C
      · rw [(ya j hj' s).1] at ej
        have := nodup_getD h.nb0 (by rw [h.lb0]; exact hj') (by rw [h.lb0]; exact hl) ej
        subst this; exact r s
      · rw [(na j hj' s).1, ← e] at ej
        have := nodup_getD h.na0 (by rw [h.la0]; exact hj') (by rw [h.la0]; exact hk) ej
        subst this; exact s q
    refine nodup_of_getD fun i j hi hj e => ?_
    have hi' : i < n := by omega
    have hj' : j < n := by omega
    by_cases qi : i = c ∨ i ∈ C <;> by_cases qj : j = c ∨ j ∈ C
    · rw [(ya i hi' qi).2, (ya j hj' qj).2] at e
      exact nodup_getD h.na0 (by rw [h.la0]; exact hi') (by rw [h.la0]; exact hj') e
    · rw [(ya i hi' qi).2, (na j hj' qj).2] at e
      exact absurd e (cross i j hi' hj' qi qj)
    · rw [(na i hi' qi).2, (ya j hj' qj).2] at e
      exact absurd e.symm (cross j i hj' hi' qj qi)
    · rw [(na i hi' qi).2, (na j hj' qj).2] at e
      exact nodup_getD h.nb0 (by rw [h.lb0]; exact hi') (by rw [h.lb0]; exact hj') e
  · refine val_of lb fun k hk => ?_
    by_cases q : k = c ∨ k ∈ C
    · rw [(ya k hk q).2]; exact h.va0 _ (getD_mem (by rw [h.la0]; exact hk))
    · rw [(na k hk q).2]; exact h.vb0 _ (getD_mem (by rw [h.lb0]; exact hk))
  · intro k hk
    by_cases q : k = c ∨ k ∈ C
    · exact .inr (ya k hk q)
    · exact .inl (na k hk q)
theorem TO.ex (h : TO n a0 b0 bg C c a b) (hb : b.getD c 0 ≠ bg) : ∃ k, k < n ∧ k ≠ c ∧ (a.set c (b.getD c 0)).getD k 0 = (a.set c (b.getD c 0)).getD c 0 := by
  have ca : c < a.length := by rw [h.la]; exact h.cn
  have hv := h.val_b h.cn
  have l1 : (a.set c bg).length = n := by rw [List.length_set]; exact h.la
  obtain ⟨k, hk, e⟩ := mem_getD (nodup_all h.j1 l1 (val_of l1 fun k hk => by
    rw [getD_set ca]
    split
    · exact h.bl
    · exact h.val_a hk) _ hv)
  rw [getD_set ca] at e
  by_cases q : k = c
  · rw [if_pos q] at e; exact absurd e.symm hb
  · rw [if_neg q] at e
    refine ⟨k, by omega, q, ?_⟩
    rw [getD_set ca, getD_set ca, if_neg q, if_pos rfl, e]
theorem TO.next (h : TO n a0 b0 bg C c a b) (hb : b.getD c 0 ≠ bg) {k : Nat} (hk : k < n) (hc : k ≠ c) (e : (a.set c (b.getD c 0)).getD k 0 = (a.set c (b.getD c 0)).getD c 0) :
    TO n a0 b0 bg (c :: C) k (a.set c (b.getD c 0)) (b.set c (a.getD c 0)) := by
  have ca : c < a.length := by rw [h.la]; exact h.cn
  have cb : c < b.length := by rw [h.lb]; exact h.cn
  have nc := h.no c h.cn h.cC
  have e' : a.getD k 0 = b.getD c 0 := by rw [getD_set ca, getD_set ca, if_neg hc, if_pos rfl] at e; exact e
  have kC : k ∉ C := fun q => by
    have := (h.yes k hk q).1
    rw [e', nc.2] at this
    exact hc (nodup_getD h.nb0 (by rw [h.lb0]; exact hk) (by rw [h.lb0]; exact h.cn) this.symm)
  refine ⟨h.la0, h.lb0, h.na0, h.nb0, h.va0, h.vb0, h.ne, by rw [List.length_set]; exact h.la, by rw [List.length_set]; exact h.lb, ?_, ?_, hk, ?_, List.nodup_cons.mpr ⟨h.cC, h.nC⟩, ?_, h.bl, ?_⟩
  · intro j hj q
    rw [getD_set ca, getD_set cb]
    by_cases s : j = c
    · subst s; rw [if_pos rfl, if_pos rfl]; exact ⟨nc.2, nc.1⟩
    · rw [if_neg s, if_neg s]
      exact h.yes j hj ((List.mem_cons.mp q).resolve_left s)
  · intro j hj q
    have s : j ≠ c := fun s => q (by rw [s]; exact List.mem_cons_self)
    rw [getD_set ca, getD_set cb, if_neg s, if_neg s]
    exact h.no j hj fun r => q (List.mem_cons_of_mem _ r)
  · intro q
    rcases List.mem_cons.mp q with q | q
    · exact hc q
    · exact kC q
  · intro j hj
    rcases List.mem_cons.mp hj with rfl | hj
    · exact h.cn
    · exact h.lC j hj
  · -- the row with c and k exchanged
    have l1 : (a.set c bg).length = n := by rw [List.length_set]; exact h.la
    have g : ∀ i, i < n → ((a.set c (b.getD c 0)).set k bg).getD i 0 = (a.set c bg).getD (if i = c then k else if i = k then c else i) 0 := by
      intro i hi
      rw [getD_set (by rw [List.length_set, h.la]; exact hk), getD_set ca, getD_set ca]
      by_cases s1 : i = c
      · subst s1
        rw [if_neg (Ne.symm hc), if_pos rfl, if_pos rfl, if_neg hc, e']
      · by_cases s2 : i = k
        · rw [if_pos s2, if_neg s1, if_pos s2, if_pos rfl]
        · rw [if_neg s2, if_neg s1, if_neg s1, if_neg s2, if_neg s1]
    refine nodup_of_getD fun i j hi hj q => ?_
    rw [List.length_set, List.length_set, h.la] at hi hj
    rw [g i hi, g j hj] at q
    have hc' := h.cn
    have := nodup_getD h.j1 (by rw [l1]; split <;> (try split) <;> omega) (by rw [l1]; split <;> (try split) <;> omega) q
    split at this <;> split at this <;> (try split at this) <;> (try split at this) <;> omega
theorem TO.start {n : Nat} {a0 b0 : List Nat} {c : Nat} (la0 : a0.length = n) (lb0 : b0.length = n) (na0 : a0.Nodup) (nb0 : b0.Nodup) (va0 : ∀ x ∈ a0, x < n) (vb0 : ∀ x ∈ b0, x < n) (ne : ∀ k, k < n → a0.getD k 0 ≠ b0.getD k 0) (hc : c < n) :
    TO n a0 b0 (a0.getD c 0) [] c a0 b0 := by
  refine ⟨la0, lb0, na0, nb0, va0, vb0, ne, la0, lb0, fun k _ h => by simp at h, fun k _ _ => ⟨rfl, rfl⟩, hc, by simp, by simp, by simp, va0 _ (getD_mem (by omega)), ?_⟩
  have : a0.set c (a0.getD c 0) = a0 := by
    apply List.ext_getElem
    · simp
    · intro i h1 h2
      rw [List.getElem_set]
      split
      · rename_i q; subst q; rw [getD_lt h2]
      · rfl
  rw [this]; exact na0
end
/-- the table behind it -/
theorem sw_latin {n : Nat} {R : List (List Nat)} (L : Latin n R) {i j : Nat} (hi : i < n) (hj : j < n) (hij : i ≠ j) {a b : List Nat} (S : Sw n (R.getD i []) (R.getD j []) a b) : Latin n ((R.set i a).set j b) := by
  have il : i < R.length := by rw [L.len]; exact hi
  have jl : j < (R.set i a).length := by rw [List.length_set, L.len]; exact hj
  have g : ∀ k, ((R.set i a).set j b).getD k [] = if k = j then b else if k = i then a else R.getD k [] := by
    intro k
    by_cases h1 : k = j
    · subst h1; rw [if_pos rfl, List.getD, List.getElem?_set_self jl]; rfl
    · rw [if_neg h1, List.getD, List.getElem?_set_ne (Ne.symm h1)]
      by_cases h2 : k = i
      · subst h2; rw [if_pos rfl, List.getElem?_set_self il]; rfl
      · rw [if_neg h2, List.getElem?_set_ne (Ne.symm h2)]; rfl
  have c : ∀ k l, l < n → ∃ k', cell ((R.set i a).set j b) k l = cell R k' l ∧ ((k' = k ∧ (k = i ∨ k = j → cell ((R.set i a).set j b) i l = cell R i l ∧ cell ((R.set i a).set j b) j l = cell R j l)) ∨ (k = i ∧ k' = j ∧ cell ((R.set i a).set j b) j l = cell R i l) ∨ (k = j ∧ k' = i ∧ cell ((R.set i a).set j b) i l = cell R j l)) := by
    intro k l hl
    have ci : cell ((R.set i a).set j b) i l = a.getD l 0 := by unfold cell; rw [g, if_neg hij, if_pos rfl]
    have cj : cell ((R.set i a).set j b) j l = b.getD l 0 := by unfold cell; rw [g, if_pos rfl]
    have ei : cell R i l = (R.getD i []).getD l 0 := rfl
    have ej : cell R j l = (R.getD j []).getD l 0 := rfl
    by_cases h1 : k = i
    · subst h1
      rcases S.sw l hl with ⟨q1, q2⟩ | ⟨q1, q2⟩
      · exact ⟨k, by rw [ci, q1, ei], .inl ⟨rfl, fun _ => ⟨by rw [ci, q1, ei], by rw [cj, q2, ej]⟩⟩⟩
      · exact ⟨j, by rw [ci, q1, ej], .inr (.inl ⟨rfl, rfl, by rw [cj, q2, ei]⟩)⟩
    · by_cases h2 : k = j
      · subst h2
        rcases S.sw l hl with ⟨q1, q2⟩ | ⟨q1, q2⟩
        · exact ⟨k, by rw [cj, q2, ej], .inl ⟨rfl, fun _ => ⟨by rw [ci, q1, ei], by rw [cj, q2, ej]⟩⟩⟩
        · exact ⟨i, by rw [cj, q2, ei], .inr (.inr ⟨rfl, rfl, by rw [ci, q1, ej]⟩)⟩
      · refine ⟨k, ?_, .inl ⟨rfl, fun q => absurd q (fun q => q.elim h1 h2)⟩⟩
        unfold cell; rw [g, if_neg h2, if_neg h1]
  refine ⟨by rw [List.length_set, List.length_set, L.len], ?_, ?_⟩
  · intro r hr
    rcases List.mem_or_eq_of_mem_set hr with hr | rfl
    · rcases List.mem_or_eq_of_mem_set hr with hr | rfl
      · exact L.row r hr
      · exact ⟨S.la, S.na, S.va⟩
    · exact ⟨S.lb, S.nb, S.vb⟩
  · intro k k' l hk hk' hl e
    obtain ⟨p, e1, h1⟩ := c k l hl
    obtain ⟨p', e2, h2⟩ := c k' l hl
    have hp : p < n := by rcases h1 with ⟨h, _⟩ | ⟨_, h, _⟩ | ⟨_, h, _⟩ <;> omega
    have hp' : p' < n := by rcases h2 with ⟨h, _⟩ | ⟨_, h, _⟩ | ⟨_, h, _⟩ <;> omega
    rw [e1, e2] at e
    have pp := L.col p p' l hp hp' hl e
    -- one exchange for the whole column
    have dif : cell R i l ≠ cell R j l := fun q => hij (L.col i j l hi hj hl q)
    rcases h1 with ⟨a1, a2⟩ | ⟨a1, a2, a3⟩ | ⟨a1, a2, a3⟩ <;> rcases h2 with ⟨b1, b2⟩ | ⟨b1, b2, b3⟩ | ⟨b1, b2, b3⟩
    · omega
    · -- k' = i, p' = j; k = p = j
      have := (a2 (.inr (by omega))).2
      rw [b3] at this; exact absurd this dif
    · have := (a2 (.inl (by omega))).1
      rw [b3] at this; exact absurd this.symm dif
    · have := (b2 (.inr (by omega))).2
      rw [a3] at this; exact absurd this dif
    · omega
    · omega
    · have := (b2 (.inl (by omega))).1
      rw [a3] at this; exact absurd this.symm dif
    · omega
    · omega
/-- sums with a factor that has no divisor with the size -/
theorem sums_latin {n t : Nat} {p q r : List Nat} (hp : p.length = n ∧ p.Nodup ∧ ∀ x ∈ p, x < n) (hq : q.length = n ∧ q.Nodup ∧ ∀ x ∈ q, x < n) (hr : r.length = n ∧ r.Nodup ∧ ∀ x ∈ r, x < n)
    (ht : ∀ x y, x < n → y < n → (t * x) % n = (t * y) % n → x = y) :
    Latin n ((List.range n).map fun x => (List.range n).map fun y => r.getD ((p.getD x 0 + t * q.getD y 0) % n) 0) := by
  have hl : ∀ (l : List Nat), l.length = n ∧ l.Nodup ∧ (∀ x ∈ l, x < n) → ∀ k, k < n → l.getD k 0 < n := fun l h k hk => h.2.2 _ (getD_mem (by rw [h.1]; exact hk))
  have inj : ∀ (l : List Nat), l.length = n ∧ l.Nodup ∧ (∀ x ∈ l, x < n) → ∀ k k', k < n → k' < n → l.getD k 0 = l.getD k' 0 → k = k' := fun l h k k' hk hk' e => nodup_getD h.2.1 (by rw [h.1]; exact hk) (by rw [h.1]; exact hk') e
  have addc : ∀ s u v, (s + u) % n = (s + v) % n → u % n = v % n := by
    intro s u v h
    by_cases hn : n = 0
    · subst hn; simp at h; simp; omega
    · have h1 : (s + u) % n = ((s % n) + (u % n)) % n := Nat.add_mod _ _ _
      have h2 : (s + v) % n = ((s % n) + (v % n)) % n := Nat.add_mod _ _ _
      rw [h1, h2] at h
      have a1 := Nat.mod_lt s (show n > 0 by omega)
      have a2 := Nat.mod_lt u (show n > 0 by omega)
      have a3 := Nat.mod_lt v (show n > 0 by omega)
      have key : ∀ k, k < n → (s % n + k) % n = if s % n + k < n then s % n + k else s % n + k - n := by
        intro k hk
        split
        · rename_i h; exact Nat.mod_eq_of_lt h
        · rename_i h
          rw [Nat.mod_eq_sub_mod (by omega)]
          exact Nat.mod_eq_of_lt (by omega)
      rw [key _ a2, key _ a3] at h
      split at h <;> split at h <;> omega
  have getr : ∀ x, x < n → ((List.range n).map fun x => (List.range n).map fun y => r.getD ((p.getD x 0 + t * q.getD y 0) % n) 0).getD x [] = (List.range n).map fun y => r.getD ((p.getD x 0 + t * q.getD y 0) % n) 0 := by
    intro x hx
    rw [List.getD, List.getElem?_map, List.getElem?_range hx]; rfl
  have getc : ∀ x y, x < n → y < n → cell ((List.range n).map fun x => (List.range n).map fun y => r.getD ((p.getD x 0 + t * q.getD y 0) % n) 0) x y = r.getD ((p.getD x 0 + t * q.getD y 0) % n) 0 := by
    intro x y hx hy
    unfold cell
    rw [getr x hx, List.getD, List.getElem?_map, List.getElem?_range hy]; rfl
  have ml : ∀ k, 0 < n → k % n < n := fun k h => Nat.mod_lt k h
  refine ⟨by simp, ?_, ?_⟩
  · intro s hs
    obtain ⟨x, hx, rfl⟩ := List.mem_map.mp hs
    have hx' := List.mem_range.mp hx
    have pos : 0 < n := by omega
    refine ⟨by simp, nodup_map_of List.nodup_range ?_, ?_⟩
    · intro y hy y' hy' e
      have hy1 := List.mem_range.mp hy
      have hy2 := List.mem_range.mp hy'
      have e1 := inj r hr _ _ (ml _ pos) (ml _ pos) e
      have e2 := addc _ _ _ e1
      exact inj q hq _ _ hy1 hy2 (ht _ _ (hl q hq _ hy1) (hl q hq _ hy2) e2)
    · intro z hz
      obtain ⟨y, hy, rfl⟩ := List.mem_map.mp hz
      exact hl r hr _ (ml _ pos)
  · intro x x' y hx hx' hy e
    have pos : 0 < n := by omega
    rw [getc x y hx hy, getc x' y hx' hy] at e
    have e1 := inj r hr _ _ (ml _ pos) (ml _ pos) e
    rw [Nat.add_comm (p.getD x 0), Nat.add_comm (p.getD x' 0)] at e1
    have e2 := addc _ _ _ e1
    rw [Nat.mod_eq_of_lt (hl p hp _ hx), Nat.mod_eq_of_lt (hl p hp _ hx')] at e2
    exact inj p hp _ _ hx hx' e2

/-! ### marks -/
def mq (m : List Nat) (k : Nat) : Nat := m.getD k 0
structure Mk (n : Nat) (m : List Nat) : Prop where
  len : m.length = n
  lt : ∀ k, k < n → mq m k < n
  id : ∀ k, k < n → mq m (mq m k) = mq m k
def nMk (n : Nat) (m : List Nat) : Nat := (List.range n).countP fun v => mq m v == v
theorem Mk.start (n : Nat) : Mk n (List.range n) := by
  have g : ∀ k, k < n → mq (List.range n) k = k := fun k hk => by simp [mq, List.getD, List.getElem?_range hk]
  exact ⟨by simp, fun k hk => by rw [g k hk]; exact hk, fun k hk => by rw [g k hk, g k hk]⟩
theorem nMk_start (n : Nat) : nMk n (List.range n) ≤ n := by
  have := List.countP_le_length (p := fun v => mq (List.range n) v == v) (l := List.range n)
  simpa [nMk] using this
theorem Mk.pos {n : Nat} {m : List Nat} (M : Mk n m) (hn : 0 < n) : 0 < nMk n m := by
  unfold nMk
  rw [List.countP_pos_iff]
  exact ⟨mq m 0, List.mem_range.mpr (M.lt 0 hn), by simp [M.id 0 hn]⟩
def mergeM (m : List Nat) (lo hi : Nat) : List Nat := m.map fun v => if v = hi then lo else v
theorem merge_get {m : List Nat} {lo hi k : Nat} (h : k < m.length) : mq (mergeM m lo hi) k = if mq m k = hi then lo else mq m k := by
  unfold mq mergeM
  rw [List.getD, List.getElem?_map, List.getElem?_eq_getElem h, getD_lt h]; rfl
theorem Mk.merge {n : Nat} {m : List Nat} (M : Mk n m) {a b : Nat} (ha : a < n) (hb : b < n) (h : mq m a < mq m b) : Mk n (mergeM m (mq m a) (mq m b)) ∧ nMk n (mergeM m (mq m a) (mq m b)) < nMk n m := by
  have g : ∀ k, k < n → mq (mergeM m (mq m a) (mq m b)) k = if mq m k = mq m b then mq m a else mq m k := fun k hk => merge_get (by rw [M.len]; exact hk)
  have ia := M.id a ha
  have ib := M.id b hb
  have la := M.lt a ha
  have lb := M.lt b hb
  refine ⟨⟨by simp [mergeM, M.len], ?_, ?_⟩, ?_⟩
  · intro k hk
    rw [g k hk]
    split
    · exact la
    · exact M.lt k hk
  · intro k hk
    rw [g k hk]
    split
    · rw [g _ la, ia, if_neg (by omega)]
    · rename_i q
      rw [g _ (M.lt k hk), M.id k hk, if_neg q]
  · unfold nMk
    refine countP_lt _ _ _ (mq m b) (List.mem_range.mpr lb) ?_ ?_ ?_
    · rw [g _ lb, ib, if_pos rfl]; simp; omega
    · simp [ib]
    · intro v hv q
      have hv' := List.mem_range.mp hv
      rw [g v hv'] at q
      split at q
      · rename_i e
        simp at q
        -- m v = m b, v = m a: then m (m a) = m b
        rw [← q, ia] at e; omega
      · exact q
/-- closed: two rows alike at two places are alike at the third -/
def MClosed (m : List Nat) (rows : List T3) : Prop := ∀ w, ∀ r ∈ rows, ∀ r' ∈ rows, mq m (pk w r) = mq m (pk w r') → mq m (qk w r) = mq m (qk w r') → ¬ mq m (rk w r) < mq m (rk w r')
theorem MClosed.resp {m : List Nat} {rows : List T3} (h : MClosed m rows) : Resp (mq m) rows := by
  intro w r hr r' hr' e1 e2
  have h1 := h w r hr r' hr' e1 e2
  have h2 := h w r' hr' r hr e1.symm e2.symm
  omega
theorem MClosed.root {m : List Nat} {n : Nat} {rows : List T3} (h : MClosed m rows) (R : Rows n rows) {x y : Nat} (e : root (closeOf n rows).1 x = root (closeOf n rows).1 y) : mq m x = mq m y := by
  have h1 := closeOf_snd (φ := mq m) R h.resp x
  have h2 := closeOf_snd (φ := mq m) R h.resp y
  rw [← h1, ← h2, e]
end K12
set_option linter.all false
/-! K12j: a way turned over, edge by edge. Plain Lean. -/
namespace K12
def del1 (P : Pt) (u : Nd) (k : Nat) : Pt := fun x j => if x = u ∧ j = k then none else P x j
def nd (ns : List Nd) (i : Nat) : Nd := ns.getD i (.row 0)
theorem nd_get {ns : List Nd} {i : Nat} (h : i < ns.length) : nd ns i = ns[i] := by
  unfold nd; simp [List.getD, List.getElem?_eq_getElem h]
def delN (P : Pt) (h t : Nat) (ns : List Nd) : Nat → Pt
  | 0 => P
  | i + 1 => del1 (del1 (delN P h t ns i) (nd ns i) (col h t i)) (nd ns (i + 1)) (col h t i)
def putN (Q : Pt) (h t : Nat) (ns : List Nd) : Nat → Pt
  | 0 => Q
  | i + 1 => put (putN Q h t ns i) (nd ns i) (nd ns (i + 1)) (col t h i)
theorem col_ne {h t : Nat} (n : h ≠ t) (k : Nat) : col h t k ≠ col h t (k + 1) := by
  rw [col_succ]
  unfold col
  split <;> omega
theorem col_or (h t k : Nat) : col h t k = h ∨ col h t k = t := by unfold col; split <;> simp
section
variable {P : Pt} {D : List (Nat × Nat)} {m h t x : Nat} {ns : List Nd}
structure Trn (P : Pt) (D : List (Nat × Nat)) (m h t x : Nat) (ns : List Nd) : Prop where
  C : Col P D m
  ch : Chain P h t (.th x) ns
  ht : P (.th x) t = none
  ne : h ≠ t
theorem Trn.inj (T : Trn P D m h t x ns) {i j : Nat} (hi : i < ns.length) (hj : j < ns.length) (e : nd ns i = nd ns j) : i = j := by
  rw [nd_get hi, nd_get hj] at e
  exact (List.getElem_inj (T.ch.way.nodup T.C T.ch.fst T.ht)).mp e
theorem Trn.edge (T : Trn P D m h t x ns) {i : Nat} (hi : i + 1 < ns.length) : P (nd ns i) (col h t i) = some (nd ns (i + 1)) := by
  rw [nd_get hi, nd_get (by omega)]; exact T.ch.way.st i hi
theorem Trn.back (T : Trn P D m h t x ns) {i : Nat} (hi : i + 1 < ns.length) : P (nd ns (i + 1)) (col h t i) = some (nd ns i) := T.C.sym _ _ _ (T.edge hi)
/-- gone by then -/
def Gone (h t : Nat) (ns : List Nd) (i : Nat) (u : Nd) (c : Nat) : Prop := ∃ j, j < i ∧ c = col h t j ∧ (u = nd ns j ∨ u = nd ns (j + 1))
theorem delN_val : ∀ (i : Nat) (u : Nd) (c : Nat), (Gone h t ns i u c → delN P h t ns i u c = none) ∧ (¬ Gone h t ns i u c → delN P h t ns i u c = P u c)
  | 0, u, c => ⟨fun ⟨j, hj, _⟩ => absurd hj (Nat.not_lt_zero _), fun _ => rfl⟩
  | i + 1, u, c => by
    obtain ⟨a, b⟩ := delN_val i u c
    show (_ → del1 _ _ _ u c = none) ∧ (_ → del1 _ _ _ u c = _)
    unfold del1
    by_cases h1 : u = nd ns (i + 1) ∧ c = col h t i
    · refine ⟨fun _ => if_pos h1, fun hn => absurd ⟨i, Nat.lt_succ_self i, h1.2, .inr h1.1⟩ hn⟩
    · rw [if_neg h1]
      by_cases h2 : u = nd ns i ∧ c = col h t i
      · refine ⟨fun _ => if_pos h2, fun hn => absurd ⟨i, Nat.lt_succ_self i, h2.2, .inl h2.1⟩ hn⟩
      · rw [if_neg h2]
        refine ⟨fun ⟨j, hj, ec, eu⟩ => ?_, fun hn => b fun ⟨j, hj, ec, eu⟩ => hn ⟨j, by omega, ec, eu⟩⟩
        by_cases hji : j = i
        · subst hji
          exact absurd ec fun ec => eu.elim (fun q => h2 ⟨q, ec⟩) (fun q => h1 ⟨q, ec⟩)
        · exact a ⟨j, by omega, ec, eu⟩
theorem Trn.del_there (T : Trn P D m h t x ns) {i : Nat} (hi : i + 1 < ns.length) : delN P h t ns i (nd ns i) (col h t i) = some (nd ns (i + 1)) := by
  rw [(delN_val i _ _).2, T.edge hi]
  rintro ⟨j, hj, ec, eu | eu⟩
  · have := T.inj (by omega) (by omega) eu; omega
  · have := T.inj (by omega) (by omega) eu
    subst this
    exact col_ne T.ne j ec.symm
theorem Trn.del_there2 (T : Trn P D m h t x ns) {i : Nat} (hi : i + 1 < ns.length) : del1 (delN P h t ns i) (nd ns i) (col h t i) (nd ns (i + 1)) (col h t i) = some (nd ns i) := by
  unfold del1
  rw [if_neg (fun q => by have := T.inj (by omega) (by omega) q.1; omega), (delN_val i _ _).2, T.back hi]
  rintro ⟨j, hj, ec, eu | eu⟩
  · have := T.inj (by omega) (by omega) eu; omega
  · have := T.inj (by omega) (by omega) eu; omega
theorem Trn.put_val (T : Trn P D m h t x ns) (Q : Pt) : ∀ (i : Nat), i + 1 ≤ ns.length → (∀ j, j < i → putN Q h t ns i (nd ns j) (col t h j) = some (nd ns (j + 1)) ∧ putN Q h t ns i (nd ns (j + 1)) (col t h j) = some (nd ns j)) ∧
    ∀ u c, ¬ Gone t h ns i u c → putN Q h t ns i u c = Q u c
  | 0, _ => ⟨fun j hj => absurd hj (Nat.not_lt_zero _), fun u c _ => rfl⟩
  | i + 1, hi => by
    obtain ⟨a, b⟩ := T.put_val Q i (by omega)
    have ii : nd ns i ≠ nd ns (i + 1) := fun q => by have := T.inj (by omega) (by omega) q; omega
    refine ⟨fun j hj => ?_, fun u c hn => ?_⟩
    · show put _ _ _ _ _ _ = _ ∧ put _ _ _ _ _ _ = _
      unfold put
      by_cases hji : j = i
      · subst hji
        exact ⟨by rw [if_neg (fun q => ii q.1), if_pos ⟨rfl, rfl⟩], by rw [if_pos ⟨rfl, rfl⟩]⟩
      · obtain ⟨a1, a2⟩ := a j (by omega)
        have n1 : ¬ (nd ns j = nd ns (i + 1) ∧ col t h j = col t h i) := fun q => by have := T.inj (by omega) (by omega) q.1; omega
        have n2 : ¬ (nd ns j = nd ns i ∧ col t h j = col t h i) := fun q => by have := T.inj (by omega) (by omega) q.1; omega
        have n3 : ¬ (nd ns (j + 1) = nd ns (i + 1) ∧ col t h j = col t h i) := fun q => by have := T.inj (by omega) (by omega) q.1; omega
        have n4 : ¬ (nd ns (j + 1) = nd ns i ∧ col t h j = col t h i) := fun q => by
          have := T.inj (by omega) (by omega) q.1
          subst this
          exact col_ne (Ne.symm T.ne) j q.2
        exact ⟨by rw [if_neg n1, if_neg n2]; exact a1, by rw [if_neg n3, if_neg n4]; exact a2⟩
    · show put _ _ _ _ u c = _
      unfold put
      rw [if_neg (fun q => hn ⟨i, Nat.lt_succ_self i, q.2, .inr q.1⟩), if_neg (fun q => hn ⟨i, Nat.lt_succ_self i, q.2, .inl q.1⟩)]
      exact b u c fun ⟨j, hj, e⟩ => hn ⟨j, by omega, e⟩
theorem Trn.all (T : Trn P D m h t x ns) : putN (delN P h t ns (ns.length - 1)) h t ns (ns.length - 1) = kempe P (· ∈ ns) h t := by
  have ne := T.ch.way.ne
  obtain ⟨a, b⟩ := T.put_val (delN P h t ns (ns.length - 1)) (ns.length - 1) (by omega)
  have st : P (nd ns (ns.length - 1)) (col h t (ns.length - 1)) = none := T.ch.stop _ (by rw [nd_get (by omega)]; exact List.getElem?_eq_getElem (by omega))
  have fst : nd ns 0 = .th x := by
    rw [nd_get ne]
    have := T.ch.fst
    rw [List.getElem?_eq_getElem ne] at this
    exact Option.some.inj this
  funext u c
  by_cases hu : u ∈ ns
  · rw [kempe_in hu]
    obtain ⟨k, hk, rfl⟩ := List.getElem_of_mem hu
    rw [← nd_get hk]
    by_cases hc : c = h ∨ c = t
    · -- one of the two
      by_cases e : c = col t h k
      · subst e
        have es : sw h t (col t h k) = col h t k := by
          rw [← sw_col h t k, sw_sw]
        rw [es]
        by_cases hl : k + 1 < ns.length
        · rw [(a k (by omega)).1, T.edge hl]
        · have hk' : k = ns.length - 1 := by omega
          rw [hk', st, b _ _ ?_]
          · cases q : delN P h t ns (ns.length - 1) (nd ns (ns.length - 1)) (col t h (ns.length - 1)) with
            | none => rfl
            | some v =>
              exfalso
              by_cases g : Gone h t ns (ns.length - 1) (nd ns (ns.length - 1)) (col t h (ns.length - 1))
              · rw [(delN_val _ _ _).1 g] at q; cases q
              · rw [(delN_val _ _ _).2 g] at q
                -- the other round at the last node
                by_cases z : ns.length - 1 = 0
                · rw [z] at q
                  rw [fst, show col t h 0 = t from rfl, T.ht] at q; cases q
                · obtain ⟨j, hj⟩ : ∃ j, ns.length - 1 = j + 1 := ⟨ns.length - 2, by omega⟩
                  refine g ⟨j, by omega, ?_, .inr (by rw [hj])⟩
                  rw [hj, col_succ]
          · rintro ⟨j, hj, ec, eu | eu⟩
            · have := T.inj (by omega) (by omega) eu; omega
            · have := T.inj (by omega) (by omega) eu
              have ej : ns.length - 1 = j + 1 := by omega
              rw [ej] at ec
              exact col_ne (Ne.symm T.ne) j ec.symm
      · -- the round by which the way came
        have e2 : c = col h t k := by
          unfold col at e ⊢
          split at e <;> rename_i q
          · rw [if_pos q]; rcases hc with hc | hc
            · exact hc
            · exact absurd hc e
          · rw [if_neg q]; rcases hc with hc | hc
            · exact absurd hc e
            · exact hc
        subst e2
        rw [sw_col]
        by_cases z : k = 0
        · subst z
          rw [fst, show col t h 0 = t from rfl, T.ht, b _ _ ?_]
          · by_cases g : Gone h t ns (ns.length - 1) (.th x) (col h t 0)
            · exact (delN_val _ _ _).1 g
            · rw [(delN_val _ _ _).2 g]
              by_cases hl : 0 + 1 < ns.length
              · exact absurd ⟨0, by omega, rfl, .inl fst.symm⟩ g
              · have : ns.length - 1 = 0 := by omega
                rw [this, fst] at st; exact st
          · rintro ⟨j, hj, ec, eu | eu⟩
            · rw [← fst] at eu
              have := T.inj (by omega) (by omega) eu
              subst this
              exact T.ne ec
            · rw [← fst] at eu
              have := T.inj (by omega) (by omega) eu; omega
        · obtain ⟨j, rfl⟩ : ∃ j, k = j + 1 := ⟨k - 1, by omega⟩
          rw [col_succ, (a j (by omega)).2, col_succ, T.back hk]
    · have h1 : c ≠ h := fun q => hc (.inl q)
      have h2 : c ≠ t := fun q => hc (.inr q)
      rw [sw_other h1 h2, b _ _ ?_, (delN_val _ _ _).2 ?_]
      · rintro ⟨j, _, ec, _⟩
        rcases col_or h t j with q | q
        · exact h1 (ec.trans q)
        · exact h2 (ec.trans q)
      · rintro ⟨j, _, ec, _⟩
        rcases col_or t h j with q | q
        · exact h2 (ec.trans q)
        · exact h1 (ec.trans q)
  · rw [kempe_out hu, b _ _ ?_, (delN_val _ _ _).2 ?_]
    · rintro ⟨j, hj, _, eu | eu⟩
      · exact hu (by rw [eu, nd_get (by omega)]; exact List.getElem_mem _)
      · exact hu (by rw [eu, nd_get (by omega)]; exact List.getElem_mem _)
    · rintro ⟨j, hj, _, eu | eu⟩
      · exact hu (by rw [eu, nd_get (by omega)]; exact List.getElem_mem _)
      · exact hu (by rw [eu, nd_get (by omega)]; exact List.getElem_mem _)
theorem Trn.kempe (T : Trn P D m h t x ns) : kempe P (fun u => ∃ ns, Chain P h t (.th x) ns ∧ u ∈ ns) h t = putN (delN P h t ns (ns.length - 1)) h t ns (ns.length - 1) := by
  rw [T.all]
  congr 1
  funext u
  exact propext ⟨fun ⟨ns', c', hu⟩ => by rw [c'.unique T.ch] at hu; exact hu, fun hu => ⟨ns, T.ch, hu⟩⟩
end
end K12
set_option linter.all false
set_option maxRecDepth 100000
set_option maxHeartbeats 4000000
/-! K12w0: the text by places, frames, data, calls in short. -/
namespace K12
open PySem PySem.Spec PyProof.Rows L2
def top (i : Nat) : Stmt := PySem.Challenge.pw_solvedbothsides_k12_whole_same_in_all_ta.main.body.getD i (.Pass ⟨0, 0, 0, 0⟩)
/-! ### frames: what stood stands, but for S -/
structure Fr (S : Addr → Prop) (H H' : Hp) : Prop where
  keep : ∀ a o, H a = some o → ¬ S a → H' a = some o
  tup : ∀ a xs, H a = some (.tup xs) → H' a = some (.tup xs)
abbrev S0 : Addr → Prop := fun _ => False
abbrev S1 (b : Addr) : Addr → Prop := fun a => a = b
section
variable {S S' : Addr → Prop} {H H1 H2 H3 : Hp} {a p : Addr} {o : HO}
theorem Fr.refl (S) (H : Hp) : Fr S H H := ⟨fun _ _ h _ => h, fun _ _ h => h⟩
theorem Fr.trans (x : Fr S H H1) (y : Fr S H1 H2) : Fr S H H2 := ⟨fun a o h n => y.keep a o (x.keep a o h n) n, fun a xs h => y.tup a xs (x.tup a xs h)⟩
theorem Fr.mono (x : Fr S H H1) (h : ∀ a, S a → S' a) : Fr S' H H1 := ⟨fun a o e n => x.keep a o e fun q => n (h a q), x.tup⟩
/-- a new object -/
theorem Fr.new (x : Fr S H H1) (hp : H1 p = none) : Fr S H (upd H1 p o) :=
  ⟨fun a u h n => by rw [upd_ne (ne_of_none (x.keep a u h n) hp)]; exact x.keep a u h n, fun a xs h => by rw [upd_ne (ne_of_none (x.tup a xs h) hp)]; exact x.tup a xs h⟩
/-- an object that H does not know changes -/
theorem Fr.mut (x : Fr S H H1) (hp : H p = none) : Fr S H (upd H1 p o) :=
  ⟨fun a u h n => by rw [upd_ne (ne_of_none h hp)]; exact x.keep a u h n, fun a xs h => by rw [upd_ne (ne_of_none h hp)]; exact x.tup a xs h⟩
/-- an object of S changes -/
theorem Fr.set (x : Fr S H H1) (hp : S p) (ht : ∀ xs, H1 p ≠ some (.tup xs)) : Fr S H (upd H1 p o) :=
  ⟨fun a u h n => by rw [upd_ne (fun q => n (by rw [q]; exact hp))]; exact x.keep a u h n, fun a xs h => by
    have h1 := x.tup a xs h
    rw [upd_ne (fun q => ht xs (by rw [← q]; exact h1))]; exact h1⟩
/-- a frame further on, whose objects H does not know or S allows -/
theorem Fr.step (x : Fr S H H1) (y : Fr S' H1 H2) (h : ∀ a, S' a → H a = none ∨ S a) : Fr S H H2 :=
  ⟨fun a u e n => y.keep a u (x.keep a u e n) fun q => (h a q).elim (fun z => by rw [z] at e; cases e) n, fun a xs e => y.tup a xs (x.tup a xs e)⟩
theorem Fr.free (x : Fr S0 H H1) (hp : H1 p = none) : H p = none := by
  cases q : H p with
  | none => rfl
  | some o => rw [x.keep p o q (fun z => z)] at hp; cases hp
theorem Fr.freeS (x : Fr S H H1) (hs : ¬ S p) (hp : H1 p = none) : H p = none := by
  cases q : H p with
  | none => rfl
  | some o => rw [x.keep p o q hs] at hp; cases hp
/-- fresh behind is fresh ahead, where what S allows is there still -/
theorem Fr.freeT (x : Fr S H H1) (hs : ∀ a, S a → ∃ o, H1 a = some o) (hp : H1 p = none) : H p = none := by
  cases q : H p with
  | none => rfl
  | some o =>
    by_cases z : S p
    · obtain ⟨u, e⟩ := hs p z; rw [e] at hp; cases hp
    · rw [x.keep p o q z] at hp; cases hp
end
/-! ### data that never change -/
/-- a tuple that is tracked, or one of the module's own -/
def Tp (K : PySem.W.Frag) (H : Hp) (a : Addr) (xs : List V) : Prop :=
  H a = some (.tup xs) ∨ ∃ (o : Obj) (its : Array Value) (n : Nat), K.lookup a = some o ∧ o.cls = .type "tuple" ∧ o.data = .seq its n ∧ its.size ≤ sizeLine ∧ Vals xs its.toList
mutual
inductive DT (K : PySem.W.Frag) (H : Hp) : V → PyData → Prop
  | non : DT K H .non .none
  | bl (b : Bool) : DT K H (.bl b) (.bool b)
  | int (i : Int) : DT K H (.int i) (.int i)
  | str (x : Str) : DT K H (.str x) (.str x)
  | tup {a : Addr} {xs : List V} {ds : List PyData} : Tp K H a xs → DTs K H xs ds → DT K H (.ref a) (.tuple ds)
inductive DTs (K : PySem.W.Frag) (H : Hp) : List V → List PyData → Prop
  | nil : DTs K H [] []
  | cons {v : V} {vs : List V} {d : PyData} {ds : List PyData} : DT K H v d → DTs K H vs ds → DTs K H (v :: vs) (d :: ds)
end
section
variable {K : PySem.W.Frag} {S : Addr → Prop} {H H' : Hp} {a : Addr} {xs vs : List V} {v : V} {d : PyData} {ds : List PyData}
theorem Tp.of (h : H a = some (.tup xs)) : Tp K H a xs := .inl h
theorem Tp.sq (h : Tp K H a xs) : SqT K H a xs := h.elim (fun e => .inl (.inl e)) .inr
theorem Tp.fr (f : Fr S H H') (h : Tp K H a xs) : Tp K H' a xs := h.elim (fun e => .inl (f.tup _ _ e)) .inr
mutual
theorem DT.fr (f : Fr S H H') : ∀ {v : V} {d : PyData}, DT K H v d → DT K H' v d
  | _, _, .non => .non
  | _, _, .bl b => .bl b
  | _, _, .int i => .int i
  | _, _, .str x => .str x
  | _, _, .tup h r => .tup (h.fr f) (DTs.fr f r)
theorem DTs.fr (f : Fr S H H') : ∀ {vs : List V} {ds : List PyData}, DTs K H vs ds → DTs K H' vs ds
  | _, _, .nil => .nil
  | _, _, .cons h r => .cons (DT.fr f h) (DTs.fr f r)
end
mutual
theorem DT.dp : ∀ {v : V} {d : PyData}, DT K H v d → Dp K H v d
  | _, _, .non => .non
  | _, _, .bl b => .bl b
  | _, _, .int i => .int i
  | _, _, .str x => .str x
  | _, _, .tup h r => .tup h.sq (DTs.dp r)
theorem DTs.dp : ∀ {vs : List V} {ds : List PyData}, DTs K H vs ds → DpAll K H vs ds
  | _, _, .nil => .nil
  | _, _, .cons h r => .cons (DT.dp h) (DTs.dp r)
end
theorem DT.int_inv {i : Int} (h : DT K H v (.int i)) : v = .int i := by cases h; rfl
theorem DT.str_inv {x : Str} (h : DT K H v (.str x)) : v = .str x := by cases h; rfl
theorem DT.non_inv (h : DT K H v .none) : v = .non := by cases h; rfl
theorem DT.tup_inv (h : DT K H v (.tuple ds)) : ∃ p xs, v = .ref p ∧ Tp K H p xs ∧ DTs K H xs ds := by
  cases h with
  | tup t r => exact ⟨_, _, rfl, t, r⟩
theorem DTs.len : ∀ {vs : List V} {ds : List PyData}, DTs K H vs ds → vs.length = ds.length
  | _, _, .nil => rfl
  | _, _, .cons _ r => congrArg Nat.succ (DTs.len r)
theorem DTs.get : ∀ {vs : List V} {ds : List PyData} {i : Nat} {d : PyData}, DTs K H vs ds → ds[i]? = some d → ∃ v, vs[i]? = some v ∧ DT K H v d
  | _, _, i, _, .nil, e => by simp at e
  | _, _, 0, _, .cons h _, e => by simp at e; subst e; exact ⟨_, rfl, h⟩
  | _, _, i + 1, d, .cons _ r, e => by
    obtain ⟨v, h1, h2⟩ := DTs.get (i := i) (d := d) r (by simpa using e)
    exact ⟨v, by simpa using h1, h2⟩
theorem DTs.at : ∀ {vs : List V} {ds : List PyData} {i : Nat} {v : V}, DTs K H vs ds → vs[i]? = some v → ∃ d, ds[i]? = some d ∧ DT K H v d
  | _, _, i, _, .nil, e => by simp at e
  | _, _, 0, _, .cons h _, e => by simp at e; subst e; exact ⟨_, rfl, h⟩
  | _, _, i + 1, v, .cons _ r, e => by
    obtain ⟨d, h1, h2⟩ := DTs.at (i := i) (v := v) r (by simpa using e)
    exact ⟨d, by simpa using h1, h2⟩
theorem DTs.append : ∀ {vs ws : List V} {ds es : List PyData}, DTs K H vs ds → DTs K H ws es → DTs K H (vs ++ ws) (ds ++ es)
  | _, _, _, _, .nil, r => r
  | _, _, _, _, .cons h t, r => .cons h (DTs.append t r)
theorem DTs.take : ∀ {vs : List V} {ds : List PyData} (n : Nat), DTs K H vs ds → DTs K H (vs.take n) (ds.take n)
  | _, _, 0, _ => .nil
  | _, _, n + 1, .nil => .nil
  | _, _, n + 1, .cons h t => .cons h (DTs.take n t)
theorem DTs.drop : ∀ {vs : List V} {ds : List PyData} (n : Nat), DTs K H vs ds → DTs K H (vs.drop n) (ds.drop n)
  | _, _, 0, r => r
  | _, _, n + 1, .nil => .nil
  | _, _, n + 1, .cons _ t => DTs.drop n t
theorem DTs.one (h : DT K H v d) : DTs K H [v] [d] := .cons h .nil
theorem DTs.ints : ∀ (ns : List Int), DTs K H (ns.map V.int) (ns.map PyData.int)
  | [] => .nil
  | n :: ns => .cons (.int n) (DTs.ints ns)
theorem DTs.ints_inv : ∀ {ns : List Int} {vs : List V}, DTs K H vs (ns.map PyData.int) → vs = ns.map V.int
  | [], _, h => by
    have h' : DTs K H _ [] := h
    cases h'; rfl
  | n :: ns, _, h => by
    have h' : DTs K H _ (PyData.int n :: ns.map PyData.int) := h
    cases h' with
    | cons a r => rw [a.int_inv, DTs.ints_inv r]; rfl
theorem DTs.mem {vs : List V} {ds : List PyData} (h : DTs K H vs ds) {v : V} (hv : v ∈ vs) : ∃ d ∈ ds, DT K H v d := by
  obtain ⟨i, hi⟩ := List.getElem?_of_mem hv
  obtain ⟨d, h1, h2⟩ := h.at hi
  exact ⟨d, List.mem_of_getElem? h1, h2⟩
end
/-! ### calls in short -/
/-- a def that stands at a global name and keeps its promise -/
def Cl (P : Program) (w : World) (K : PySem.W.Frag) (mg : Str → Option Value) (base : Heap) (x : Str) (ps : List Str) (k : Nat) (sp : Sp) : Prop :=
  ∃ f fd, mg x = some (.ref f) ∧ PySem.W.keepIn K (.ref f) = true ∧ Binds K fd ps [] ∧ FnOk P w K mg base CX0 k f fd ps sp
/-- a method of a class -/
def Mt (P : Program) (w : World) (K : PySem.W.Frag) (mg : Str → Option Value) (base : Heap) (C : Addr) (m : Str) (ps : List Str) (k : Nat) (sp : Sp) : Prop :=
  ∃ f fd, Meth K C m f ∧ Binds K fd ps [] ∧ FnOk P w K mg base CX0 k f fd ps sp
/-- where a def of the text stands -/
structure Df (K : PySem.W.Frag) (mg : Str → Option Value) (x : Str) (st : Stmt) (ps : List Str) : Prop where
  ex : ∃ f fd, Fun K x x st f fd ∧ mg x = some (.ref f) ∧ Binds K fd ps []
structure Dm (K : PySem.W.Frag) (C : Addr) (x qual : Str) (st : Stmt) (ps : List Str) : Prop where
  ex : ∃ f fd, Fun K x qual st f fd ∧ Meth K C x f ∧ Binds K fd ps []
section
variable {P : Program} {w : World} {K : PySem.W.Frag} {mg : Str → Option Value} {base : Heap}
theorem Df.ok {x : Str} {st : Stmt} {ps N : List Str} {k : Nat} {sp : Sp} (D : Df K mg x st ps) (S : FnScope N ps (defScope st)) (len : ∀ vs H Q E, sp vs H Q E → vs.length = ps.length)
    (hbody : ∀ (f : Addr) (cdv : Value) (A : Around) (outer : List Env) (s : Shared) (H : Hp) (vs : List V) (Q : VK) (E : XK), Room k (A.deeper (envOfC x (defScope st) s.heap.objs.size f cdv)) → sp vs H Q E →
      ∃ t, PSs (cxOf CX0 P w K mg base N x (defScope st) f cdv A outer s H E).nox (defBody st) t ∧ t { nx := fun _ H' => Q .non H', rt := Q } (start N vs) H) : Cl P w K mg base x ps (k + 1) sp := by
  obtain ⟨f, fd, F, m, b⟩ := D.ex
  exact ⟨f, fd, m, F.kp, b, F.ok S len (hbody f)⟩
theorem Dm.ok {C : Addr} {x qual : Str} {st : Stmt} {ps N : List Str} {k : Nat} {sp : Sp} (D : Dm K C x qual st ps) (S : FnScope N ps (defScope st)) (len : ∀ vs H Q E, sp vs H Q E → vs.length = ps.length)
    (hbody : ∀ (f : Addr) (cdv : Value) (A : Around) (outer : List Env) (s : Shared) (H : Hp) (vs : List V) (Q : VK) (E : XK), Room k (A.deeper (envOfC qual (defScope st) s.heap.objs.size f cdv)) → sp vs H Q E →
      ∃ t, PSs (cxOf CX0 P w K mg base N qual (defScope st) f cdv A outer s H E).nox (defBody st) t ∧ t { nx := fun _ H' => Q .non H', rt := Q } (start N vs) H) : Mt P w K mg base C x ps (k + 1) sp := by
  obtain ⟨f, fd, F, m, b⟩ := D.ex
  exact ⟨f, fd, m, b, F.ok S len (hbody f)⟩
theorem Cl.mono {x : Str} {ps : List Str} {j k : Nat} {sp : Sp} (c : Cl P w K mg base x ps j sp) (h : j ≤ k) : Cl P w K mg base x ps k sp := by
  obtain ⟨f, fd, m, kp, b, F⟩ := c
  exact ⟨f, fd, m, kp, b, F.mono h⟩
theorem Cl.imp {x : Str} {ps : List Str} {k : Nat} {sp sp' : Sp} (c : Cl P w K mg base x ps k sp) (h : ∀ vs H Q E, sp' vs H Q E → sp vs H Q E) : Cl P w K mg base x ps k sp' := by
  obtain ⟨f, fd, m, kp, b, F⟩ := c
  exact ⟨f, fd, m, kp, b, F.imp h⟩
end
section
variable {X : Cx}
theorem pe_cl {x : Str} {ps : List Str} {k : Nat} {sp : Sp} {e : Expr} {es : List Expr} {p pos : Pos} {t : TA} (c : Cl X.prog X.w X.K X.mg X.base x ps k sp) (hr : Room k X.A) (ha : PA X (e :: es) t)
    (hg : Gl X x := by rfl) (hdb : (x == ("__debug__" : Str)) = false := by decide) (he : starEach (e :: es) X.env = (false, eval e X.env) :: starEach es X.env := by rfl) (hpl : (backTo pos (starEach es X.env)).any (·.1) = false := by rfl) :
    PE X (.Call (.Name x p) (e :: es) [] pos) (tCall sp [] E0 t) := by
  obtain ⟨f, fd, m, kp, b, F⟩ := c
  exact pe_call F hr hg m kp b .nil pass0 ha hdb he hpl
theorem pe_cl0 {x : Str} {ps : List Str} {k : Nat} {sp : Sp} {p pos : Pos} (c : Cl X.prog X.w X.K X.mg X.base x ps k sp) (hr : Room k X.A) (hg : Gl X x := by rfl) (hdb : (x == ("__debug__" : Str)) = false := by decide) :
    PE X (.Call (.Name x p) [] [] pos) (tCall sp [] E0 tNil) := by
  obtain ⟨f, fd, m, kp, b, F⟩ := c
  exact pe_call0 F hr hg m kp b .nil pass0 hdb
theorem pe_mt {C : Addr} {m : Str} {ps : List Str} {k : Nat} {sp : Sp} {o e : Expr} {es : List Expr} {apos pos : Pos} {ta : TE} {t : TA} {pl : Sem Bool} (c : Mt X.prog X.w X.K X.mg X.base C m ps k sp) (T : Cls X.K C) (hr : Room k X.A) (he : PE X o ta) (ha : PA X (e :: es) t)
    (hst : starEach (e :: es) X.env = (false, eval e X.env) :: starEach es X.env := by rfl) (hpl : (backTo pos (starEach es X.env)).any (·.1) = false := by rfl)
    (ht : eval (.Call (.Attribute o m apos) (e :: es) [] pos) X.env = (do
      let ov ← eval o X.env
      standAt apos.atName
      let (f, first) ← holding [ov] (getMethod ov m pl)
      callWith pos f first (backTo pos (starEach (e :: es) X.env)) (backToKw pos (keywordEach [] X.env))) := by rfl) :
    PE X (.Call (.Attribute o m apos) (e :: es) [] pos) (tMeth C m sp [] E0 ta t) := by
  obtain ⟨f, fd, m, b, F⟩ := c
  exact pe_meth he T m F hr b .nil pass0 ha hst hpl ht
end
/-! ### rules that name K (for what stands within a comprehension) -/
section
variable {X : Cx} (K : PySem.W.Frag)
theorem ix_listk (h : X.K = K := by rfl) : IxR X (rIxL K) := h ▸ ix_list
theorem ix_tupk (h : X.K = K := by rfl) : IxR X (rIxT K) := h ▸ ix_tup
theorem sl_listk (h : X.K = K := by rfl) : SlR X (rSlL K) := h ▸ sl_list
theorem call_len_seqk (h : X.K = K := by rfl) : CallR X (.builtin "len") (fun xs H Q => ∃ p ys, xs = [.ref p] ∧ (SqL K H p ys ∨ SqT K H p ys) ∧ Q (.int ys.length) H) := h ▸ call_len_seq
theorem call_isik (h : X.K = K := by rfl) : CallR X (.builtin "isinstance") (rIsi K) := h ▸ call_isi
theorem call_tuple_ofk (h : X.K = K := by rfl) : CallR X (.type "tuple") (fun xs H Q => ∃ p ys, xs = [.ref p] ∧ ((SqL K H p ys ∧ ∀ l, H l = none → Q (.ref l) (upd H l (.tup ys))) ∨ (SqT K H p ys ∧ Q (.ref p) H))) := h ▸ call_tuple_of
theorem pg_tupk {es : List Expr} {k : Nat} {t : TGs} {n : Nat} {pos : Pos} (hc : X.calm = true) (hp : PGs X es t) (hn : (assignEach es X.env).length = n := by rfl) (hst : (assignEach es X.env).findIdx? (·.1) = none := by rfl) (h : X.K = K := by rfl) : PG X (.Tuple es k pos) (gTup K n t) := h ▸ pg_tup hc hp hn hst
theorem pi_listk {tg l : Expr} {tl : TE} (hl : PE X l tl) (h : X.K = K := by rfl) : PI X tg l (iList K tl) := h ▸ pi_list hl
theorem pi_tupk {tg l : Expr} {tl : TE} (hl : PE X l tl) (h : X.K = K := by rfl) : PI X tg l (iTup K tl) := h ▸ pi_tup hl
theorem pe_fldk {e : Expr} {f : Str} {pos : Pos} {ta : TE} (ha : PE X e ta) (hb : attributeBase e f X.env (eval e X.env) = eval e X.env) (h : X.K = K := by rfl) : PE X (.Attribute e f pos) (tFld K ta f) := h ▸ pe_fld ha hb
end
/-- the built-ins are not shadowed -/
structure Bi (mg : Str → Option Value) : Prop where
  len : mg "len" = none
  range : mg "range" = none
  list : mg "list" = none
  tuple : mg "tuple" = none
  set : mg "set" = none
  sorted : mg "sorted" = none
  any : mg "any" = none
  all : mg "all" = none
  zip : mg "zip" = none
  enumerate : mg "enumerate" = none
  isinstance : mg "isinstance" = none
  int : mg "int" = none
  bool : mg "bool" = none
  abs : mg "abs" = none
  max : mg "max" = none
  min : mg "min" = none
  repr : mg "repr" = none
  mt : ∃ t, mg "MAX_TABLE" = some (.int 60 t)
end K12
set_option linter.all false
set_option maxRecDepth 100000
set_option maxHeartbeats 4000000
/-! K12w1: the law's draws. -/
namespace K12
open PySem PySem.Spec PyProof.Rows L2
/-- the bag: three numbers -/
def Bag (H : Hp) (b : Addr) : Prop := ∃ g s c : Int, H b = some (.lst [.int g, .int s, .int c]) ∧ 0 ≤ s ∧ s < 2305843009213693951
theorem Bag.some {H : Hp} {b : Addr} (h : Bag H b) : ∃ o, H b = some o := by obtain ⟨_, _, _, e, _⟩ := h; exact ⟨_, e⟩
theorem Bag.ne {H : Hp} {b p : Addr} (h : Bag H b) (hp : H p = none) : p ≠ b := by
  obtain ⟨_, _, _, e, _⟩ := h; exact (ne_of_none e hp).symm
theorem Bag.fr {S : Addr → Prop} {H H' : Hp} {b : Addr} (h : Bag H b) (f : Fr S H H') (n : ¬ S b) : Bag H' b := by
  obtain ⟨g, s, c, e, h1⟩ := h; exact ⟨g, s, c, f.keep _ _ e n, h1⟩
theorem Bag.freeB {H H' : Hp} {b p : Addr} (h : Bag H' b) (f : Fr (S1 b) H H') (hp : H' p = none) : H p = none :=
  f.freeT (fun a e => by rw [e]; exact h.some) hp
abbrev iv (n : Nat) : V := .int (n : Int)
abbrev ivs (ns : List Nat) : List V := ns.map iv
def spDraw : Sp := fun vs H Q _ => ∃ (b : Addr) (n : Nat), vs = [.ref b, iv n] ∧ Bag H b ∧ 0 < n ∧ n < 1073741824 ∧ ∀ (d : Nat) H', d < n → Fr (S1 b) H H' → Bag H' b → Q (iv d) H'
section
variable {P : Program} {w : World} {K : PySem.W.Frag} {mg : Str → Option Value} {base : Heap}
abbrev sDraw : Stmt := top 50
theorem scDraw : FnScope ["_law_bag_here", "_law_limit", "_law_digit", "_law_mixed"] ["_law_bag_here", "_law_limit"] (defScope sDraw) := ⟨rfl, rfl, rfl, by decide +kernel, rfl, by decide +kernel, by decide +kernel⟩
theorem ok_draw (D : Df K mg "_law_draw" sDraw ["_law_bag_here", "_law_limit"]) (T : Bi mg) : Cl P w K mg base "_law_draw" ["_law_bag_here", "_law_limit"] 1 spDraw := by
  refine D.ok scDraw (fun vs H Q E h => ?_) (fun f cdv A outer s H vs Q E hr h => ?_)
  · obtain ⟨b, n, rfl, _⟩ := h
    rfl
  · obtain ⟨b, n', rfl, ⟨g, sm, c, hb, hs0, hs1⟩, hn', hn2', k'⟩ := h
    have k : ∀ (d : Int) H', 0 ≤ d → d < (n' : Int) → Fr (S1 b) H H' → Bag H' b → Q (.int d) H' := fun d H' h0 h1 => by
      obtain ⟨m, rfl⟩ := Int.eq_ofNat_of_zero_le h0
      exact k' m H' (by omega)
    have hn : (0 : Int) < (n' : Int) := by omega
    have hn2 : (n' : Int) < 1073741824 := by omega
    refine ⟨_, pss_cons (ps_if (pt_cmpR op_gt (pe_ix ix_list (pv 0) pe_int (fun _ _ => rfl)) pe_int (nomark _))
        (pss_cons (ps_set (i := 2) scDraw.nd rfl (.inl rfl) (pe_op op_mod (pe_callTy call_int1 (by rfl) T.int (by decide +kernel) (pa_cons (pe_ix ix_list (pv 0) pe_int (fun _ _ => rfl)) pa_nil)) (pv 1)))
        (pss_cons (ps_asg (pe_op op_fdiv (pe_ix ix_list (pv 0) pe_int (fun _ _ => rfl)) (pv 1)) (pg_sub (pv 0) pe_int set_list))
        (pss_one (ps_ret (pv 2))))) pss_nil)
      (pss_cons (ps_asg (pe_op op_add (pe_ix ix_list (pv 0) pe_int (fun _ _ => rfl)) pe_int) (pg_sub (pv 0) pe_int set_list))
      (pss_cons (ps_set (i := 3) scDraw.nd rfl (.inl rfl) (pe_op op_add (pe_op op_mul (pe_ix ix_list (pv 0) pe_int (fun _ _ => rfl)) pe_int) (pe_op op_mul pe_int (pe_ix ix_list (pv 0) pe_int (fun _ _ => rfl)))))
      (pss_cons (ps_asg (pe_op op_mod (pe_callTy call_int1 (by rfl) T.int (by decide +kernel) (pa_cons (pv 3) pa_nil)) pe_int) (pg_sub (pv 0) pe_int set_list))
      (pss_one (ps_ret (pe_op op_mod (pe_op op_fdiv (pe_op op_mod (pe_callTy call_int1 (by rfl) T.int (by decide +kernel) (pa_cons (pe_op op_mul (pe_ix ix_list (pv 0) pe_int (fun _ _ => rfl)) (pe_ix ix_list (pv 0) pe_int (fun _ _ => rfl))) pa_nil)) pe_int) pe_int) (pv 1))))))), ?_⟩
    refine ⟨_, rfl, b, _, 0, _, rfl, rfl, SqL.of hb, rfl, _, _, rfl, rfl, _, rfl, ?_⟩
    refine ite2 (fun hg => ?_) (fun hg => ?_)
    · refine ⟨_, rfl, b, _, 0, _, rfl, rfl, SqL.of hb, rfl, .inl ⟨_, rfl, _, rfl, _, _, rfl, rfl, hn, ?_⟩⟩
      refine ⟨_, rfl, b, _, 0, _, rfl, rfl, SqL.of hb, rfl, _, rfl, _, _, rfl, rfl, ⟨hn, hn2⟩, _, rfl, b, _, 0, 0, rfl, rfl, hb, rfl, ?_⟩
      refine ⟨_, rfl, k _ _ (Int.emod_nonneg _ (by omega)) (Int.emod_lt_of_pos _ hn) ((Fr.refl _ _).set rfl (by rw [hb]; intro xs q; cases q)) ⟨_, _, _, upd_same, hs0, hs1⟩⟩
    · refine ⟨_, rfl, b, _, 2, _, rfl, rfl, SqL.of hb, rfl, _, _, rfl, rfl, _, rfl, b, _, 2, 2, rfl, rfl, hb, rfl, ?_⟩
      refine ⟨_, rfl, b, _, 1, _, rfl, rfl, SqL.of upd_same, rfl, _, _, rfl, rfl, .inl ⟨by omega, by omega⟩, _, rfl, b, _, 2, _, rfl, rfl, SqL.of upd_same, rfl, _, _, rfl, rfl, .inl ⟨by decide, by decide⟩, _, _, rfl, rfl, ?_⟩
      refine ⟨_, rfl, .inl ⟨_, rfl, _, _, rfl, rfl, (by show (0 : Int) < 2305843009213693951; decide), _, rfl, b, _, 1, 1, rfl, rfl, upd_same, rfl, ?_⟩⟩
      rw [upd_upd]
      have z0 : 0 ≤ (sm * 2862933555777941757 + 3037000493 * (c + 1)) % 2305843009213693951 := Int.emod_nonneg _ (by decide)
      have z1 : (sm * 2862933555777941757 + 3037000493 * (c + 1)) % 2305843009213693951 < 2305843009213693951 := Int.emod_lt_of_pos _ (by decide)
      refine ⟨_, rfl, b, _, 1, _, rfl, rfl, SqL.of upd_same, rfl, _, rfl, b, _, 1, _, rfl, rfl, SqL.of upd_same, rfl, _, _, rfl, rfl, .inl ⟨by omega, by omega⟩, .inl ⟨_, rfl, _, _, rfl, rfl, (by show (0 : Int) < 2305843009213693921; decide), _, _, rfl, rfl, ⟨by decide, by decide⟩, _, rfl, _, _, rfl, rfl, hn, ?_⟩⟩
      exact k _ _ (Int.emod_nonneg _ (by omega)) (Int.emod_lt_of_pos _ hn) ((Fr.refl _ _).set rfl (by rw [hb]; intro xs q; cases q)) ⟨_, _, _, upd_same, z0, z1⟩
/-! ### one of a row -/
def spPick (K : PySem.W.Frag) : Sp := fun vs H Q _ => ∃ (b l : Addr) (xs : List V), vs = [.ref b, .ref l] ∧ Bag H b ∧ l ≠ b ∧ H l = some (.lst xs) ∧ 0 < xs.length ∧ xs.length < 1073741824 ∧ ∀ (i : Nat) v H', xs[i]? = some v → Fr (S1 b) H H' → Bag H' b → Q v H'
abbrev sPick : Stmt := top 51
theorem scPick : FnScope ["_law_bag_here", "_law_items"] ["_law_bag_here", "_law_items"] (defScope sPick) := ⟨rfl, rfl, rfl, by decide +kernel, rfl, by decide +kernel, by decide +kernel⟩
theorem ok_pick (D : Df K mg "_law_pick" sPick ["_law_bag_here", "_law_items"]) (T : Bi mg) (cD : Cl P w K mg base "_law_draw" ["_law_bag_here", "_law_limit"] 1 spDraw) : Cl P w K mg base "_law_pick" ["_law_bag_here", "_law_items"] 2 (spPick K) := by
  refine D.ok scPick (fun vs H Q E h => ?_) (fun f cdv A outer s H vs Q E hr h => ?_)
  · obtain ⟨b, n, xs, rfl, _⟩ := h
    rfl
  · obtain ⟨b, l, xs, rfl, hb, hlb, hl, h0, h1, k⟩ := h
    refine ⟨_, pss_one (ps_ret (pe_ix ix_list (pv 1) (pe_cl cD hr (pa_cons (pv 0) (pa_cons (pe_callB call_len_seq (by rfl) T.len PySem.boot_len (pa_cons (pv 1) pa_nil)) pa_nil))) (fun _ _ => rfl))), ?_⟩
    refine ⟨_, rfl, _, rfl, _, rfl, l, _, rfl, .inl (SqL.of hl), b, xs.length, rfl, hb, h0, h1, fun d H' hd f hb' => ?_⟩
    have hl' : H' l = some (.lst xs) := f.keep _ _ hl hlb
    exact ⟨l, xs, _, _, rfl, rfl, SqL.of hl', atI_nat (List.getElem?_eq_getElem hd), k d _ H' (List.getElem?_eq_getElem hd) f hb'⟩
/-! ### drawn things -/
def spThings : Sp := fun vs H Q _ => ∃ (b : Addr) (m n : Nat), vs = [.ref b, iv m, iv n] ∧ Bag H b ∧ m ≤ 1000 ∧ 0 < n ∧ n < 1073741824 ∧
  ∀ (ns : List Nat) (p : Addr) H', ns.length = m → (∀ x ∈ ns, x < n) → H p = none → H' p = some (.tup (ivs ns)) → Fr (S1 b) H H' → Bag H' b → Q (.ref p) H'
abbrev sThings : Stmt := top 56
theorem scThings : FnScope ["_law_bag_here", "_law_many", "_law_size", "_law_k"] ["_law_bag_here", "_law_many", "_law_size"] (defScope sThings) := ⟨rfl, rfl, rfl, by decide +kernel, rfl, by decide +kernel, by decide +kernel⟩
theorem ok_things (D : Df K mg "_law_things" sThings ["_law_bag_here", "_law_many", "_law_size"]) (T : Bi mg) (cD : Cl P w K mg base "_law_draw" ["_law_bag_here", "_law_limit"] 1 spDraw) : Cl P w K mg base "_law_things" ["_law_bag_here", "_law_many", "_law_size"] 2 spThings := by
  refine D.ok scThings (fun vs H Q E h => ?_) (fun f cdv A outer s H vs Q E hr h => ?_)
  · obtain ⟨b, m, n, rfl, _⟩ := h
    rfl
  · obtain ⟨b, m, n, rfl, hb, hm, h0, h1, k⟩ := h
    refine ⟨_, pss_one (ps_ret (pe_callTy call_tuple_of (by rfl) T.tuple (by decide +kernel) (pa_cons (pe_lc (own := [("_law_k", 3)]) (g := gName 3) (tt := tYes) rfl scThings.nd (pi_range1 rfl T.range (pa_cons (pv 1) pa_nil)) (blkOk_by (N := ["_law_bag_here", "_law_many", "_law_size", "_law_k"]) (sc := defScope sThings) (by decide +kernel))
        (fun _ _ _ _ _ => pg_name (i := 3) scThings.nd rfl (Or.inl rfl)) (fun _ _ _ _ _ => pts_nil) (fun _ _ _ _ _ => pe_cl cD hr (pa_cons (pv 0) (pa_cons (pv 2) pa_nil)))) pa_nil))), ?_⟩
    refine ⟨_, rfl, _, rfl, by omega, by omega, fun l hl => lc_range (lo := 0) (n := m) (fun i H' => Fr (S1 b) H H' ∧ Bag H' b ∧ ∃ ns : List Nat, ns.length = i ∧ (∀ x ∈ ns, x < n) ∧ H' l = some (.lst (ivs ns))) ?_ ?_ ?_⟩
    · exact ⟨(Fr.refl _ _).new hl, hb.fr ((Fr.refl S0 _).new hl) (fun z => z), [], rfl, by simp, upd_same⟩
    · rintro i H' hi ⟨f1, hb1, ns, e1, e2, e3⟩
      refine ⟨rfl, _, rfl, _, rfl, b, n, rfl, hb1, h0, h1, fun d H2 hd f2 hb2 => ?_⟩
      have nlb : l ≠ b := hb.ne hl
      have hl2 : H2 l = some (.lst (ivs ns)) := f2.keep _ _ e3 nlb
      refine ⟨_, hl2, by simp [ivs]; exact small1000 (by omega), (f1.trans f2).mut hl, hb2.fr ((Fr.refl (S1 l) _).set rfl (by rw [hl2]; intro xs q; cases q)) (fun q => nlb q.symm), ns ++ [d], by simp [e1], ?_, by rw [upd_same]; simp [ivs]⟩
      intro x hx
      rcases List.mem_append.mp hx with hx | hx
      · exact e2 x hx
      · simp at hx; omega
    · rintro H' ⟨f1, hb1, ns, e1, e2, e3⟩
      refine ⟨l, _, rfl, .inl ⟨SqL.of e3, fun p hp => ?_⟩⟩
      exact k ns p _ e1 e2 (hb1.freeB f1 hp) upd_same (f1.new hp) (hb1.fr ((Fr.refl S0 _).new hp) (fun z => z))
end
end K12
set_option linter.all false
set_option maxRecDepth 100000
set_option maxHeartbeats 4000000
/-! K12w2: the bag, turned orders, the divisor. -/
namespace K12
open PySem PySem.Spec PyProof.Rows L2
theorem ivs_get {ns : List Nat} {i : Nat} (h : i < ns.length) : (ivs ns)[i]? = some (iv ns[i]) := by simp [ivs, h]
theorem ivs_len (ns : List Nat) : (ivs ns).length = ns.length := by simp [ivs]
theorem sz {n : Nat} (h : n ≤ 100000) : n < sizeLine := Nat.lt_of_le_of_lt h (by decide)
theorem szl {n : Nat} (h : n ≤ 100000) : n ≤ sizeLine := Nat.le_trans h (by decide)
theorem rgV_ivs (n : Nat) : rgV 0 (n : Int) = ivs (List.range n) := by
  unfold rgV ivs
  simp [Function.comp_def]
theorem map_eraseIdx {α β : Type} (g : α → β) : ∀ (l : List α) (i : Nat), (l.map g).eraseIdx i = (l.eraseIdx i).map g
  | [], _ => rfl
  | _ :: _, 0 => rfl
  | a :: l, i + 1 => congrArg (g a :: ·) (map_eraseIdx g l i)
theorem perm_eraseIdx {α : Type} : ∀ {l : List α} {i : Nat} (h : i < l.length), (l[i] :: l.eraseIdx i).Perm l
  | a :: l, 0, _ => List.Perm.refl _
  | a :: l, i + 1, h => (List.Perm.swap _ _ _).trans (List.Perm.cons a (perm_eraseIdx (l := l) (i := i) (by simpa using h)))
theorem lst_ne_tup {H : Hp} {a : Addr} {xs : List V} (h : H a = some (.lst xs)) : ∀ ys, H a ≠ some (.tup ys) := by
  intro ys q; rw [h] at q; cases q
section
variable {P : Program} {w : World} {K : PySem.W.Frag} {mg : Str → Option Value} {base : Heap}
/-! ### turned -/
def spTurned : Sp := fun vs H Q _ => ∃ (b : Addr) (n : Nat), vs = [.ref b, iv n] ∧ Bag H b ∧ n ≤ 1000 ∧
  ∀ (ns : List Nat) (p : Addr) H', ns.length = n → ns.Nodup → (∀ x ∈ ns, x < n) → H p = none → H' p = some (.tup (ivs ns)) → Fr (S1 b) H H' → Bag H' b → Q (.ref p) H'
abbrev sTurned : Stmt := top 53
abbrev nTurned : List Str := ["_law_bag_here", "_law_many", "_law_rest", "_law_found", "_law_turn"]
theorem scTurned : FnScope nTurned ["_law_bag_here", "_law_many"] (defScope sTurned) := ⟨rfl, rfl, rfl, by decide +kernel, rfl, by decide +kernel, by decide +kernel⟩
theorem ok_turned (D : Df K mg "_law_turned" sTurned ["_law_bag_here", "_law_many"]) (T : Bi mg) (cD : Cl P w K mg base "_law_draw" ["_law_bag_here", "_law_limit"] 1 spDraw) : Cl P w K mg base "_law_turned" ["_law_bag_here", "_law_many"] 2 spTurned := by
  refine D.ok scTurned (fun vs H Q E h => ?_) (fun f cdv A outer s H vs Q E hr h => ?_)
  · obtain ⟨b, n, rfl, _⟩ := h
    rfl
  · obtain ⟨b, n, rfl, hb, hn, k⟩ := h
    refine ⟨_, pss_cons (ps_par (by rfl) scTurned.nd (i := 2) (j := 3) rfl rfl (by decide) rfl rfl (pa_cons (pe_listRg (by rfl) (by rfl) T.list (prg_1 (by rfl) T.range (pv 1))) (pa_cons (pe_lst pa_nil) pa_nil)) (by rfl))
      (pss_cons (ps_for PassesOwn.never rfl (pi_range1 rfl T.range (pa_cons (pv 1) pa_nil)) (pg_name (i := 4) scTurned.nd rfl (Or.inl rfl))
        (pss_one (ps_expr (pe_bm PySem.F.plainAttrs_list PySem.F.slot_list_append PySem.F.type_list_append mt_append (pv 3)
          (pa_cons (pe_bm PySem.F.plainAttrs_list PySem.F.slot_list_pop PySem.F.type_list_pop mt_popAt (pv 2) (pa_cons (pe_cl cD hr (pa_cons (pv 0) (pa_cons (pe_callB call_len_seq (by rfl) T.len PySem.boot_len (pa_cons (pv 2) pa_nil)) pa_nil))) pa_nil)) pa_nil)))))
      (pss_one (ps_ret (pe_callTy call_tuple_of (by rfl) T.tuple (by decide +kernel) (pa_cons (pv 3) pa_nil))))), ?_⟩
    refine ⟨_, rfl, _, rfl, RgOk.of_le (by omega) (by omega) (by omega) (by omega), fun r hr0 => ⟨Nat.zero_le _, fun l hl => ⟨_, _, rfl, ?_⟩⟩⟩
    have nlr : l ≠ r := fun q => by rw [q, upd_same] at hl; cases hl
    have hl0 : H l = none := by rw [upd_ne nlr] at hl; exact hl
    have nrb : r ≠ b := hb.ne hr0
    have nlb : l ≠ b := hb.ne hl0
    refine ⟨_, rfl, _, rfl, by omega, by omega, for_range (lo := 0) (n := n) (fun i σ H' => ∃ (rs fs : List Nat) (v : Option V), σ = [some (.ref b), some (iv n), some (.ref r), some (.ref l), v] ∧ Fr (S1 b) H H' ∧ Bag H' b ∧ H' r = some (.lst (ivs rs)) ∧ H' l = some (.lst (ivs fs)) ∧
      rs.length + i = n ∧ fs.length = i ∧ (rs ++ fs).Nodup ∧ ∀ x ∈ rs ++ fs, x < n) ?_ ?_ ?_⟩
    · refine ⟨List.range n, [], none, rfl, ((Fr.refl _ _).new hr0).new hl, hb.fr (((Fr.refl S0 _).new hr0).new hl) (fun z => z), ?_, upd_same, by simp, rfl, by simpa using List.nodup_range, by simp⟩
      rw [upd_ne nlr.symm, upd_same, rgV_ivs]
    · rintro i σ H' hi ⟨rs, fs, v, rfl, f1, hb1, hr1, hl1, e1, e2, nd, hx⟩
      have hrl : 0 < rs.length := by omega
      refine ⟨_, rfl, .inl ⟨rfl, _, SqL.of hl1⟩, _, rfl, .inl ⟨rfl, _, SqL.of hr1⟩, _, rfl, _, rfl, r, _, rfl, .inl (SqL.of hr1), b, rs.length, by simp [ivs], hb1, hrl, by omega, fun d H2 hd f2 hb2 => ?_⟩
      have hr2 := f2.keep _ _ hr1 nrb
      have hl2 := f2.keep _ _ hl1 nlb
      refine ⟨r, _, _, d, _, rfl, rfl, hr2, by omega, by omega, (L2.ixN_seq (Evl.ixN_nat (by rw [ivs_len]; exact hd))).1, ivs_get hd, ?_⟩
      refine ⟨l, _, _, rfl, rfl, by rw [upd_ne nlr]; exact hl2, by rw [ivs_len]; exact sz (by omega), ?_⟩
      have f3 : Fr (S1 b) H (upd (upd H2 r (.lst ((ivs rs).eraseIdx d))) l (.lst (ivs fs ++ [iv rs[d]]))) := ((f1.trans f2).mut hr0).mut hl0
      have hb3 : Bag (upd (upd H2 r (.lst ((ivs rs).eraseIdx d))) l (.lst (ivs fs ++ [iv rs[d]]))) b := by
        obtain ⟨g, sm, c, e, hh⟩ := hb2
        exact ⟨g, sm, c, by rw [upd_ne nlb.symm, upd_ne nrb.symm]; exact e, hh⟩
      have pm : (rs.eraseIdx d ++ (fs ++ [rs[d]])).Perm (rs ++ fs) := by
        have p1 : (rs[d] :: rs.eraseIdx d).Perm rs := perm_eraseIdx hd
        have p2 : (rs.eraseIdx d ++ (fs ++ [rs[d]])).Perm (rs[d] :: (rs.eraseIdx d ++ fs)) := by
          rw [← List.append_assoc]; exact List.perm_append_singleton _ _
        exact p2.trans ((List.Perm.append_right fs p1) : (rs[d] :: rs.eraseIdx d ++ fs).Perm (rs ++ fs))
      refine ⟨rs.eraseIdx d, fs ++ [rs[d]], _, rfl, f3, hb3, ?_, ?_, ?_, ?_, pm.nodup_iff.mpr nd, fun x h => hx x (pm.mem_iff.mp h)⟩
      · rw [upd_ne nlr.symm, upd_same]; simp only [ivs]; rw [map_eraseIdx]
      · rw [upd_same]; simp [ivs]
      · rw [List.length_eraseIdx_of_lt hd]; omega
      · simp [e2]
    · rintro σ H' ⟨rs, fs, v, rfl, f1, hb1, hr1, hl1, e1, e2, nd, hx⟩
      refine ⟨_, rfl, l, _, rfl, .inl ⟨SqL.of hl1, fun p hp => ?_⟩⟩
      have nd' := (List.nodup_append.mp nd).2.1
      exact k fs p _ e2 nd' (fun x h => hx x (List.mem_append_right _ h)) (hb1.freeB f1 hp) upd_same (f1.new hp) (hb1.fr ((Fr.refl S0 _).new hp) (fun z => z))
/-! ### the divisor -/
def divM : Nat → Nat → Nat → Nat
  | 0, a, _ => a
  | k + 1, a, b => if b = 0 then a else divM k b (a % b)
def spDivisor : Sp := fun vs H Q _ => ∃ (a b : Nat), vs = [iv a, iv b] ∧ Q (iv (divM 200 a b)) H
abbrev sDivisor : Stmt := top 52
abbrev nDivisor : List Str := ["_law_one", "_law_other", "_law_turn"]
theorem scDivisor : FnScope nDivisor ["_law_one", "_law_other"] (defScope sDivisor) := ⟨rfl, rfl, rfl, by decide +kernel, rfl, by decide +kernel, by decide +kernel⟩
theorem ok_divisor (D : Df K mg "_law_divisor" sDivisor ["_law_one", "_law_other"]) (T : Bi mg) : Cl P w K mg base "_law_divisor" ["_law_one", "_law_other"] 1 spDivisor := by
  refine D.ok scDivisor (fun vs H Q E h => ?_) (fun f cdv A outer s H vs Q E hr h => ?_)
  · obtain ⟨a, b, rfl, _⟩ := h
    rfl
  · obtain ⟨a, b, rfl, k⟩ := h
    refine ⟨_, pss_cons (ps_for PassesOwn.never rfl (pi_range1 rfl T.range (pa_cons pe_int pa_nil)) (pg_name (i := 2) scDivisor.nd rfl (Or.inl rfl))
        (pss_cons (ps_if (pt_cmpR op_eq (pv 1) pe_int (nomark _)) (pss_one ps_break) pss_nil)
        (pss_one (ps_par (by rfl) scDivisor.nd (i := 0) (j := 1) rfl rfl (by decide) rfl rfl (pa_cons (pv 1) (pa_cons (pe_op op_mod (pe_callTy call_int1 (by rfl) T.int (by decide +kernel) (pa_cons (pv 0) pa_nil)) (pv 1)) pa_nil)) (by rfl)))))
      (pss_one (ps_ret (pv 0))), ?_⟩
    refine ⟨_, rfl, by decide, by decide, for_range (lo := 0) (n := 200) (fun i σ H' => ∃ (a' b' : Nat) (v : Option V), σ = [some (iv a'), some (iv b'), v] ∧ H' = H ∧ divM (200 - i) a' b' = divM 200 a b) ⟨a, b, none, rfl, rfl, rfl⟩ ?_ ?_⟩
    · rintro i σ H' hi ⟨a', b', v, rfl, rfl, e⟩
      obtain ⟨j, hj⟩ : ∃ j, 200 - i = j + 1 := ⟨200 - i - 1, by omega⟩
      rw [hj] at e
      refine ⟨_, rfl, rfl, _, rfl, ?_⟩
      by_cases hz : b' = 0
      · subst hz
        refine iteT ?_
        refine ⟨_, rfl, ?_⟩
        have : a' = divM 200 a b := by rw [← e]; simp [divM]
        show Q (iv a') _
        rw [this]; exact k
      · have hd : decide (iv b' = V.int 0) = false := decide_eq_false fun q => hz (by have := V.int.inj q; omega)
        rw [hd]
        refine iteF ?_
        refine ⟨_, rfl, _, rfl, .inl ⟨_, rfl, _, rfl, _, _, rfl, rfl, (by show (0 : Int) < (b' : Int); omega), _, _, rfl, ?_⟩⟩
        refine ⟨b', a' % b', _, rfl, rfl, ?_⟩
        have : 200 - (i + 1) = j := by omega
        rw [this, ← e]
        simp [divM, hz]
    · rintro σ H' ⟨a', b', v, rfl, rfl, e⟩
      refine ⟨_, rfl, ?_⟩
      have : a' = divM 200 a b := by rw [← e]; simp [divM]
      show Q (iv a') _
      rw [this]; exact k
/-! ### the bag -/
def spBag (K : PySem.W.Frag) : Sp := fun vs H Q _ => ∃ (a : Addr) (ns : List Int), vs = [.ref a] ∧ SqL K H a (ns.map V.int) ∧ ns.length ≤ 63 ∧ ∀ b H', H b = none → Fr S0 H H' → Bag H' b → Q (.ref b) H'
abbrev sBag : Stmt := top 49
abbrev nBag : List Str := ["_law_script", "_law_great", "_law_small", "_law_cell"]
theorem scBag : FnScope nBag ["_law_script"] (defScope sBag) := ⟨rfl, rfl, rfl, by decide +kernel, rfl, by decide +kernel, by decide +kernel⟩
theorem cut_mem {xs : List V} {lo hi : Option Int} {x : V} (h : x ∈ cutV xs lo hi) : x ∈ xs := List.mem_of_mem_drop (List.mem_of_mem_take h)
theorem ok_bag (D : Df K mg "_law_bag" sBag ["_law_script"]) (T : Bi mg) : Cl P w K mg base "_law_bag" ["_law_script"] 1 (spBag K) := by
  refine D.ok scBag (fun vs H Q E h => ?_) (fun f cdv A outer s H vs Q E hr h => ?_)
  · obtain ⟨a, ns, rfl, _⟩ := h
    rfl
  · obtain ⟨a, ns, rfl, ha, hlen, k⟩ := h
    refine ⟨_, pss_cons (ps_par (by rfl) scBag.nd (i := 1) (j := 2) rfl rfl (by decide) rfl rfl (pa_cons pe_int (pa_cons (pe_op op_add pe_int (pe_op op_mul pe_int (pe_callB call_len_seq (by rfl) T.len PySem.boot_len (pa_cons (pv 0) pa_nil)))) pa_nil)) (by rfl))
      (pss_cons (ps_for PassesOwn.never rfl (pi_list (pe_slice sl_list (pv 0) po_none (po_some pe_int))) (pg_name (i := 3) scBag.nd rfl (Or.inl rfl))
        (pss_one (ps_if (pt_cmpR op_ge (pv 3) (pe_op op_pow pe_int pe_int) (nomark _))
          (pss_one (ps_set (i := 1) scBag.nd rfl (.inl rfl) (pe_op op_sub (pe_op op_add (pe_op op_mul (pv 1) pe_int) (pv 3)) (pe_op op_pow pe_int pe_int))))
          (pss_cons (ps_set (i := 2) scBag.nd rfl (.inl rfl) (pe_op op_add (pe_op op_add (pe_op op_mul (pv 2) pe_int) (pe_op op_mul pe_int (pe_callB call_abs (by rfl) T.abs (by decide +kernel) (pa_cons (pv 3) pa_nil)))) (pe_callTy call_int1 (by rfl) T.int (by decide +kernel) (pa_cons (pe_cmpR op_lt (pv 3) pe_int (nomark _)) pa_nil))))
          (pss_one (ps_set (i := 2) scBag.nd rfl (.inl rfl) (pe_op op_mod (pe_callTy call_int1 (by rfl) T.int (by decide +kernel) (pa_cons (pv 2) pa_nil)) pe_int)))))))
      (pss_one (ps_ret (pe_lst (pa_cons (pv 1) (pa_cons (pv 2) (pa_cons pe_int pa_nil))))))), ?_⟩
    refine ⟨_, rfl, a, _, rfl, .inl ha, _, _, rfl, rfl, .inl ⟨by decide, by decide⟩, _, _, rfl, rfl, _, _, rfl, ?_⟩
    refine ⟨_, rfl, _, rfl, a, _, rfl, ha, fun p hp => ⟨p, rfl, ⟨_, SqL.of upd_same⟩, ?_⟩⟩
    refine for_list (K := K) (a := p) (xs := cutV (ns.map V.int) none (some 63)) (fun i σ H' => ∃ (g sm : Int) (v : Option V), σ = [some (.ref a), some (.int g), some (.int sm), v] ∧ H' = upd H p (.lst (cutV (ns.map V.int) none (some 63))) ∧ 0 ≤ sm ∧ sm < 2305843009213693951) ?_ ?_ ?_ ?_
    · exact ⟨0, _, none, rfl, rfl, by simp; omega, by simp; omega⟩
    · rintro i σ H' _ ⟨_, _, _, _, rfl, _⟩
      exact SqL.of upd_same
    · rintro i x σ H' hx ⟨g, sm, v, rfl, rfl, h0, h1⟩
      obtain ⟨z, _, rfl⟩ := List.mem_map.mp (cut_mem (List.mem_of_getElem? hx))
      refine ⟨_, rfl, _, _, rfl, rfl, ⟨by decide, by decide, by decide⟩, _, _, rfl, rfl, _, rfl, ?_⟩
      refine ite2 (fun _ => ?_) (fun _ => ?_)
      · refine ⟨_, rfl, _, _, rfl, rfl, .inr ⟨by decide, by decide⟩, _, rfl, _, _, rfl, rfl, _, _, rfl, rfl, ⟨by decide, by decide, by decide⟩, _, _, rfl, rfl, ?_⟩
        exact ⟨_, sm, _, rfl, rfl, h0, h1⟩
      · refine ⟨_, rfl, _, _, rfl, rfl, .inr ⟨by decide, by decide⟩, _, rfl, _, rfl, _, _, rfl, rfl, .inl ⟨by decide, by decide⟩, _, _, rfl, rfl, _, rfl, _, _, rfl, rfl, .inr ⟨_, rfl, _, _, rfl, rfl, ?_⟩⟩
        refine ⟨_, rfl, .inl ⟨_, rfl, _, _, rfl, rfl, (by show (0 : Int) < 2305843009213693951; decide), ?_⟩⟩
        exact ⟨g, _, _, rfl, rfl, Int.emod_nonneg _ (by decide), Int.emod_lt_of_pos _ (by decide)⟩
    · rintro σ H' ⟨g, sm, v, rfl, rfl, h0, h1⟩
      refine ⟨_, rfl, _, rfl, by show 3 ≤ sizeLine; decide, fun q hq => ?_⟩
      have f1 : Fr S0 H (upd H p (.lst (cutV (ns.map V.int) none (some 63)))) := (Fr.refl _ _).new hp
      exact k q _ (f1.free hq) (f1.new hq) ⟨g, sm, 0, upd_same, h0, h1⟩
end
end K12
set_option linter.all false
set_option maxRecDepth 100000
set_option maxHeartbeats 800000
/-! K12w3: the law's formulas. -/
namespace K12
open PySem PySem.Spec PyProof.Rows L2
def wS : W → Str | .wi => "with" | .be => "behind" | .ah => "ahead"
def fmD : Fm → PyData | .nm n => .int (n : Int) | .ap w a b => .tuple [.str (wS w), fmD a, fmD b]
theorem l1 : 1 ≤ 100000 := by decide
theorem l2 : 2 ≤ 100000 := by decide
theorem l3 : 3 ≤ 100000 := by decide
theorem l5 : 5 ≤ 100000 := by decide
theorem l6 : 6 ≤ 100000 := by decide
/-! ### what evaluates to data -/
def EvD (K : PySem.W.Frag) (te : TE) (σ : L2.St) (H : Hp) (d : PyData) : Prop := ∀ H1, Fr S0 H H1 → ∀ Q : VK, (∀ v H2, Fr S0 H1 H2 → DT K H2 v d → Q v H2) → te σ H1 Q
def EvDs (K : PySem.W.Frag) (ta : TA) (σ : L2.St) (H : Hp) (ds : List PyData) : Prop := ∀ H1, Fr S0 H H1 → ∀ Q : List V → Hp → Prop, (∀ vs H2, Fr S0 H1 H2 → DTs K H2 vs ds → Q vs H2) → ta σ H1 Q
/-- a new list of data -/
def EvDl (K : PySem.W.Frag) (te : TE) (σ : L2.St) (H : Hp) (ds : List PyData) : Prop := ∀ H1, Fr S0 H H1 → ∀ Q : VK, (∀ p xs H2, H1 p = none → Fr S0 H1 H2 → H2 p = some (.lst xs) → DTs K H2 xs ds → Q (.ref p) H2) → te σ H1 Q
section
variable {K : PySem.W.Frag} {σ : L2.St} {H : Hp} {te ta tb : TE} {d : PyData} {ds es : List PyData}
theorem evD_var {i : Nat} {v : V} (h : σ[i]? = some (some v)) (hd : DT K H v d) : EvD K (tVar i) σ H d := fun H1 f Q q => ⟨v, h, q v H1 (Fr.refl _ _) (hd.fr f)⟩
theorem evD_str {x : Str} : EvD K (tC (.str x)) σ H (.str x) := fun H1 f Q q => q _ H1 (Fr.refl _ _) (.str x)
theorem evD_int {i : Int} : EvD K (tC (.int i)) σ H (.int i) := fun H1 f Q q => q _ H1 (Fr.refl _ _) (.int i)
theorem evDs_nil : EvDs K tNil σ H [] := fun H1 f Q q => q _ H1 (Fr.refl _ _) .nil
theorem evDs_cons {tr : TA} (h : EvD K te σ H d) (hr : EvDs K tr σ H ds) : EvDs K (tCons te tr) σ H (d :: ds) := fun H1 f Q q =>
  h H1 f _ fun v H2 f2 hv => hr H2 (f.trans f2) _ fun vs H3 f3 hs => q _ H3 (f2.trans f3) (.cons (hv.fr f3) hs)
theorem evD_tup {tr : TA} (h : EvDs K tr σ H ds) (hl : ds.length ≤ 100000) : EvD K (tTup tr) σ H (.tuple ds) := fun H1 f Q q =>
  h H1 f _ fun vs H2 f2 hs => ⟨szl (by rw [hs.len]; exact hl), fun p hp => q _ _ (f2.new hp) (.tup (.of upd_same) (hs.fr ((Fr.refl S0 _).new hp)))⟩
theorem evDl_lst {tr : TA} (h : EvDs K tr σ H ds) (hl : ds.length ≤ 100000) : EvDl K (tLst tr) σ H ds := fun H1 f Q q =>
  h H1 f _ fun vs H2 f2 hs => ⟨szl (by rw [hs.len]; exact hl), fun p hp => q p vs _ (f2.free hp) (f2.new hp) upd_same (hs.fr ((Fr.refl S0 _).new hp))⟩
/-- a name's list and a new one, put together -/
theorem evDl_cat {i : Nat} {p : Addr} {xs : List V} (h : σ[i]? = some (some (.ref p))) (hp : H p = some (.lst xs)) (hx : DTs K H xs ds) (hb : EvDl K tb σ H es) (hl : ds.length + es.length ≤ 100000) : EvDl K (tOp rCat (tVar i) tb) σ H (ds ++ es) := fun H1 f Q q =>
  ⟨_, h, hb H1 f _ fun r ys H2 hr f2 e2 hy => ⟨p, r, xs, ys, rfl, rfl, f2.keep _ _ (f.keep _ _ hp (fun z => z)) (fun z => z), e2, szl (by rw [hx.len, hy.len]; exact hl), fun t ht =>
    q t _ _ (f2.free ht) (f2.new ht) upd_same ((hx.fr ((f.trans f2).new ht)).append (hy.fr ((Fr.refl S0 _).new ht)))⟩⟩
theorem q_asgD {i : Nat} {tz : TS} {D : Ends} (h : EvDl K te σ H ds) (k : ∀ p xs H1, H p = none → Fr S0 H H1 → H1 p = some (.lst xs) → DTs K H1 xs ds → tz D (σ.set i (some (.ref p))) H1) : tSeq (tAsg te (gName i)) tz D σ H := h H (Fr.refl _ _) _ fun p xs H1 hp f e t => k p xs H1 hp f e t
theorem EvDl.as (h : EvDl K te σ H ds) (e : ds = es) : EvDl K te σ H es := e ▸ h
end
/-! ### isinstance of a formula -/
def Fm.isNm : Fm → Bool | .nm _ => true | .ap _ _ _ => false
theorem tp_ty {K : PySem.W.Frag} {H : Hp} {a : Addr} {xs : List V} (h : Tp K H a xs) : TyX K H (.ref a) (.type "tuple") := by
  rcases h with h | ⟨o, its, n, h1, h2, _⟩
  · exact .base (.tup h)
  · exact .kTuple h1 h2
theorem isi_int {K : PySem.W.Frag} {H : Hp} {v : V} {f : Fm} (h : DT K H v (fmD f)) : ∃ t, TyX K H v t ∧ PySem.W.kitOne K t (.type "int") = some f.isNm := by
  cases f with
  | nm n =>
    have := h.int_inv; subst this
    exact ⟨_, .base (.int _), kit_ty (r := true) (by decide +kernel)⟩
  | ap w a b =>
    obtain ⟨p, xs, rfl, ht, _⟩ := h.tup_inv
    exact ⟨_, tp_ty ht, kit_ty (r := false) (by decide +kernel)⟩
theorem isi_tup {K : PySem.W.Frag} {H : Hp} {v : V} {f : Fm} (h : DT K H v (fmD f)) : ∃ t, TyX K H v t ∧ PySem.W.kitOne K t (.type "tuple") = some (!f.isNm) := by
  cases f with
  | nm n =>
    have := h.int_inv; subst this
    exact ⟨_, .base (.int _), kit_ty (r := false) (by decide +kernel)⟩
  | ap w a b =>
    obtain ⟨p, xs, rfl, ht, _⟩ := h.tup_inv
    exact ⟨_, tp_ty ht, kit_ty (r := true) (by decide +kernel)⟩
/-- the parts of a made formula -/
theorem fm_parts {K : PySem.W.Frag} {H : Hp} {v : V} {w : W} {a b : Fm} (h : DT K H v (fmD (.ap w a b))) : ∃ p va vb, v = .ref p ∧ Tp K H p [.str (wS w), va, vb] ∧ DT K H va (fmD a) ∧ DT K H vb (fmD b) := by
  obtain ⟨p, xs, rfl, ht, hs⟩ := h.tup_inv
  cases hs with
  | cons h1 r =>
    cases r with
    | cons h2 r =>
      cases r with
      | cons h3 r =>
        cases r
        have := h1.str_inv; subst this
        exact ⟨p, _, _, rfl, ht, h2, h3⟩
theorem size_depth : ∀ f : Fm, f.size < 2 ^ (f.depth + 1)
  | .nm _ => by simp [Fm.size, Fm.depth]
  | .ap _ a b => by
    have h1 := size_depth a
    have h2 := size_depth b
    have h3 : 2 ^ (a.depth + 1) ≤ 2 ^ (max a.depth b.depth + 1) := Nat.pow_le_pow_right (by decide) (by omega)
    have h4 : 2 ^ (b.depth + 1) ≤ 2 ^ (max a.depth b.depth + 1) := Nat.pow_le_pow_right (by decide) (by omega)
    have h5 : 2 ^ (max a.depth b.depth + 1 + 1) = 2 ^ (max a.depth b.depth + 1) + 2 ^ (max a.depth b.depth + 1) := by rw [Nat.pow_succ]; omega
    simp only [Fm.size, Fm.depth]
    omega
section
variable {P : Program} {w : World} {K : PySem.W.Frag} {mg : Str → Option Value} {base : Heap}
/-! ### a drawn formula -/
def spFormula (K : PySem.W.Frag) (d0 : Nat) : Sp := fun vs H Q _ => ∃ (b : Addr) (n d : Nat), vs = [.ref b, iv n, iv d] ∧ d < d0 ∧ Bag H b ∧ 0 < n ∧ n < 1000 ∧
  ∀ (f : Fm) v H', f.bel n → f.depth ≤ d → DT K H' v (fmD f) → Fr (S1 b) H H' → Bag H' b → Q v H'
abbrev sFormula : Stmt := top 57
abbrev psFormula : List Str := ["_law_bag_here", "_law_names", "_law_deep"]
theorem scFormula : FnScope ["_law_bag_here", "_law_names", "_law_deep", "_law_word"] psFormula (defScope sFormula) := ⟨rfl, rfl, rfl, by decide +kernel, rfl, by decide +kernel, by decide +kernel⟩
theorem ok_formula (D : Df K mg "_law_formula" sFormula psFormula) (T : Bi mg) (cD : Cl P w K mg base "_law_draw" ["_law_bag_here", "_law_limit"] 1 spDraw) (cP : Cl P w K mg base "_law_pick" ["_law_bag_here", "_law_items"] 2 (spPick K)) :
    ∀ d0, Cl P w K mg base "_law_formula" psFormula (d0 + 3) (spFormula K d0) := by
  intro d0
  induction d0 with
  | zero =>
    refine D.ok scFormula (fun vs H Q E h => ?_) (fun f cdv A outer s H vs Q E hr h => ?_)
    · obtain ⟨b, n, d, _, h, _⟩ := h; omega
    · obtain ⟨b, n, d, _, h, _⟩ := h; omega
  | succ d0 cF =>
    refine D.ok scFormula (fun vs H Q E h => ?_) (fun f cdv A outer s H vs Q E hr h => ?_)
    · obtain ⟨b, n, d, rfl, _⟩ := h
      rfl
    · obtain ⟨b, n, d, rfl, hd, hb, h0, h1, k⟩ := h
      have hr1 : Room 1 _ := hr.mono (by omega)
      have hr2 : Room 2 _ := hr.mono (by omega)
      refine ⟨_, pss_cons (ps_if (PW.pt (pw_or (pt_cmpR op_eq (pv 2) pe_int (nomark _)) (pw_or1 (pt_cmpR op_eq (pe_cl cD hr1 (pa_cons (pv 0) (pa_cons pe_int pa_nil))) pe_int (nomark _)))))
          (pss_one (ps_ret (pe_cl cD hr1 (pa_cons (pv 0) (pa_cons (pv 1) pa_nil))))) pss_nil)
        (pss_cons (ps_set (i := 3) scFormula.nd rfl (.inl rfl) (pe_cl cP hr2 (pa_cons (pv 0) (pa_cons (pe_lst (pa_cons pe_str (pa_cons pe_str (pa_cons pe_str pa_nil)))) pa_nil))))
        (pss_one (ps_ret (pe_tup (pa_cons (pv 3) (pa_cons (pe_cl cF hr (pa_cons (pv 0) (pa_cons (pv 1) (pa_cons (pe_op op_sub (pv 2) pe_int) pa_nil))))
          (pa_cons (pe_cl cF hr (pa_cons (pv 0) (pa_cons (pv 1) (pa_cons (pe_op op_sub (pv 2) pe_int) pa_nil)))) pa_nil))))))), ?_⟩
      have leaf : ∀ H1, Fr (S1 b) H H1 → Bag H1 b → spDraw [.ref b, iv n] H1 Q E0 := fun H1 f1 hb1 => ⟨b, n, rfl, hb1, h0, by omega, fun x H2 hx f2 hb2 => k (.nm x) _ H2 hx (Nat.zero_le _) (.int _) (f1.trans f2) hb2⟩
      refine ⟨_, rfl, rfl, _, rfl, ?_⟩
      by_cases hz : d = 0
      · subst hz
        refine iteT ?_
        refine iteT ?_
        exact ⟨_, rfl, _, rfl, leaf H (Fr.refl _ _) hb⟩
      · have hdz : decide (iv d = V.int 0) = false := decide_eq_false fun q => hz (by have := V.int.inj q; omega)
        rw [hdz]
        refine iteF ?_
        refine ⟨_, rfl, b, 4, rfl, hb, by omega, by omega, fun x H1 hx f1 hb1 => ⟨rfl, _, rfl, ?_⟩⟩
        refine ite2 (fun _ => ?_) (fun _ => ?_)
        · exact ⟨_, rfl, _, rfl, leaf H1 f1 hb1⟩
        · refine ⟨_, rfl, by show 3 ≤ sizeLine; decide, fun l hl => ?_⟩
          refine ⟨b, l, _, rfl, hb1.fr ((Fr.refl S0 _).new hl) (fun z => z), hb1.ne hl, upd_same, by decide, by decide, fun i v H2 hv f2 hb2 => ?_⟩
          obtain ⟨u, rfl⟩ : ∃ u, v = .str (wS u) := by
            match i, hv with
            | 0, hv => exact ⟨.wi, (Option.some.inj hv).symm⟩
            | 1, hv => exact ⟨.be, (Option.some.inj hv).symm⟩
            | 2, hv => exact ⟨.ah, (Option.some.inj hv).symm⟩
          have f2' : Fr (S1 b) H H2 := (f1.new hl).trans f2
          obtain ⟨e, rfl⟩ : ∃ e, d = e + 1 := ⟨d - 1, by omega⟩
          refine ⟨_, rfl, _, rfl, _, rfl, _, rfl, _, _, rfl, rfl, b, n, e, by simp, by omega, hb2, h0, h1, fun fa va H3 ba da ta f3 hb3 => ?_⟩
          refine ⟨_, rfl, _, rfl, _, rfl, _, _, rfl, rfl, b, n, e, by simp, by omega, hb3, h0, h1, fun fb vb H4 bb db tb f4 hb4 => ?_⟩
          refine ⟨by show 3 ≤ sizeLine; decide, fun p hp => ?_⟩
          have g : Fr S0 H4 (upd H4 p (.tup [.str (wS u), va, vb])) := (Fr.refl _ _).new hp
          refine k (.ap u fa fb) _ _ ⟨ba, bb⟩ (by simp only [Fm.depth]; omega) (.tup (.of upd_same) (.cons (.str _) (.cons ((ta.fr f4).fr g) (.cons (tb.fr g) .nil)))) (((f2'.trans f3).trans f4).new hp) (hb4.fr g (fun z => z))
/-! ### the size -/
def spCount (K : PySem.W.Frag) (d0 : Nat) : Sp := fun vs H Q _ => ∃ (v : V) (f : Fm), vs = [v] ∧ f.depth < d0 ∧ DT K H v (fmD f) ∧ Q (iv f.size) H
abbrev sCount : Stmt := top 58
theorem scCount : FnScope ["_law_value_here"] ["_law_value_here"] (defScope sCount) := ⟨rfl, rfl, rfl, by decide +kernel, rfl, by decide +kernel, by decide +kernel⟩
theorem ok_count (D : Df K mg "_law_count" sCount ["_law_value_here"]) (T : Bi mg) : ∀ d0, Cl P w K mg base "_law_count" ["_law_value_here"] (d0 + 1) (spCount K d0) := by
  intro d0
  induction d0 with
  | zero =>
    refine D.ok scCount (fun vs H Q E h => ?_) (fun f cdv A outer s H vs Q E hr h => ?_)
    · obtain ⟨b, n, _, h, _⟩ := h; omega
    · obtain ⟨b, n, _, h, _⟩ := h; omega
  | succ d0 cC =>
    refine D.ok scCount (fun vs H Q E h => ?_) (fun f cdv A outer s H vs Q E hr h => ?_)
    · obtain ⟨v, f, rfl, _⟩ := h
      rfl
    · obtain ⟨v, f, rfl, hd, hv, k⟩ := h
      refine ⟨_, pss_one (ps_ret (pe_ifExp (pt_val (pe_callB call_isi (by rfl) T.isinstance PyProof.Rows.boot_isinstance (pa_cons (pv 0) (pa_cons (pe_bltn (v := .ty "tuple") (by rfl) T.tuple PyProof.Rows.boot_tuple rfl) pa_nil))))
        (pe_op op_add (pe_op op_add pe_int (pe_cl cC hr (pa_cons (pe_ix ix_tup (pv 0) pe_int (fun _ _ => rfl)) pa_nil))) (pe_cl cC hr (pa_cons (pe_ix ix_tup (pv 0) pe_int (fun _ _ => rfl)) pa_nil))) pe_int)), ?_⟩
      obtain ⟨t, ty, kt⟩ := isi_tup hv
      refine ⟨_, rfl, _, _, t, _, _, rfl, .ty _, ty, kt, _, rfl, ?_⟩
      cases f with
      | nm n => exact iteF k
      | ap u a b =>
        refine iteT ?_
        obtain ⟨p, va, vb, rfl, ht, ha, hb⟩ := fm_parts hv
        simp only [Fm.depth] at hd
        refine ⟨_, rfl, p, _, 1, _, rfl, rfl, ht.sq, rfl, va, a, rfl, by omega, ha, 1, _, rfl, rfl, ?_⟩
        refine ⟨_, rfl, p, _, 2, _, rfl, rfl, ht.sq, rfl, vb, b, rfl, by omega, hb, _, _, rfl, rfl, ?_⟩
        have e : iv (Fm.size (.ap u a b)) = .int (1 + (a.size : Int) + (b.size : Int)) := by simp [Fm.size]
        show Q (.int (1 + (a.size : Int) + (b.size : Int))) H
        rw [← e]; exact k
/-! ### a near formula -/
def spNear (K : PySem.W.Frag) (d0 : Nat) : Sp := fun vs H Q _ => ∃ (b : Addr) (n : Nat) (f : Fm) (v : V), vs = [.ref b, v, iv n] ∧ f.depth < d0 ∧ Bag H b ∧ 0 < n ∧ n < 1000 ∧ DT K H v (fmD f) ∧ f.bel n ∧
  ∀ (g : Fm) u H', g.bel n → g.depth ≤ f.depth + 2 → DT K H' u (fmD g) → Fr (S1 b) H H' → Bag H' b → Q u H'
abbrev sNear : Stmt := top 66
abbrev psNear : List Str := ["_law_bag_here", "_law_formula_here", "_law_names"]
theorem scNear : FnScope ["_law_bag_here", "_law_formula_here", "_law_names", "_law_way", "_law_own", "_law_some"] psNear (defScope sNear) := ⟨rfl, rfl, rfl, by decide +kernel, rfl, by decide +kernel, by decide +kernel⟩
def nears (o f : Fm) : List Fm := [.ap .wi o (.ap .be o f), .ap .wi (.ap .ah o f) o, .ap .be o (.ap .wi o f), .ap .be (.ap .ah f o) o, .ap .ah o (.ap .wi f o), .ap .ah (.ap .be f o) o]
theorem nears_ok {n o : Nat} {f : Fm} (hf : f.bel n) (ho : o < n) : ∀ g ∈ nears (.nm o) f, g.bel n ∧ g.depth ≤ f.depth + 2 := by
  intro g hm
  simp only [nears, List.mem_cons, List.not_mem_nil, or_false] at hm
  rcases hm with rfl | rfl | rfl | rfl | rfl | rfl <;> simp only [Fm.bel, Fm.depth] <;> exact ⟨by simp [hf, ho], by omega⟩
theorem ok_near (D : Df K mg "_law_near" sNear psNear) (T : Bi mg) (cD : Cl P w K mg base "_law_draw" ["_law_bag_here", "_law_limit"] 1 spDraw) (cF : Cl P w K mg base "_law_formula" psFormula 6 (spFormula K 3)) :
    ∀ d0, Cl P w K mg base "_law_near" psNear (d0 + 7) (spNear K d0) := by
  intro d0
  induction d0 with
  | zero =>
    refine D.ok scNear (fun vs H Q E h => ?_) (fun f cdv A outer s H vs Q E hr h => ?_)
    · obtain ⟨b, n, f, v, _, h, _⟩ := h; omega
    · obtain ⟨b, n, f, v, _, h, _⟩ := h; omega
  | succ d0 cN =>
    refine D.ok scNear (fun vs H Q E h => ?_) (fun f cdv A outer s H vs Q E hr h => ?_)
    · obtain ⟨b, n, f, v, rfl, _⟩ := h
      rfl
    · obtain ⟨b, n, f, v, rfl, hd, hb, h0, h1, hv, hf, k⟩ := h
      have hr1 : Room 1 _ := hr.mono (by omega)
      have hr6 : Room 6 _ := hr.mono (by omega)
      have hN : Room (d0 + 7) _ := hr.mono (by omega)
      refine ⟨_, pss_cons (ps_par (by rfl) scNear.nd (i := 3) (j := 4) rfl rfl (by decide) rfl rfl (pa_cons (pe_cl cD hr1 (pa_cons (pv 0) (pa_cons pe_int pa_nil))) (pa_cons (pe_cl cD hr1 (pa_cons (pv 0) (pa_cons (pv 2) pa_nil))) pa_nil)) (by rfl)) (pss_cons (ps_set (i := 5) scNear.nd rfl (Or.inl rfl) (pe_lst (pa_cons (pe_tup (pa_cons pe_str (pa_cons (pv 4) (pa_cons (pe_tup (pa_cons pe_str (pa_cons (pv 4) (pa_cons (pv 1) pa_nil)))) pa_nil)))) (pa_cons (pe_tup (pa_cons pe_str (pa_cons (pe_tup (pa_cons pe_str (pa_cons (pv 4) (pa_cons (pv 1) pa_nil)))) (pa_cons (pv 4) pa_nil)))) (pa_cons (pe_tup (pa_cons pe_str (pa_cons (pv 4) (pa_cons (pe_tup (pa_cons pe_str (pa_cons (pv 4) (pa_cons (pv 1) pa_nil)))) pa_nil)))) pa_nil))))) (pss_cons (ps_set (i := 5) scNear.nd rfl (Or.inl rfl) (pe_op op_cat (pv 5) (pe_lst (pa_cons (pe_tup (pa_cons pe_str (pa_cons (pe_tup (pa_cons pe_str (pa_cons (pv 1) (pa_cons (pv 4) pa_nil)))) (pa_cons (pv 4) pa_nil)))) (pa_cons (pe_tup (pa_cons pe_str (pa_cons (pv 4) (pa_cons (pe_tup (pa_cons pe_str (pa_cons (pv 1) (pa_cons (pv 4) pa_nil)))) pa_nil)))) pa_nil))))) (pss_cons (ps_set (i := 5) scNear.nd rfl (Or.inl rfl) (pe_op op_cat (pv 5) (pe_lst (pa_cons (pe_tup (pa_cons pe_str (pa_cons (pe_tup (pa_cons pe_str (pa_cons (pv 1) (pa_cons (pv 4) pa_nil)))) (pa_cons (pv 4) pa_nil)))) pa_nil)))) (pss_cons (ps_if (pt_cmpR op_lt (pv 3) pe_int (nomark _)) (pss_one (ps_ret (pe_ix ix_list (pv 5) (pv 3) (fun _ _ => rfl)))) pss_nil) (pss_cons (ps_if (PW.pt (pw_or (pt_val (pe_callB call_isi (by rfl) T.isinstance PyProof.Rows.boot_isinstance (pa_cons (pv 1) (pa_cons (pe_bltn (v := .ty "int") (by rfl) T.int PyProof.Rows.boot_int rfl) pa_nil)))) (pw_or1 (pt_cmpR op_eq (pv 3) pe_int (nomark _))))) (pss_one (ps_ret (pe_cl cF hr6 (pa_cons (pv 0) (pa_cons (pv 2) (pa_cons pe_int pa_nil)))))) pss_nil) (pss_one (ps_ret (pe_tup (pa_cons (pe_ix ix_tup (pv 1) pe_int (fun _ _ => rfl)) (pa_cons (pe_cl cN hN (pa_cons (pv 0) (pa_cons (pe_ix ix_tup (pv 1) pe_int (fun _ _ => rfl)) (pa_cons (pv 2) pa_nil)))) (pa_cons (pe_ix ix_tup (pv 1) pe_int (fun _ _ => rfl)) pa_nil))))))))))), ?_⟩
      refine ⟨_, rfl, b, 8, rfl, hb, by omega, by omega, fun x H1 hx f1 hb1 => ⟨_, rfl, _, rfl, b, n, rfl, hb1, h0, by omega, fun o H2 ho f2 hb2 => ⟨_, _, rfl, ?_⟩⟩⟩
      have hv2 : DT K H2 v (fmD f) := (hv.fr f1).fr f2
      have do2 : ∀ H', DT K H' (iv o) (fmD (.nm o)) := fun H' => .int _
      have ov : ∀ {H' : Hp} {σ : L2.St}, σ[4]? = some (some (iv o)) → EvD K (tVar 4) σ H' (.int (o : Int)) := fun e => evD_var e (.int _)
      try dsimp only
      refine q_asgD (K := K) (ds := ((nears (.nm o) f).take 3).map fmD) ?l1 (fun p3 xs3 H3 np3 f3 e3 t3 => ?_)
      case l1 =>
        refine evDl_lst (evDs_cons (evD_tup (evDs_cons evD_str (evDs_cons (ov rfl) (evDs_cons (evD_tup (evDs_cons evD_str (evDs_cons (ov rfl) (evDs_cons (evD_var rfl hv2) evDs_nil))) l3) evDs_nil))) l3)
          (evDs_cons (evD_tup (evDs_cons evD_str (evDs_cons (evD_tup (evDs_cons evD_str (evDs_cons (ov rfl) (evDs_cons (evD_var rfl hv2) evDs_nil))) l3) (evDs_cons (ov rfl) evDs_nil))) l3)
          (evDs_cons (evD_tup (evDs_cons evD_str (evDs_cons (ov rfl) (evDs_cons (evD_tup (evDs_cons evD_str (evDs_cons (ov rfl) (evDs_cons (evD_var rfl hv2) evDs_nil))) l3) evDs_nil))) l3) evDs_nil))) l3
      have hv3 := hv2.fr f3
      try dsimp only
      refine q_asgD (K := K) (ds := ((nears (.nm o) f).take 3).map fmD ++ (((nears (.nm o) f).drop 3).take 2).map fmD) ?l2 (fun p4 xs4 H4 np4 f4 e4 t4 => ?_)
      case l2 =>
        refine evDl_cat rfl e3 t3 ?_ l5
        refine evDl_lst (evDs_cons (evD_tup (evDs_cons evD_str (evDs_cons (evD_tup (evDs_cons evD_str (evDs_cons (evD_var rfl hv3) (evDs_cons (ov rfl) evDs_nil))) l3) (evDs_cons (ov rfl) evDs_nil))) l3)
          (evDs_cons (evD_tup (evDs_cons evD_str (evDs_cons (ov rfl) (evDs_cons (evD_tup (evDs_cons evD_str (evDs_cons (evD_var rfl hv3) (evDs_cons (ov rfl) evDs_nil))) l3) evDs_nil))) l3) evDs_nil)) l2
      have hv4 := hv3.fr f4
      try dsimp only
      refine q_asgD (K := K) (ds := ((nears (.nm o) f).take 3).map fmD ++ (((nears (.nm o) f).drop 3).take 2).map fmD ++ ((nears (.nm o) f).drop 5).map fmD) ?l3 (fun p5 xs5 H5 np5 f5 e5 t5 => ?_)
      case l3 =>
        refine evDl_cat rfl e4 t4 ?_ l6
        refine evDl_lst (evDs_cons (evD_tup (evDs_cons evD_str (evDs_cons (evD_tup (evDs_cons evD_str (evDs_cons (evD_var rfl hv4) (evDs_cons (ov rfl) evDs_nil))) l3) (evDs_cons (ov rfl) evDs_nil))) l3) evDs_nil) l1
      have hv5 := hv4.fr f5
      have g5 : Fr (S1 b) H H5 := ((f1.trans f2).trans (((f3.trans f4).trans f5).mono fun a z => z.elim))
      have hb5 : Bag H5 b := hb2.fr ((f3.trans f4).trans f5) (fun z => z)
      have et : ((nears (.nm o) f).take 3).map fmD ++ (((nears (.nm o) f).drop 3).take 2).map fmD ++ ((nears (.nm o) f).drop 5).map fmD = (nears (.nm o) f).map fmD := rfl
      rw [et] at t5
      refine ⟨_, rfl, _, _, rfl, rfl, _, rfl, ?_⟩
      refine ite2 (fun hw => ?_) (fun hw => ?_)
      · have h9 : (x : Int) < 6 := of_decide_eq_true hw
        have hw' : x < 6 := by omega
        have hx6 : x < (nears (.nm o) f).length := hw'
        obtain ⟨u, hu1, hu2⟩ := t5.get (i := x) (d := fmD (nears (.nm o) f)[x]) (by rw [List.getElem?_map, List.getElem?_eq_getElem hx6]; rfl)
        refine ⟨_, rfl, _, rfl, p5, xs5, _, u, rfl, rfl, SqL.of e5, atI_nat hu1, ?_⟩
        have hm := nears_ok hf ho _ (List.getElem_mem hx6)
        exact k _ u H5 hm.1 hm.2 hu2 g5 hb5
      · obtain ⟨t, ty, kt⟩ := isi_int hv5
        refine ⟨_, rfl, _, _, t, _, _, rfl, .ty _, ty, kt, _, rfl, ?_⟩
        have fin : spFormula K 3 [.ref b, iv n, .int 2] H5 Q E0 := ⟨b, n, 2, rfl, by omega, hb5, h0, h1, fun g u H6 hg1 hg2 hg3 f6 hb6 => k g u H6 hg1 (by omega) hg3 (g5.trans f6) hb6⟩
        cases f with
        | nm m =>
          refine iteT (iteT ?_)
          exact ⟨_, rfl, _, rfl, fin⟩
        | ap u fa fb =>
          refine iteF ?_
          refine ⟨_, rfl, rfl, _, rfl, ?_⟩
          refine ite2 (fun _ => ?_) (fun _ => ?_)
          · exact ⟨_, rfl, _, rfl, fin⟩
          · obtain ⟨p, va, vb, rfl, ht, ha, hbb⟩ := fm_parts hv5
            simp only [Fm.depth] at hd
            refine ⟨_, rfl, p, _, 0, _, rfl, rfl, ht.sq, rfl, _, rfl, _, rfl, p, _, 1, _, rfl, rfl, ht.sq, rfl, _, rfl, b, n, fa, va, rfl, by omega, hb5, h0, h1, ha, hf.1, fun g u6 H6 hg1 hg2 hg3 f6 hb6 => ?_⟩
            refine ⟨_, rfl, p, _, 2, _, rfl, rfl, (ht.fr f6).sq, rfl, by show 3 ≤ sizeLine; decide, fun q hq => ?_⟩
            have g7 : Fr S0 H6 (upd H6 q (.tup [.str (wS u), u6, vb])) := (Fr.refl _ _).new hq
            refine k (.ap u g fb) _ _ ⟨hg1, hf.2⟩ (by simp only [Fm.depth]; omega) (.tup (.of upd_same) (.cons (.str _) (.cons (hg3.fr g7) (.cons ((hbb.fr f6).fr g7) .nil)))) ((g5.trans f6).new hq) (hb6.fr g7 (fun z => z))
/-! ### the pairs -/
def pairD (p : Fm × Fm) : PyData := .tuple [fmD p.1, fmD p.2]
structure PairOk (n : Nat) (p : Fm × Fm) : Prop where
  b1 : p.1.bel n
  b2 : p.2.bel n
  d1 : p.1.depth ≤ 2
  d2 : p.2.depth ≤ 4
  z2 : p.2.size ≤ 15
def spPairs (K : PySem.W.Frag) : Sp := fun vs H Q _ => ∃ (b : Addr) (n : Nat), vs = [.ref b, iv n] ∧ Bag H b ∧ 0 < n ∧ n < 1000 ∧
  ∀ (ps : List (Fm × Fm)) (p : Addr) xs H', ps.length ≤ 6 → (∀ q ∈ ps, PairOk n q) → H p = none → H' p = some (.lst xs) → DTs K H' xs (ps.map pairD) → Fr (S1 b) H H' → Bag H' b → Q (.ref p) H'
abbrev sPairs : Stmt := top 71
theorem scPairs : FnScope ["_law_bag_here", "_law_names", "_law_found", "_law_turn", "_law_one", "_law_other"] ["_law_bag_here", "_law_names"] (defScope sPairs) := ⟨rfl, rfl, rfl, by decide +kernel, rfl, by decide +kernel, by decide +kernel⟩
theorem ok_pairs (D : Df K mg "_law_pairs" sPairs ["_law_bag_here", "_law_names"]) (T : Bi mg) (cD : Cl P w K mg base "_law_draw" ["_law_bag_here", "_law_limit"] 1 spDraw) (cP : Cl P w K mg base "_law_pick" ["_law_bag_here", "_law_items"] 2 (spPick K)) (cF : Cl P w K mg base "_law_formula" psFormula 6 (spFormula K 3))
    (cN : Cl P w K mg base "_law_near" psNear 10 (spNear K 3)) (cC : Cl P w K mg base "_law_count" ["_law_value_here"] 6 (spCount K 5)) : Cl P w K mg base "_law_pairs" ["_law_bag_here", "_law_names"] 11 (spPairs K) := by
  refine D.ok scPairs (fun vs H Q E h => ?_) (fun f cdv A outer s H vs Q E hr h => ?_)
  · obtain ⟨b, n, rfl, _⟩ := h
    rfl
  · obtain ⟨b, n, rfl, hb, h0, h1, k⟩ := h
    have hr1 : Room 1 _ := hr.mono (by decide)
    have hr2 : Room 2 _ := hr.mono (by decide)
    have hr6 : Room 6 _ := hr.mono (by decide)
    refine ⟨_, pss_cons (ps_set (i := 2) scPairs.nd rfl (Or.inl rfl) (pe_lst pa_nil)) (pss_cons (ps_for PassesOwn.never rfl (pi_range1 rfl T.range (pa_cons pe_int pa_nil)) (pg_name (i := 3) scPairs.nd rfl (Or.inl rfl)) (pss_cons (ps_set (i := 4) scPairs.nd rfl (Or.inl rfl) (pe_cl cF hr6 (pa_cons (pv 0) (pa_cons (pv 1) (pa_cons (pe_cl cD hr1 (pa_cons (pv 0) (pa_cons pe_int pa_nil))) pa_nil))))) (pss_cons (ps_set (i := 5) scPairs.nd rfl (Or.inl rfl) (pe_cl cP hr2 (pa_cons (pv 0) (pa_cons (pe_lst (pa_cons (pe_cl cN hr (pa_cons (pv 0) (pa_cons (pv 4) (pa_cons (pv 1) pa_nil)))) (pa_cons (pe_cl cN hr (pa_cons (pv 0) (pa_cons (pv 4) (pa_cons (pv 1) pa_nil)))) (pa_cons (pe_cl cF hr6 (pa_cons (pv 0) (pa_cons (pv 1) (pa_cons pe_int pa_nil)))) pa_nil)))) pa_nil)))) (pss_one (ps_set (i := 2) scPairs.nd rfl (Or.inl rfl) (pe_op op_cat (pv 2) (pe_op op_rep (pe_lst (pa_cons (pe_tup (pa_cons (pv 4) (pa_cons (pv 5) pa_nil))) pa_nil)) (pe_callTy call_int1 (by rfl) T.int PyProof.Rows.boot_int (pa_cons (pe_cmpR op_le (pe_cl cC hr6 (pa_cons (pv 5) pa_nil)) pe_int (nomark _)) pa_nil))))))))) (pss_one (ps_ret (pv 2)))), ?_⟩
    refine ⟨Nat.zero_le _, fun l hl => ?_⟩
    refine ⟨_, rfl, by decide, by decide, for_range (lo := 0) (n := 6) (fun i σ H' => ∃ (ps : List (Fm × Fm)) (p : Addr) (xs : List V) (v3 v4 v5 : Option V), σ = [some (.ref b), some (iv n), some (.ref p), v3, v4, v5] ∧ ps.length ≤ i ∧ (∀ q ∈ ps, PairOk n q) ∧ H p = none ∧ H' p = some (.lst xs) ∧ DTs K H' xs (ps.map pairD) ∧ Fr (S1 b) H H' ∧ Bag H' b) ?_ ?_ ?_⟩
    · exact ⟨[], l, [], none, none, none, rfl, Nat.le_refl _, by simp, hl, upd_same, .nil, (Fr.refl _ _).new hl, hb.fr ((Fr.refl S0 _).new hl) (fun z => z)⟩
    · rintro i σ H' hi ⟨ps, p, xs, v3, v4, v5, rfl, e1, e2, np, hp, hx, f0, hb0⟩
      have npb : p ≠ b := hb.ne np
      refine ⟨_, rfl, _, rfl, _, rfl, b, 3, rfl, hb0, by omega, by omega, fun d H1 hd f1 hb1 => ?_⟩
      refine ⟨b, n, d, rfl, by omega, hb1, h0, h1, fun fa va H2 ba da ta f2 hb2 => ?_⟩
      refine ⟨_, rfl, _, rfl, _, rfl, _, rfl, b, n, fa, va, rfl, by omega, hb2, h0, h1, ta, ba, fun g1 u1 H3 bg1 dg1 tg1 f3 hb3 => ?_⟩
      refine ⟨_, rfl, _, rfl, _, rfl, b, n, fa, va, rfl, by omega, hb3, h0, h1, ta.fr f3, ba, fun g2 u2 H4 bg2 dg2 tg2 f4 hb4 => ?_⟩
      refine ⟨_, rfl, _, rfl, b, n, 2, rfl, by omega, hb4, h0, h1, fun g3 u3 H5 bg3 dg3 tg3 f5 hb5 => ?_⟩
      refine ⟨by show 3 ≤ sizeLine; decide, fun l2 hl2 => ?_⟩
      have n6 : Fr S0 H5 (upd H5 l2 (.lst [u1, u2, u3])) := (Fr.refl _ _).new hl2
      refine ⟨b, l2, _, rfl, hb5.fr n6 (fun z => z), hb5.ne hl2, upd_same, by show 0 < 3; decide, by show 3 < 1073741824; decide, fun j g H7 hj f7 hb7 => ?_⟩
      have pick : ∃ gg : Fm, gg.bel n ∧ gg.depth ≤ 4 ∧ DT K H7 g (fmD gg) := by
        match j, hj with
        | 0, hj => cases Option.some.inj hj; exact ⟨g1, bg1, by omega, (((tg1.fr f4).fr f5).fr n6).fr f7⟩
        | 1, hj => cases Option.some.inj hj; exact ⟨g2, bg2, by omega, ((tg2.fr f5).fr n6).fr f7⟩
        | 2, hj => cases Option.some.inj hj; exact ⟨g3, bg3, by omega, (tg3.fr n6).fr f7⟩
      obtain ⟨gg, bgg, dgg, tgg⟩ := pick
      have f07 : Fr (S1 b) H' H7 := ((((((f1.trans f2).trans f3).trans f4).trans f5).new hl2).trans f7)
      have ta7 : DT K H7 va (fmD fa) := ((((ta.fr f3).fr f4).fr f5).fr n6).fr f7
      have hp7 : H7 p = some (.lst xs) := f07.keep _ _ hp npb
      have hx7 := hx.fr f07
      refine ⟨_, rfl, _, rfl, _, rfl, by show 2 ≤ sizeLine; decide, fun q hq => ?_⟩
      have n8 : Fr S0 H7 (upd H7 q (.tup [va, g])) := (Fr.refl _ _).new hq
      refine ⟨by show 1 ≤ sizeLine; decide, fun r hrr => ?_⟩
      have n9 : Fr S0 H7 (upd (upd H7 q (.tup [va, g])) r (.lst [.ref q])) := n8.new hrr
      refine ⟨_, rfl, g, gg, rfl, by omega, tgg.fr n9, _, _, rfl, rfl, .inr ⟨_, rfl, ?_⟩⟩
      have h9 : Fr (S1 b) H (upd (upd H7 q (.tup [va, g])) r (.lst [.ref q])) := ((f0.trans f07).new hq).new hrr
      have hb9 := hb7.fr n9 (fun z => z)
      have tq : DT K (upd (upd H7 q (.tup [va, g])) r (.lst [.ref q])) (.ref q) (pairD (fa, gg)) := .tup (.of (by rw [upd_ne (fun z => by rw [z, upd_same] at hrr; cases hrr)]; exact upd_same)) (.cons (ta7.fr n9) (.cons (tgg.fr n9) .nil))
      by_cases hz : gg.size ≤ 15
      · have hdz : decide ((gg.size : Int) ≤ 15) = true := decide_eq_true (by omega)
        refine ⟨r, 1, [.ref q], rfl, by rw [hdz]; rfl, upd_same, by decide, by decide, by show 1 ≤ sizeLine; decide, fun t ht => ?_⟩
        have n10 := (Fr.refl S0 (upd (upd H7 q (.tup [va, g])) r (.lst [.ref q]))).new (o := .lst (List.replicate (1 : Int).toNat [V.ref q]).flatten) ht
        refine ⟨p, t, xs, [.ref q], rfl, rfl, n10.keep _ _ (n9.keep _ _ hp7 (fun z => z)) (fun z => z), upd_same, by rw [hx.len]; simp; exact szl (by omega), fun u hu => ?_⟩
        have n11 := n10.new (o := .lst (xs ++ [.ref q])) hu
        refine ⟨ps ++ [(fa, gg)], u, _, _, _, _, rfl, by simp; omega, ?_, hb9.freeB (h9.mono fun a z => z) (n10.free hu), upd_same, ?_, (h9.new ht).new hu, hb9.fr n11 (fun z => z)⟩
        · intro z hzz
          rcases List.mem_append.mp hzz with hzz | hzz
          · exact e2 z hzz
          · simp at hzz; subst hzz; exact ⟨ba, bgg, (by show fa.depth ≤ 2; omega), dgg, hz⟩
        · rw [List.map_append]; exact ((hx7.fr n9).fr n11).append (.one (tq.fr n11))
      · have hdz : decide ((gg.size : Int) ≤ 15) = false := decide_eq_false (by omega)
        refine ⟨r, 0, [.ref q], rfl, by rw [hdz]; rfl, upd_same, by decide, by decide, by show 0 ≤ sizeLine; decide, fun t ht => ?_⟩
        have n10 := (Fr.refl S0 (upd (upd H7 q (.tup [va, g])) r (.lst [.ref q]))).new (o := .lst (List.replicate (0 : Int).toNat [V.ref q]).flatten) ht
        refine ⟨p, t, xs, [], rfl, rfl, n10.keep _ _ (n9.keep _ _ hp7 (fun z => z)) (fun z => z), upd_same, by rw [hx.len]; simp; exact szl (by omega), fun u hu => ?_⟩
        have n11 := n10.new (o := .lst (xs ++ [])) hu
        refine ⟨ps, u, _, _, _, _, rfl, by omega, e2, hb9.freeB (h9.mono fun a z => z) (n10.free hu), upd_same, by rw [List.append_nil] at n11 ⊢; exact (hx7.fr n9).fr n11, (h9.new ht).new hu, hb9.fr n11 (fun z => z)⟩
    · rintro σ H' ⟨ps, p, xs, v3, v4, v5, rfl, e1, e2, np, hp, hx, f0, hb0⟩
      exact ⟨_, rfl, k ps p xs H' e1 e2 np hp hx f0 hb0⟩
end
end K12
set_option linter.all false
set_option maxRecDepth 100000
set_option maxHeartbeats 800000
/-! K12w4: the law's tables. -/
namespace K12
open PySem PySem.Spec PyProof.Rows L2
/-! ### a list of lists of numbers that changes -/
structure Mat (H : Hp) (l : Addr) (as : List Addr) (T : List (List Nat)) : Prop where
  top : H l = some (.lst (as.map V.ref))
  rows : ∀ (k : Nat) a, as[k]? = some a → H a = some (.lst (ivs (T.getD k [])))
  nd : as.Nodup
  len : as.length = T.length
  nl : l ∉ as
theorem ivs_at {ns : List Nat} {i : Nat} (h : i < ns.length) : (ivs ns)[i]? = some (iv (ns.getD i 0)) := by rw [getD_lt h]; exact ivs_get h
theorem ivs_set (ns : List Nat) (i v : Nat) : (ivs ns).set i (iv v) = ivs (ns.set i v) := by simp [ivs, List.map_set]
theorem refs_at {as : List Addr} {i : Nat} (h : i < as.length) : (as.map V.ref)[i]? = some (.ref as[i]) := by simp [h]
theorem Mat.set {H : Hp} {l : Addr} {as : List Addr} {T : List (List Nat)} (M : Mat H l as T) {k : Nat} (hk : k < as.length) (r : List Nat) : Mat (upd H as[k] (.lst (ivs r))) l as (T.set k r) := by
  refine ⟨?_, ?_, M.nd, by rw [List.length_set]; exact M.len, M.nl⟩
  · rw [upd_ne (fun q => M.nl (by rw [q]; exact List.getElem_mem _))]; exact M.top
  · intro j a ha
    obtain ⟨hj, ej⟩ := List.getElem?_eq_some_iff.mp ha
    by_cases e : j = k
    · subst e
      rw [← ej, upd_same]
      congr 3
      rw [List.getD, List.getElem?_set_self (by rw [← M.len]; exact hk)]; rfl
    · have hne : a ≠ as[k] := fun q => by rw [← ej] at q; exact e ((List.getElem_inj M.nd).mp q)
      rw [upd_ne hne, List.getD, List.getElem?_set_ne (Ne.symm e)]
      exact M.rows j a ha
theorem Mat.fr {S : Addr → Prop} {H H' : Hp} {l : Addr} {as : List Addr} {T : List (List Nat)} (M : Mat H l as T) (f : Fr S H H') (h1 : ¬ S l) (h2 : ∀ a ∈ as, ¬ S a) : Mat H' l as T :=
  ⟨f.keep _ _ M.top h1, fun k a e => f.keep _ _ (M.rows k a e) (h2 a (List.mem_of_getElem? e)), M.nd, M.len, M.nl⟩
section
variable {P : Program} {w : World} {K : PySem.W.Frag} {mg : Str → Option Value} {base : Heap}
/-! ### turn_over -/
def spTO : Sp := fun vs H Q _ => ∃ (b l : Addr) (n : Nat) (as : List Addr) (T : List (List Nat)), vs = [.ref b, .ref l, iv n] ∧ Bag H b ∧ b ≠ l ∧ b ∉ as ∧ Mat H l as T ∧ Latin n T ∧ 0 < n ∧ n ≤ 100 ∧
  ∀ (T' : List (List Nat)) H', Latin n T' → Mat H' l as T' → Fr (fun a => a = b ∨ a ∈ as) H H' → Bag H' b → Q .non H'
abbrev sTO : Stmt := top 54
abbrev nTO : List Str := ["_law_bag_here", "_law_rows", "_law_size", "_law_one", "_law_other", "_law_column", "_law_begin", "_law_turn", "_law_k"]
theorem scTO : FnScope nTO ["_law_bag_here", "_law_rows", "_law_size"] (defScope sTO) := ⟨rfl, rfl, rfl, by decide +kernel, rfl, by decide +kernel, by decide +kernel⟩
theorem ok_turn_over (D : Df K mg "_law_turn_over" sTO ["_law_bag_here", "_law_rows", "_law_size"]) (T : Bi mg) (cD : Cl P w K mg base "_law_draw" ["_law_bag_here", "_law_limit"] 1 spDraw) : Cl P w K mg base "_law_turn_over" ["_law_bag_here", "_law_rows", "_law_size"] 2 spTO := by
  refine D.ok scTO (fun vs H Q E h => ?_) (fun f cdv A outer s H vs Q E hr h => ?_)
  · obtain ⟨b, l, n, as, T, rfl, _⟩ := h
    rfl
  · obtain ⟨b, l, n, as, T0, rfl, hb, hbl, hba, M0, L0, hn0, hn1, k⟩ := h
    refine ⟨_, pss_cons (ps_asg (pe_tup (pa_cons (pe_cl cD hr (pa_cons (pv 0) (pa_cons (pv 2) pa_nil))) (pa_cons (pe_cl cD hr (pa_cons (pv 0) (pa_cons (pv 2) pa_nil))) pa_nil))) (pg_tup (by rfl) (pgs_cons (pg_name (i := 3) scTO.nd rfl (Or.inr rfl)) (pgs_cons (pg_name (i := 4) scTO.nd rfl (Or.inl rfl)) pgs_nil)))) (pss_cons (ps_set (i := 5) scTO.nd rfl (Or.inr rfl) (pe_cl cD hr (pa_cons (pv 0) (pa_cons (pv 2) pa_nil)))) (pss_one (ps_if (pt_cmpR op_ne (pv 3) (pv 4) (nomark _)) (pss_cons (ps_set (i := 6) scTO.nd rfl (Or.inl rfl) (pe_ix ix_list (pe_ix ix_list (pv 1) (pv 3) (fun _ _ => rfl)) (pv 5) (fun _ _ => rfl))) (pss_one (ps_for PassesOwn.never rfl (pi_range1 rfl T.range (pa_cons (pv 2) pa_nil)) (pg_name (i := 7) scTO.nd rfl (Or.inl rfl)) (pss_cons (ps_asg (pe_tup (pa_cons (pe_ix ix_list (pe_ix ix_list (pv 1) (pv 4) (fun _ _ => rfl)) (pv 5) (fun _ _ => rfl)) (pa_cons (pe_ix ix_list (pe_ix ix_list (pv 1) (pv 3) (fun _ _ => rfl)) (pv 5) (fun _ _ => rfl)) pa_nil))) (pg_tup (by rfl) (pgs_cons (pg_sub (pe_ix ix_list (pv 1) (pv 3) (fun _ _ => rfl)) (pv 5) set_list) (pgs_cons (pg_sub (pe_ix ix_list (pv 1) (pv 4) (fun _ _ => rfl)) (pv 5) set_list) pgs_nil)))) (pss_cons (ps_if (pt_cmpR op_eq (pe_ix ix_list (pe_ix ix_list (pv 1) (pv 3) (fun _ _ => rfl)) (pv 5) (fun _ _ => rfl)) (pv 6) (nomark _)) (pss_one ps_break) pss_nil) (pss_one (ps_set (i := 5) scTO.nd rfl (Or.inr rfl) (pe_ix ix_list (pe_lc (own := [("_law_k", 8)]) (g := gName 8) (tt := _) rfl scTO.nd (pi_range1 rfl T.range (pa_cons (pv 2) pa_nil)) (blkOk_by (N := nTO) (sc := defScope sTO) (by decide +kernel)) (fun _ _ _ _ _ => pg_name (i := 8) scTO.nd rfl (Or.inl rfl)) (fun _ _ _ _ _ => pts_one (PW.pt (pw_and (pt_cmpR op_ne (pv 8) (pv 5) (nomark _)) (pw_and1 (pt_cmpR op_eq (pe_ix (ix_listk K) (pe_ix (ix_listk K) (pv 1) (pv 3) (fun _ _ => rfl)) (pv 8) (fun _ _ => rfl)) (pe_ix (ix_listk K) (pe_ix (ix_listk K) (pv 1) (pv 3) (fun _ _ => rfl)) (pv 5) (fun _ _ => rfl)) (nomark _)))))) (fun _ _ _ _ _ => pv 8)) pe_int (fun _ _ => rfl))))))))) pss_nil))), ?_⟩
    have lenA : as.length = n := by rw [M0.len, L0.len]
    have toS : ∀ {H1 H2 : Hp}, Fr (S1 b) H1 H2 → Fr (fun a => a = b ∨ a ∈ as) H1 H2 := fun f => f.mono fun a e => .inl e
    have matB : ∀ {H1 H2 : Hp} {T : List (List Nat)}, Mat H1 l as T → Fr (S1 b) H1 H2 → Mat H2 l as T := fun M f => M.fr f (fun e => hbl e.symm) (fun a ha e => hba (by rw [← e]; exact ha))
    have mat0 : ∀ {H1 H2 : Hp} {T : List (List Nat)}, Mat H1 l as T → Fr S0 H1 H2 → Mat H2 l as T := fun M f => M.fr f (fun e => e) (fun a ha e => e)
    refine ⟨_, rfl, _, rfl, b, n, rfl, hb, hn0, by omega, fun x H1 hx f1 hb1 => ⟨_, rfl, _, rfl, b, n, rfl, hb1, hn0, by omega, fun y H2 hy f2 hb2 => ⟨by show 2 ≤ sizeLine; decide, fun t ht => ⟨t, _, rfl, SqT.of upd_same, rfl, _, _, rfl, _, _, rfl, rfl, ?_⟩⟩⟩⟩
    have g2 : Fr S0 H2 (upd H2 t (.tup [iv x, iv y])) := (Fr.refl _ _).new ht
    refine ⟨_, rfl, _, rfl, b, n, rfl, hb2.fr g2 (fun z => z), hn0, by omega, fun c H3 hc f3 hb3 => ?_⟩
    have f03 : Fr (S1 b) H H3 := (((f1.trans f2).new ht).trans f3)
    have M3 : Mat H3 l as T0 := matB (mat0 (matB (matB M0 f1) f2) g2) f3
    refine ⟨_, rfl, _, rfl, rfl, _, rfl, ?_⟩
    by_cases hxy : x = y
    · subst hxy
      have e : (!decide (iv x = iv x)) = false := by simp
      rw [e]
      exact iteF (k T0 H3 L0 M3 (toS f03) hb3)
    have e : (!decide (iv x = iv y)) = true := by
      have : iv x ≠ iv y := fun q => hxy (by have := V.int.inj q; omega)
      simp [this]
    rw [e]
    refine iteT ?_
    have xA : x < as.length := by omega
    have yA : y < as.length := by omega
    obtain ⟨rx1, rx2, rx3⟩ := L0.rowOf hx
    obtain ⟨ry1, ry2, ry3⟩ := L0.rowOf hy
    refine ⟨_, rfl, _, rfl, l, _, _, _, rfl, rfl, SqL.of M3.top, atI_nat (refs_at xA), _, rfl, as[x], _, _, _, rfl, rfl, SqL.of (M3.rows x _ (List.getElem?_eq_getElem xA)), atI_nat (ivs_at (by rw [rx1]; exact hc)), ?_⟩
    have st := TO.start rx1 ry1 rx2 ry2 rx3 ry3 (fun k hk q => hxy (L0.col x y k hx hy hk q)) hc
    refine ⟨_, rfl, _, rfl, by omega, by omega, for_range (lo := 0) (n := n) (fun i σ H' => ∃ (C : List Nat) (c' : Nat) (a bb : List Nat) (v : Option V), σ = [some (.ref b), some (.ref l), some (iv n), some (iv x), some (iv y), some (iv c'), some (iv ((T0.getD x []).getD c 0)), v, none] ∧ C.length = i ∧
      TO n (T0.getD x []) (T0.getD y []) ((T0.getD x []).getD c 0) C c' a bb ∧ Mat H' l as ((T0.set x a).set y bb) ∧ Fr (fun a => a = b ∨ a ∈ as) H H' ∧ Bag H' b) ?_ ?_ ?_⟩
    · refine ⟨[], c, _, _, none, rfl, rfl, st, ?_, toS f03, hb3⟩
      have : (T0.set x (T0.getD x [])).set y (T0.getD y []) = T0 := by
        have s1 : ∀ {l : List (List Nat)} {i : Nat}, i < l.length → l.set i (l.getD i []) = l := by
          intro l i hi
          apply List.ext_getElem
          · simp
          · intro j h1 h2
            rw [List.getElem_set]
            split
            · rename_i q; subst q; rw [getD_lt h2]
            · rfl
        rw [s1 (by rw [L0.len]; exact hx), s1 (by rw [L0.len]; exact hy)]
      rw [this]; exact M3
    · rintro i σ H' hi ⟨C, c', a, bb, v, rfl, hC, TT, M, fr, hbg⟩
      have ca : c' < a.length := by rw [TT.la]; exact TT.cn
      have cb : c' < bb.length := by rw [TT.lb]; exact TT.cn
      have l1 : (T0.set x a).length = n := by rw [List.length_set, L0.len]
      have gx : ((T0.set x a).set y bb).getD x [] = a := by
        rw [List.getD, List.getElem?_set_ne (Ne.symm hxy), List.getElem?_set_self (by rw [L0.len]; exact hx)]; rfl
      have gy : ((T0.set x a).set y bb).getD y [] = bb := by
        rw [List.getD, List.getElem?_set_self (by rw [l1]; exact hy)]; rfl
      have rX := M.rows x _ (List.getElem?_eq_getElem xA)
      have rY := M.rows y _ (List.getElem?_eq_getElem yA)
      rw [gx] at rX
      rw [gy] at rY
      -- the exchange
      refine ⟨_, rfl, _, rfl, l, _, _, _, rfl, rfl, SqL.of M.top, atI_nat (refs_at yA), _, rfl, as[y], _, _, _, rfl, rfl, SqL.of rY, atI_nat (ivs_at cb), ?_⟩
      refine ⟨_, rfl, _, rfl, l, _, _, _, rfl, rfl, SqL.of M.top, atI_nat (refs_at xA), _, rfl, as[x], _, _, _, rfl, rfl, SqL.of rX, atI_nat (ivs_at ca), ?_⟩
      refine ⟨by show 2 ≤ sizeLine; decide, fun t ht => ⟨t, _, rfl, SqT.of upd_same, rfl, _, _, rfl, ?_⟩⟩
      have M1 := mat0 M ((Fr.refl S0 H').new (o := .tup [iv (bb.getD c' 0), iv (a.getD c' 0)]) ht)
      have rX1 := M1.rows x _ (List.getElem?_eq_getElem xA)
      rw [gx] at rX1
      refine ⟨_, rfl, _, rfl, l, _, _, _, rfl, rfl, SqL.of M1.top, atI_nat (refs_at xA), _, rfl, as[x], _, _, _, rfl, rfl, rX1, Evl.ixN_nat (by rw [ivs_len]; exact ca), _, _, rfl, ?_⟩
      rw [ivs_set]
      have M2 := M1.set xA (a.set c' (bb.getD c' 0))
      have g2y : (((T0.set x a).set y bb).set x (a.set c' (bb.getD c' 0))).getD y [] = bb := by
        rw [List.getD, List.getElem?_set_ne hxy]; exact gy
      have rY2 := M2.rows y _ (List.getElem?_eq_getElem yA)
      rw [g2y] at rY2
      refine ⟨_, rfl, _, rfl, l, _, _, _, rfl, rfl, SqL.of M2.top, atI_nat (refs_at yA), _, rfl, as[y], _, _, _, rfl, rfl, rY2, Evl.ixN_nat (by rw [ivs_len]; exact cb), rfl, ?_⟩
      rw [ivs_set]
      have M3' := M2.set yA (bb.set c' (a.getD c' 0))
      have eT : (((T0.set x a).set y bb).set x (a.set c' (bb.getD c' 0))).set y (bb.set c' (a.getD c' 0)) = (T0.set x (a.set c' (bb.getD c' 0))).set y (bb.set c' (a.getD c' 0)) := by
        rw [List.set_comm _ _ (Ne.symm hxy), List.set_set, List.set_set]
      rw [eT] at M3'
      have fr3 : Fr (fun a => a = b ∨ a ∈ as) H (upd (upd (upd H' t (.tup [iv (bb.getD c' 0), iv (a.getD c' 0)])) as[x] (.lst (ivs (a.set c' (bb.getD c' 0))))) as[y] (.lst (ivs (bb.set c' (a.getD c' 0))))) :=
        ((fr.new ht).set (.inr (List.getElem_mem xA)) (lst_ne_tup rX1)).set (.inr (List.getElem_mem yA)) (lst_ne_tup rY2)
      have hb4 : Bag (upd (upd (upd H' t (.tup [iv (bb.getD c' 0), iv (a.getD c' 0)])) as[x] (.lst (ivs (a.set c' (bb.getD c' 0))))) as[y] (.lst (ivs (bb.set c' (a.getD c' 0))))) b := by
        obtain ⟨g, sm, cc, e1, e2⟩ := hbg
        exact ⟨g, sm, cc, by rw [upd_ne (fun q => hba (by rw [q]; exact List.getElem_mem yA)), upd_ne (fun q => hba (by rw [q]; exact List.getElem_mem xA)), upd_ne (ne_of_none e1 ht)]; exact e1, e2⟩
      generalize upd (upd (upd H' t (.tup [iv (bb.getD c' 0), iv (a.getD c' 0)])) as[x] (.lst (ivs (a.set c' (bb.getD c' 0))))) as[y] (.lst (ivs (bb.set c' (a.getD c' 0)))) = H5 at M3' fr3 hb4 ⊢
      have l2 : (T0.set x (a.set c' (bb.getD c' 0))).length = n := by rw [List.length_set, L0.len]
      have gx5 : ((T0.set x (a.set c' (bb.getD c' 0))).set y (bb.set c' (a.getD c' 0))).getD x [] = a.set c' (bb.getD c' 0) := by
        rw [List.getD, List.getElem?_set_ne (Ne.symm hxy), List.getElem?_set_self (by rw [L0.len]; exact hx)]; rfl
      have la5 : (a.set c' (bb.getD c' 0)).length = n := by rw [List.length_set]; exact TT.la
      have gc5 : (a.set c' (bb.getD c' 0)).getD c' 0 = bb.getD c' 0 := by rw [getD_set ca, if_pos rfl]
      have rX5 := M3'.rows x _ (List.getElem?_eq_getElem xA)
      rw [gx5] at rX5
      refine ⟨_, rfl, _, rfl, l, _, _, _, rfl, rfl, SqL.of M3'.top, atI_nat (refs_at xA), _, rfl, as[x], _, _, _, rfl, rfl, SqL.of rX5, atI_nat (ivs_at (by rw [la5]; exact TT.cn)), _, rfl, rfl, _, rfl, ?_⟩
      rw [gc5]
      by_cases hbg : bb.getD c' 0 = (T0.getD x []).getD c 0
      · have ed : decide (iv (bb.getD c' 0) = iv ((T0.getD x []).getD c 0)) = true := decide_eq_true (by rw [hbg])
        rw [ed]
        refine iteT ?_
        have S := TT.done hbg
        exact k _ H5 (sw_latin L0 hx hy hxy S) M3' fr3 hb4
      · have ed : decide (iv (bb.getD c' 0) = iv ((T0.getD x []).getD c 0)) = false := decide_eq_false fun q => hbg (by have := V.int.inj q; omega)
        rw [ed]
        refine iteF ?_
        -- the next column
        let p : Nat → Bool := fun j => decide (j ≠ c') && decide ((a.set c' (bb.getD c' 0)).getD j 0 = (a.set c' (bb.getD c' 0)).getD c' 0)
        refine ⟨_, rfl, _, rfl, by omega, by omega, fun d hd => lc_range (lo := 0) (n := n) (fun j H6 => Fr S0 H5 H6 ∧ H6 d = some (.lst (ivs ((List.range j).filter p)))) ?_ ?_ ?_⟩
        · exact ⟨(Fr.refl _ _).new hd, upd_same⟩
        · rintro j H6 hj ⟨f6, e6⟩
          have M6 := mat0 M3' f6
          have rX6 := f6.keep _ _ rX5 (fun z => z)
          have ee : ((0 : Int) + (j : Int)) = (j : Int) := by omega
          rw [ee]
          have fin : ∀ bo, p j = bo → if bo = true then tVar 8 ([some (.ref b), some (.ref l), some (iv n), some (iv x), some (iv y), some (iv c'), some (iv ((T0.getD x []).getD c 0)), some (.int (0 + (i : Int))), some (iv j)] : L2.St) H6 fun y H4 => ∃ acc, H4 d = some (.lst acc) ∧ acc.length < sizeLine ∧ (Fr S0 H5 (upd H4 d (.lst (acc ++ [y]))) ∧ (upd H4 d (.lst (acc ++ [y]))) d = some (.lst (ivs ((List.range (j + 1)).filter p)))) else (Fr S0 H5 H6 ∧ H6 d = some (.lst (ivs ((List.range (j + 1)).filter p)))) := by
            intro bo hbo
            cases bo with
            | true =>
              refine iteT ⟨_, rfl, _, e6, ?_, f6.mut hd, ?_⟩
              · rw [ivs_len]; exact sz (Nat.le_trans (List.length_filter_le _ _) (by rw [List.length_range]; omega))
              · rw [upd_same, List.range_succ, List.filter_append]; simp [hbo, ivs]
            | false =>
              refine iteF ⟨f6, ?_⟩
              rw [e6, List.range_succ, List.filter_append]; simp [hbo]
          refine ⟨rfl, _, rfl, _, rfl, rfl, _, rfl, ?_⟩
          by_cases hjc : j = c'
          · subst hjc
            have e1 : (!decide (iv j = iv j)) = false := by simp
            rw [e1]
            refine iteF ?_
            exact fin false (by simp [p])
          · have e1 : (!decide (iv j = iv c')) = true := by
              have : iv j ≠ iv c' := fun q => hjc (by have := V.int.inj q; omega)
              simp [this]
            rw [e1]
            refine iteT ?_
            refine ⟨_, rfl, _, rfl, l, _, _, _, rfl, rfl, SqL.of M6.top, atI_nat (refs_at xA), _, rfl, as[x], _, _, _, rfl, rfl, SqL.of rX6, atI_nat (ivs_at (by rw [la5]; exact hj)), ?_⟩
            refine ⟨_, rfl, _, rfl, l, _, _, _, rfl, rfl, SqL.of M6.top, atI_nat (refs_at xA), _, rfl, as[x], _, _, _, rfl, rfl, SqL.of rX6, atI_nat (ivs_at (by rw [la5]; exact TT.cn)), rfl, _, rfl, ?_⟩
            refine fin _ ?_
            simp only [p, hjc, ne_eq, not_false_eq_true, decide_true, Bool.true_and]
            by_cases q : (a.set c' (bb.getD c' 0)).getD j 0 = (a.set c' (bb.getD c' 0)).getD c' 0
            · rw [decide_eq_true q, decide_eq_true (by rw [q])]
            · rw [decide_eq_false q, decide_eq_false (fun z => q (by have := V.int.inj z; omega))]
        · rintro H6 ⟨f6, e6⟩
          obtain ⟨kk, hk1, hk2, hk3⟩ := TT.ex hbg
          cases hl : (List.range n).filter p with
          | nil =>
            have : kk ∈ (List.range n).filter p := List.mem_filter.mpr ⟨List.mem_range.mpr hk1, by simp only [p]; rw [decide_eq_true hk2, decide_eq_true hk3]; rfl⟩
            rw [hl] at this; cases this
          | cons k1 rest =>
            have hm : k1 ∈ (List.range n).filter p := by rw [hl]; exact List.mem_cons_self
            obtain ⟨m1, m2⟩ := List.mem_filter.mp hm
            simp only [p, Bool.and_eq_true, decide_eq_true_eq] at m2
            rw [hl] at e6
            refine ⟨d, _, _, _, rfl, rfl, SqL.of e6, atI_nat (j := 0) (v := iv k1) rfl, ?_⟩
            have f6S : Fr (fun a => a = b ∨ a ∈ as) H H6 := fr3.trans (f6.mono fun a z => z.elim)
            exact ⟨c' :: C, k1, _, _, _, rfl, by simp [hC], TT.next hbg (List.mem_range.mp m1) m2.1 m2.2, mat0 M3' f6, f6S, hb4.fr f6 (fun z => z)⟩
    · rintro σ H' ⟨C, c', a, bb, v, rfl, hC, TT, M, fr, hbg⟩
      have := TT.more
      omega
end
end K12
set_option linter.all false
set_option maxRecDepth 100000
set_option maxHeartbeats 1600000
/-! K12w4b: a drawn table. -/
namespace K12
open PySem PySem.Spec PyProof.Rows L2
/-! ### a comprehension over a range: one turn -/
theorem lcStep {p : Nat → Bool} {g : Nat → V} {d : Addr} {H5 H6 : Hp} {te : TE} {σ : L2.St} (i : Nat) (hd : H5 d = none) (f6 : Fr S0 H5 H6) (e6 : H6 d = some (.lst (((List.range i).filter p).map g))) (hi : i ≤ 50000) (he : p i = true → ∀ Q : VK, Q (g i) H6 → te σ H6 Q) :
    if p i = true then te σ H6 fun y H4 => ∃ acc, H4 d = some (.lst acc) ∧ acc.length < sizeLine ∧ (Fr S0 H5 (upd H4 d (.lst (acc ++ [y]))) ∧ (upd H4 d (.lst (acc ++ [y]))) d = some (.lst (((List.range (i + 1)).filter p).map g)))
    else (Fr S0 H5 H6 ∧ H6 d = some (.lst (((List.range (i + 1)).filter p).map g))) := by
  cases hp : p i with
  | true =>
    refine iteT (he hp _ ⟨_, e6, ?_, f6.mut hd, ?_⟩)
    · rw [List.length_map]; exact sz (Nat.le_trans (List.length_filter_le _ _) (by rw [List.length_range]; omega))
    · rw [upd_same, List.range_succ, List.filter_append]; simp [hp]
  | false =>
    refine iteF ⟨f6, ?_⟩
    rw [e6, List.range_succ, List.filter_append]; simp [hp]
def rowD (r : List Nat) : PyData := .tuple (r.map fun x : Nat => PyData.int (x : Int))
def tabD (T : List (List Nat)) : PyData := .tuple (T.map rowD)
theorem dts_ivs {K : PySem.W.Frag} {H : Hp} : ∀ ns : List Nat, DTs K H (ivs ns) (ns.map fun x : Nat => PyData.int (x : Int))
  | [] => .nil
  | n :: ns => .cons (.int _) (dts_ivs ns)
theorem dts_ivs_inv {K : PySem.W.Frag} {H : Hp} : ∀ {ns : List Nat} {vs : List V}, DTs K H vs (ns.map fun x : Nat => PyData.int (x : Int)) → vs = ivs ns
  | [], _, h => by
    have h' : DTs K H _ [] := h
    cases h'; rfl
  | n :: ns, _, h => by
    have h' : DTs K H _ (PyData.int (n : Int) :: ns.map fun x : Nat => PyData.int (x : Int)) := h
    cases h' with
    | cons a r => rw [a.int_inv, dts_ivs_inv r]; rfl
theorem dt_row {K : PySem.W.Frag} {H : Hp} {p : Addr} {ns : List Nat} (h : H p = some (.tup (ivs ns))) : DT K H (.ref p) (rowD ns) := .tup (.of h) (dts_ivs ns)
theorem row_inv {K : PySem.W.Frag} {H : Hp} {v : V} {ns : List Nat} (h : DT K H v (rowD ns)) : ∃ p, v = .ref p ∧ Tp K H p (ivs ns) := by
  obtain ⟨p, xs, e, t, r⟩ := h.tup_inv
  rw [dts_ivs_inv r] at t
  exact ⟨p, e, t⟩
theorem tab_inv {K : PySem.W.Frag} {H : Hp} {v : V} {T : List (List Nat)} (h : DT K H v (tabD T)) : ∃ p xs, v = .ref p ∧ Tp K H p xs ∧ xs.length = T.length ∧ ∀ i, i < T.length → ∃ q, xs[i]? = some (.ref q) ∧ Tp K H q (ivs (T.getD i [])) := by
  obtain ⟨p, xs, e, t, r⟩ := h.tup_inv
  refine ⟨p, xs, e, t, by rw [r.len, List.length_map], fun i hi => ?_⟩
  obtain ⟨v, h1, h2⟩ := r.get (i := i) (d := rowD (T.getD i [])) (by rw [List.getElem?_map, List.getElem?_eq_getElem hi, getD_lt hi]; rfl)
  obtain ⟨q, rfl, tq⟩ := row_inv h2
  exact ⟨q, h1, tq⟩
/-! ### a drawn table -/
def Prm (n : Nat) (o : List Nat) : Prop := o.length = n ∧ o.Nodup ∧ ∀ x ∈ o, x < n
def divChk : Bool := (List.range 8).all fun n => (List.range 8).all fun t => divM 200 t n != 1 || (List.range n).all fun x => (List.range n).all fun y => (t * x) % n != (t * y) % n || x == y
theorem divChk_ok : divChk = true := by decide +kernel
theorem div_ok (n : Nat) (hn : n < 8) (t : Nat) (ht : t < 8) (hd : divM 200 t n = 1) (x : Nat) (hx : x < n) (y : Nat) (hy : y < n) (e : (t * x) % n = (t * y) % n) : x = y := by
  have h := divChk_ok
  unfold divChk at h
  rw [List.all_eq_true] at h
  have h1 := h n (List.mem_range.mpr hn)
  rw [List.all_eq_true] at h1
  have h2 := h1 t (List.mem_range.mpr ht)
  rw [hd] at h2
  have h3 : ((List.range n).all fun x => (List.range n).all fun y => (t * x) % n != (t * y) % n || x == y) = true := by simpa using h2
  rw [List.all_eq_true] at h3
  have h4 := h3 x (List.mem_range.mpr hx)
  rw [List.all_eq_true] at h4
  have h5 := h4 y (List.mem_range.mpr hy)
  rw [e] at h5
  simpa using h5
theorem div_one : ∀ n, n < 8 → 2 ≤ n → divM 200 1 n = 1 := by decide +kernel
def spTable (K : PySem.W.Frag) : Sp := fun vs H Q _ => ∃ (b : Addr) (n : Nat), vs = [.ref b, iv n] ∧ Bag H b ∧ 2 ≤ n ∧ n < 8 ∧
  ∀ (T : List (List Nat)) v H', Latin n T → DT K H' v (tabD T) → Fr (S1 b) H H' → Bag H' b → Q v H'
abbrev sTable : Stmt := top 55
abbrev nTable : List Str := ["_law_bag_here", "_law_size", "_law_times", "_law_orders", "_law_found", "_law_turn", "_law_own", "_law_x", "_law_y", "_law_row"]
theorem scTable : FnScope nTable ["_law_bag_here", "_law_size"] (defScope sTable) := ⟨rfl, rfl, rfl, by decide +kernel, rfl, by decide +kernel, by decide +kernel⟩
abbrev bTable : Scope := { kind := .function, names := [(".0", .local), ("_law_x", .cell), ("range", .globalImplicit), ("_law_orders", .cell), ("_law_size", .cell), ("_law_times", .cell)], isGenerator := false, isCoroutine := false, more := [] }
section
variable {P : Program} {w : World} {K : PySem.W.Frag} {mg : Str → Option Value} {base : Heap}
theorem ok_table (D : Df K mg "_law_table" sTable ["_law_bag_here", "_law_size"]) (T : Bi mg) (cD : Cl P w K mg base "_law_draw" ["_law_bag_here", "_law_limit"] 1 spDraw) (cP : Cl P w K mg base "_law_pick" ["_law_bag_here", "_law_items"] 2 (spPick K))
    (cV : Cl P w K mg base "_law_divisor" ["_law_one", "_law_other"] 1 spDivisor) (cT : Cl P w K mg base "_law_turned" ["_law_bag_here", "_law_many"] 2 spTurned) (cO : Cl P w K mg base "_law_turn_over" ["_law_bag_here", "_law_rows", "_law_size"] 2 spTO) :
    Cl P w K mg base "_law_table" ["_law_bag_here", "_law_size"] 3 (spTable K) := by
  refine D.ok scTable (fun vs H Q E h => ?_) (fun f cdv A outer s H vs Q E hr h => ?_)
  · obtain ⟨b, n, rfl, _⟩ := h
    rfl
  · obtain ⟨b, n, rfl, hb, hn0, hn1, k⟩ := h
    have hr1 : Room 1 _ := hr.mono (by decide)
    refine ⟨_, pss_cons (ps_set (i := 2) scTable.nd rfl (Or.inr rfl) (pe_cl cP hr (pa_cons (pv 0) (pa_cons (pe_lc (own := [("_law_own", 6)]) (g := gName 6) (tt := _) rfl scTable.nd (pi_range2 rfl T.range (pa_cons pe_int (pa_cons (pe_op op_add (pv 1) pe_int) pa_nil))) (blkOk_by (N := nTable) (sc := defScope sTable) (by decide +kernel)) (fun _ _ _ _ _ => pg_name (i := 6) scTable.nd rfl (Or.inl rfl)) (fun _ _ _ _ _ => pts_one (pt_cmpR op_eq (pe_cl cV hr1 (pa_cons (pv 6) (pa_cons (pv 1) pa_nil))) pe_int (nomark _))) (fun _ _ _ _ _ => pv 6)) pa_nil)))) (pss_cons (ps_set (i := 3) scTable.nd rfl (Or.inr rfl) (pe_lc (own := [("_law_turn", 5)]) (g := gName 5) (tt := tYes) rfl scTable.nd (pi_range1 rfl T.range (pa_cons pe_int pa_nil)) (blkOk_by (N := nTable) (sc := defScope sTable) (by decide +kernel)) (fun _ _ _ _ _ => pg_name (i := 5) scTable.nd rfl (Or.inl rfl)) (fun _ _ _ _ _ => pts_nil) (fun _ _ _ _ _ => pe_cl cT hr (pa_cons (pv 0) (pa_cons (pv 1) pa_nil))))) (pss_cons (ps_setLc (i := 4) (own := [("_law_x", 7)]) (g := gName 7) (tt := tYes) rfl scTable.nd rfl rfl (sw_true rfl rfl rfl (by decide +kernel)) (pi_range1 rfl T.range (pa_cons (pv 1) pa_nil)) (blkOk_by (N := nTable) (sc := defScope sTable) (by decide +kernel)) (fun _ _ _ _ _ => pg_name (i := 7) scTable.nd rfl (Or.inr rfl)) (fun _ _ _ _ _ => pts_nil) (fun _ _ _ _ _ => pe_lc (own := [("_law_y", 8)]) (g := gName 8) (tt := tYes) rfl scTable.nd (pi_range1 rfl T.range (pa_cons (pv 1) pa_nil)) (blkOk_by (N := nTable) (sc := bTable) (by decide +kernel)) (fun _ _ _ _ _ => pg_name (i := 8) scTable.nd rfl (Or.inl rfl)) (fun _ _ _ _ _ => pts_nil) (fun _ _ _ _ _ => pe_ix (ix_tupk K) (pe_ix (ix_listk K) (pv 3) pe_int (fun _ _ => rfl)) (pe_op op_mod (pe_callTy call_int1 (by rfl) T.int PyProof.Rows.boot_int (pa_cons (pe_op op_add (pe_ix (ix_tupk K) (pe_ix (ix_listk K) (pv 3) pe_int (fun _ _ => rfl)) (pv 7) (fun _ _ => rfl)) (pe_op op_mul (pv 2) (pe_ix (ix_tupk K) (pe_ix (ix_listk K) (pv 3) pe_int (fun _ _ => rfl)) (pv 8) (fun _ _ => rfl)))) pa_nil)) (pv 1)) (fun _ _ => rfl)))) (pss_cons (ps_for PassesOwn.never rfl (pi_range1 rfl T.range (pa_cons (pe_cl cD hr1 (pa_cons (pv 0) (pa_cons (pe_op op_mul pe_int (pv 1)) pa_nil))) pa_nil)) (pg_name (i := 5) scTable.nd rfl (Or.inl rfl)) (pss_one (ps_expr (pe_cl cO hr (pa_cons (pv 0) (pa_cons (pv 4) (pa_cons (pv 1) pa_nil))))))) (pss_one (ps_ret (pe_callTy call_tuple_of (by rfl) T.tuple PyProof.Rows.boot_tuple (pa_cons (pe_lc (own := [("_law_row", 9)]) (g := gName 9) (tt := tYes) rfl scTable.nd (pi_list (pv 4)) (blkOk_by (N := nTable) (sc := defScope sTable) (by decide +kernel)) (fun _ _ _ _ _ => pg_name (i := 9) scTable.nd rfl (Or.inl rfl)) (fun _ _ _ _ _ => pts_nil) (fun _ _ _ _ _ => pe_callTy (call_tuple_ofk K) (by rfl) T.tuple PyProof.Rows.boot_tuple (pa_cons (pv 9) pa_nil))) pa_nil))))))), ?_⟩
    -- the factor
    have en : (((n : Int) + 1) - 1).toNat = n := by omega
    refine ⟨_, rfl, _, rfl, _, _, rfl, rfl, _, _, rfl, ⟨by omega, by omega, by omega, by omega⟩, fun d hd => lc_range (lo := 1) (n := (((n : Int) + 1) - 1).toNat) (fun i H' => Fr S0 H H' ∧ H' d = some (.lst (((List.range i).filter fun j => decide (iv (divM 200 (1 + j) n) = V.int 1)).map fun j => iv (1 + j)))) ?_ ?_ ?_⟩
    · exact ⟨(Fr.refl _ _).new hd, upd_same⟩
    · rintro i H' hi ⟨f1, e1⟩
      have ee : ((1 : Int) + (i : Int)) = ((1 + i : Nat) : Int) := by omega
      rw [ee]
      refine ⟨rfl, _, rfl, _, rfl, 1 + i, n, rfl, rfl, _, rfl, ?_⟩
      exact lcStep (p := fun j => decide (iv (divM 200 (1 + j) n) = V.int 1)) (g := fun j => iv (1 + j)) i hd f1 e1 (by omega) (fun _ Q q => ⟨_, rfl, q⟩)
    · rintro H1 ⟨f1, e1⟩
      rw [en] at e1
      generalize hks : ((List.range n).filter fun j => decide (iv (divM 200 (1 + j) n) = V.int 1)) = ks at e1
      have hm : ∀ j ∈ ks, j < n ∧ divM 200 (1 + j) n = 1 := by
        intro j hj
        rw [← hks] at hj
        obtain ⟨h1, h2⟩ := List.mem_filter.mp hj
        refine ⟨List.mem_range.mp h1, ?_⟩
        have := V.int.inj (of_decide_eq_true h2)
        omega
      have h0 : 0 < ks.length := by
        refine List.length_pos_of_mem (a := 0) ?_
        rw [← hks]
        refine List.mem_filter.mpr ⟨List.mem_range.mpr (by omega), ?_⟩
        show decide (iv (divM 200 1 n) = V.int 1) = true
        rw [div_one n hn1 hn0]; rfl
      have hle : ks.length ≤ n := by
        rw [← hks]; exact Nat.le_trans (List.length_filter_le _ _) (by rw [List.length_range]; omega)
      have hb1 := hb.fr f1 (fun z => z)
      refine ⟨b, d, _, rfl, hb1, hb.ne hd, e1, by rw [List.length_map]; exact h0, by rw [List.length_map]; omega, fun ji v H2 hv f2 hb2 => ?_⟩
      obtain ⟨j, hj, rfl⟩ := List.mem_map.mp (List.mem_of_getElem? hv)
      obtain ⟨hjn, hdiv⟩ := hm j hj
      have f02 : Fr (S1 b) H H2 := (f1.mono fun a z => z.elim).trans f2
      -- the orders
      refine ⟨_, rfl, by decide, by decide, fun d2 hd2 => lc_range (lo := 0) (n := 3) (fun i H' => Fr (S1 b) H2 H' ∧ Bag H' b ∧ ∃ (os : List (List Nat)) (xs : List V), os.length = i ∧ (∀ o ∈ os, Prm n o) ∧ H' d2 = some (.lst xs) ∧ DTs K H' xs (os.map rowD)) ?_ ?_ ?_⟩
      · exact ⟨(Fr.refl _ _).new hd2, hb2.fr ((Fr.refl S0 _).new hd2) (fun z => z), [], [], rfl, by simp, upd_same, .nil⟩
      · rintro i H' hi ⟨f3, hb3, os, xs, h1, h2, h3, h4⟩
        refine ⟨rfl, _, rfl, _, rfl, b, n, rfl, hb3, by omega, fun o q H4 o1 o2 o3 hq1 hq2 f4 hb4 => ?_⟩
        have nd2 : d2 ≠ b := hb2.ne hd2
        have e4 := f4.keep _ _ h3 nd2
        have g5 : Fr (S1 d2) H4 (upd H4 d2 (.lst (xs ++ [.ref q]))) := (Fr.refl _ _).set rfl (lst_ne_tup e4)
        refine ⟨xs, e4, by rw [h4.len, List.length_map]; exact sz (by omega), (f3.trans f4).mut hd2, hb4.fr g5 (fun e => nd2 e.symm), os ++ [o], xs ++ [.ref q], by simp [h1], ?_, upd_same, ?_⟩
        · intro o' ho'
          rcases List.mem_append.mp ho' with ho' | ho'
          · exact h2 o' ho'
          · simp at ho'; subst ho'; exact ⟨o1, o2, o3⟩
        · rw [List.map_append]
          exact ((h4.fr f4).fr g5).append (.one (dt_row (g5.tup _ _ hq2)))
      · rintro H3 ⟨f3, hb3, os, xs, h1, h2, h3, h4⟩
        obtain ⟨o0, o1, o2, rfl⟩ : ∃ a b c, os = [a, b, c] := by
          match os, h1 with
          | [a, b, c], _ => exact ⟨a, b, c, rfl⟩
        have p0 := h2 o0 (by simp)
        have p1 := h2 o1 (by simp)
        have p2 := h2 o2 (by simp)
        obtain ⟨v0, a0, b0⟩ := h4.get (i := 0) (d := rowD o0) rfl
        obtain ⟨v1, a1, b1⟩ := h4.get (i := 1) (d := rowD o1) rfl
        obtain ⟨v2, a2, b2⟩ := h4.get (i := 2) (d := rowD o2) rfl
        obtain ⟨q0, rfl, t0⟩ := row_inv b0
        obtain ⟨q1, rfl, t1⟩ := row_inv b1
        obtain ⟨q2, rfl, t2⟩ := row_inv b2
        have f03 : Fr (S1 b) H H3 := f02.trans f3
        let cellF : Nat → Nat → Nat := fun x y => o2.getD ((o0.getD x 0 + (1 + j) * o1.getD y 0) % n) 0
        let rowF : Nat → List Nat := fun x => (List.range n).map (cellF x)
        -- the rows
        refine ⟨_, rfl, _, rfl, by omega, by omega, fun d3 hd3 => lc_range (lo := 0) (n := n) (fun i H' => Fr S0 H3 H' ∧ ∃ as : List Addr, as.length = i ∧ as.Nodup ∧ (∀ a ∈ as, H3 a = none ∧ a ≠ d3) ∧ H' d3 = some (.lst (as.map V.ref)) ∧ ∀ (kk : Nat) a, as[kk]? = some a → H' a = some (.lst (ivs (rowF kk)))) ?_ ?_ ?_⟩
        · exact ⟨(Fr.refl _ _).new hd3, [], rfl, List.nodup_nil, by simp, upd_same, fun kk a e => by simp at e⟩
        · rintro x H' hx ⟨f4, as, l1, l2, l3, l4, l5⟩
          have ex : ((0 : Int) + (x : Int)) = (x : Int) := by omega
          rw [ex]
          refine ⟨rfl, _, rfl, _, rfl, by omega, by omega, fun d4 hd4 => lc_range (lo := 0) (n := n) (fun i H'' => Fr S0 H' H'' ∧ H'' d4 = some (.lst (((List.range i).filter fun _ => true).map fun y => iv (cellF x y)))) ?_ ?_ ?_⟩
          · exact ⟨(Fr.refl _ _).new hd4, upd_same⟩
          · rintro y H'' hy ⟨f5, e5⟩
            have ey : ((0 : Int) + (y : Int)) = (y : Int) := by omega
            rw [ey]
            have f35 : Fr S0 H3 H'' := f4.trans f5
            have e3 := f35.keep _ _ h3 (fun z => z)
            have pp : (o0.getD x 0 + (1 + j) * o1.getD y 0) % n < n := Nat.mod_lt _ (by omega)
            refine ⟨rfl, ?_⟩
            dsimp only [tYes]
            refine lcStep (p := fun _ => true) (g := fun y => iv (cellF x y)) y hd4 f5 e5 (by omega) (fun _ Q q => ?_)
            refine ⟨_, rfl, d2, _, _, _, rfl, rfl, SqL.of e3, atI_nat (j := 2) a2, ?_⟩
            refine ⟨_, rfl, d2, _, _, _, rfl, rfl, SqL.of e3, atI_nat (j := 0) a0, _, rfl, q0, _, _, _, rfl, rfl, (t0.fr f35).sq, atI_nat (ivs_at (by rw [p0.1]; exact hx)), ?_⟩
            refine ⟨_, rfl, _, rfl, d2, _, _, _, rfl, rfl, SqL.of e3, atI_nat (j := 1) a1, _, rfl, q1, _, _, _, rfl, rfl, (t1.fr f35).sq, atI_nat (ivs_at (by rw [p1.1]; exact hy)), ?_⟩
            refine ⟨_, _, rfl, rfl, .inl ⟨by omega, by omega⟩, _, _, rfl, rfl, .inl ⟨_, rfl, _, rfl, _, _, rfl, rfl, (by show (0 : Int) < (n : Int); omega), ?_⟩⟩
            refine ⟨q2, _, _, _, rfl, rfl, (t2.fr f35).sq, at_of (j := (o0.getD x 0 + (1 + j) * o1.getD y 0) % n) (by push_cast; rfl) (ivs_at (by rw [p2.1]; exact pp)), q⟩
          · rintro H'' ⟨f5, e5⟩
            have e4 := f5.keep _ _ l4 (fun z => z)
            have e5' : H'' d4 = some (.lst (ivs (rowF x))) := by
              rw [e5]
              simp [rowF, ivs, List.filter_eq_self.mpr]
            have n4 : H3 d4 = none := f4.free hd4
            have nd4 : d4 ≠ d3 := (ne_of_none l4 hd4).symm
            refine ⟨as.map V.ref, e4, by rw [List.length_map]; exact sz (by omega), (f4.trans f5).mut hd3, as ++ [d4], by simp [l1], ?_, ?_, by rw [upd_same]; simp, ?_⟩
            · rw [List.nodup_append]
              refine ⟨l2, by simp, ?_⟩
              intro a ha a' ha' q
              simp at ha'; subst ha'; subst q
              obtain ⟨i1, hi1, e6⟩ := List.getElem_of_mem ha
              have := l5 i1 _ (List.getElem?_eq_getElem hi1)
              rw [e6, hd4] at this; cases this
            · intro a ha
              rcases List.mem_append.mp ha with ha | ha
              · exact l3 a ha
              · simp at ha; subst ha; exact ⟨n4, nd4⟩
            · intro kk a e
              rcases Nat.lt_trichotomy kk as.length with q | q | q
              · rw [List.getElem?_append_left q] at e
                rw [upd_ne (l3 a (List.mem_of_getElem? e)).2]
                exact f5.keep _ _ (l5 kk a e) (fun z => z)
              · subst q
                rw [List.getElem?_append_right (Nat.le_refl _)] at e
                simp at e; subst e
                rw [upd_ne nd4, l1]; exact e5'
              · rw [List.getElem?_eq_none (by simp; omega)] at e; cases e
        · rintro H4 ⟨f4, as, l1, l2, l3, l4, l5⟩
          have Lat : Latin n ((List.range n).map rowF) := sums_latin p0 p1 p2 fun x y hx hy e => div_ok n hn1 (1 + j) (by omega) hdiv x hx y hy e
          have f04 : Fr (S1 b) H H4 := f03.trans (f4.mono fun a z => z.elim)
          have hb4 := hb3.fr f4 (fun z => z)
          have M4 : Mat H4 d3 as ((List.range n).map rowF) := ⟨l4, fun kk a e => by
            have hk : kk < n := by rw [← l1]; exact (List.getElem?_eq_some_iff.mp e).1
            rw [l5 kk a e, List.getD, List.getElem?_map, List.getElem?_range hk]; rfl, l2, by simp [l1], fun h => (l3 d3 h).2 rfl⟩
          have n3 : H d3 = none := (hb3.freeB f03 hd3)
          have nas : ∀ a ∈ as, H a = none := fun a ha => hb3.freeB f03 (l3 a ha).1
          have bd3 : b ≠ d3 := (hb.ne n3).symm
          have bas : b ∉ as := fun h => by
            obtain ⟨o, e⟩ := hb.some
            rw [nas b h] at e; cases e
          -- turning over
          refine ⟨_, rfl, _, rfl, _, _, rfl, rfl, .inl ⟨by decide, by decide⟩, b, 2 * n, by simp, hb4, by omega, by omega, fun m H5 hm f5 hb5 => ?_⟩
          have M5 : Mat H5 d3 as ((List.range n).map rowF) := M4.fr f5 (fun e => bd3 e.symm) (fun a ha e => bas (by rw [← e]; exact ha))
          refine ⟨_, rfl, by omega, by omega, for_range (lo := 0) (n := m) (fun i σ H' => ∃ (R : List (List Nat)) (v : Option V), σ = [some (.ref b), some (iv n), some (iv (1 + j)), some (.ref d2), some (.ref d3), v, none, none, none, none] ∧ Latin n R ∧ Mat H' d3 as R ∧ Fr (S1 b) H H' ∧ Bag H' b) ?_ ?_ ?_⟩
          · exact ⟨_, none, rfl, Lat, M5, f04.trans f5, hb5⟩
          · rintro i σ H' hi ⟨R, v, rfl, LR, MR, fr, hbr⟩
            refine ⟨_, rfl, _, rfl, _, rfl, b, d3, n, as, R, rfl, hbr, bd3, bas, MR, LR, by omega, by omega, fun R' H'' LR' MR' f6 hb6 => ?_⟩
            exact ⟨R', _, rfl, LR', MR', fr.step f6 (fun a e => e.elim .inr fun h => .inl (nas a h)), hb6⟩
          · rintro σ H6 ⟨R, v, rfl, LR, MR, fr, hbr⟩
            -- the tuples
            refine ⟨_, rfl, d3, rfl, ⟨_, SqL.of MR.top⟩, fun d5 hd5 => lc_list (K := K) (a := d3) (xs := as.map V.ref) (fun i H' => Fr S0 H6 H' ∧ ∃ xs : List V, xs.length = i ∧ H' d5 = some (.lst xs) ∧ DTs K H' xs ((R.take i).map rowD)) ?_ ?_ ?_ ?_⟩
            · exact ⟨(Fr.refl _ _).new hd5, [], rfl, upd_same, .nil⟩
            · rintro i H' _ ⟨f7, _⟩
              exact SqL.of (f7.keep _ _ MR.top (fun z => z))
            · rintro i x H' hx ⟨f7, xs7, e1, e2, e3⟩
              have hia : i < as.length := by have := (List.getElem?_eq_some_iff.mp hx).1; simpa using this
              have hxe : x = .ref as[i] := by rw [refs_at hia] at hx; exact (Option.some.inj hx).symm
              subst hxe
              have er := f7.keep _ _ (MR.rows i _ (List.getElem?_eq_getElem hia)) (fun z => z)
              refine ⟨rfl, _, rfl, as[i], _, rfl, .inl ⟨SqL.of er, fun q hq => ?_⟩⟩
              have e2' := ((Fr.refl S0 H').new (o := .tup (ivs (R.getD i []))) hq).keep _ _ e2 (fun z => z)
              have g8 : Fr (S1 d5) H' (upd (upd H' q (.tup (ivs (R.getD i [])))) d5 (.lst (xs7 ++ [.ref q]))) := ((Fr.refl (S1 d5) H').new hq).set rfl (lst_ne_tup e2')
              have nq : q ≠ d5 := (ne_of_none e2 hq).symm
              refine ⟨xs7, e2', by rw [e1]; exact sz (by omega), (f7.new hq).mut hd5, xs7 ++ [.ref q], by simp [e1], upd_same, ?_⟩
              have iR : i < R.length := by rw [← MR.len]; exact hia
              rw [List.take_succ, List.getElem?_eq_getElem iR, List.map_append]
              refine (e3.fr g8).append (.one ?_)
              rw [← getD_lt (d := []) iR]
              exact dt_row (by rw [upd_ne nq]; exact upd_same)
            · rintro H7 ⟨f7, xs7, e1, e2, e3⟩
              refine ⟨d5, _, rfl, .inl ⟨SqL.of e2, fun q hq => ?_⟩⟩
              have lR : R.take (as.map V.ref).length = R := by rw [List.length_map, MR.len]; exact List.take_length
              rw [lR] at e3
              have g8 : Fr S0 H7 (upd H7 q (.tup xs7)) := (Fr.refl _ _).new hq
              exact k R _ _ LR (.tup (.of upd_same) (e3.fr g8)) ((fr.trans (f7.mono fun a z => z.elim)).new hq) ((hbr.fr f7 (fun z => z)).fr g8 (fun z => z))
end
end K12
set_option linter.all false
set_option maxRecDepth 100000
set_option maxHeartbeats 1600000
/-! K12w5: len(set(..)) of numbers, what a formula tells in a table, small tables. -/
namespace K12
open PySem PySem.Spec PyProof.Rows L2
/-- how many unlike numbers -/
def uniq (ns : List Int) : Nat := (PySem.W.ossOf ns).length
theorem uniq_nodup {ns : List Int} (h : ns.Nodup) : uniq ns = ns.length := by
  unfold uniq
  rw [← PySem.W.oss_met, L2.firstMet_nodup ns h ns.length (Nat.le_refl _), List.take_length]
/-- len(set(a)), a a list of ints or a tuple of unlike ints -/
def tLenSetA (K : PySem.W.Frag) (ta : TE) : TE := fun σ H Q => ta σ H fun x H1 => ∃ (l : Addr) (ns : List Int), x = V.ref l ∧ ns.length < 64 ∧ ((SqL K H1 l (ns.map V.int) ∧ Q (.int (uniq ns : Nat)) H1) ∨ (SqT K H1 l (ns.map V.int) ∧ ns.Nodup ∧ Q (.int (ns.length : Nat)) H1))
section
variable {X : Cx}
theorem pe_lenSetA {a : Expr} {ta : TE} {p p2 q pos : Pos} (K : PySem.W.Frag) (hc : X.calm = true) (hg : Gl X "len") (hm : X.mg "len" = none) (hg2 : Gl X "set") (hm2 : X.mg "set" = none) (ha : PE X a ta)
    (na : starEach [a] X.env = (false, eval a X.env) :: starEach [] X.env := by rfl) (hK : X.K = K := by rfl) : PE X (.Call (.Name "len" p) [.Call (.Name "set" p2) [a] [] q] [] pos) (tLenSetA K ta) := by
  subst hK
  refine ⟨fun pins s σ H Q I h => ?_⟩
  refine Call_ (ld_blt I hg hm PySem.boot_len ?_)
  refine PyProof.Rows.callWith_builtin1 (PyProof.Rows.args_cons ?_ rfl) rfl rfl
  refine Call_ (ld_blt I hg2 hm2 PyProof.Rows.boot_set ?_)
  refine PyProof.Rows.callWith_type1 (PyProof.Rows.args_cons (thn (ha.run pins s σ H _ I h) fun v s1 ⟨x, H1, I1, r1, q1⟩ => PyProof.Rows.args_nil ?_) na) na rfl
  obtain ⟨l, ns, rfl, h1, ⟨hq, q1⟩ | ⟨hq, hnd, q1⟩⟩ := q1
  · cases r1
    obtain ⟨its, r, pl, hz⟩ := I1.list hq
    have hl : its.toArray.size = ns.length := by rw [List.size_toArray, ← r.length, List.length_map]
    refine call_set_list (I1.ok.hd hc) pl.isList (ns := ns) (by simpa using r.ints) (by unfold scanBound; omega) fun h' tk hS hk => ?_
    rw [hl, PySem.W.oss_met] at hS
    refine PyProof.Rows.args_nil ?_
    obtain ⟨o, es, ep, t, ho, hex, hd, _, _, _, hf, hn⟩ := hS
    have I2 : Inv X pins σ H1 { s1 with heap := h', toks := tk } := I1.kept fun b o e => hk b o (Heap.lt_size e) e
    have hle := PySem.W.oss_len ns
    refine call_len_set ho hex hd hf (by rw [hn] <;> omega) ⟨.int (uniq ns : Nat), H1, I2.tok _, ⟨_, by rw [hn] <;> rfl⟩, q1⟩
  · cases r1
    obtain ⟨its, r, pt, hz⟩ := I1.tuple hq
    have hi : IntsAre its.toArray.toList ns := by simpa using r.ints
    refine call_set_tupI ns (I1.ok.hd hc) (show s1.heap.IsTuple l its.toArray from pt) hi (by unfold scanBound; omega) fun h' tk c R1 hcn hk => ?_
    refine PyProof.Rows.args_nil ?_
    obtain ⟨o, es, ep, t, ho, hex, hd, g, nd, hm3, hb, hf, hn, hr, hl2⟩ := R1
    have I2 : Inv X pins σ H1 { s1 with heap := h', toks := tk } := I1.kept hk
    have e1 : es.size = ns.length := by
      have a1 : (es.toList.map keyOf).length ≤ ns.length := by
        refine nodup_len nd fun x hx => ?_
        have := (hm3 x).mpr hx
        simpa using this
      have a2 : ns.length ≤ (es.toList.map keyOf).length := nodup_len hnd fun x hx => (hm3 x).mp (by simpa using hx)
      simp only [List.length_map, Array.length_toList] at a1 a2
      omega
    refine call_len_set ho hex hd hf (by rw [e1]; omega) ⟨.int (ns.length : Nat), H1, I2.tok _, ⟨_, by rw [e1] <;> rfl⟩, q1⟩
end
theorem uniq3 {a b c : Int} (h : ¬ uniq [a, b, c] < 3) : a ≠ b ∧ a ≠ c ∧ b ≠ c := by
  refine ⟨fun q => h ?_, fun q => h ?_, fun q => h ?_⟩
  all_goals
    subst q
    unfold uniq PySem.W.ossOf
    simp only [List.foldl, PyProof.Rows.step_dedup]
    simp
    repeat' (first | split | simp)
    all_goals simp_all
/-! ### what a formula tells -/
theorem dec_iv (a b : Nat) : decide (iv a = iv b) = (a == b) := by
  by_cases h : a = b
  · subst h; simp
  · rw [decide_eq_false fun q => h (by have := V.int.inj q; omega)]
    simp [h]
def spValue (K : PySem.W.Frag) (d0 : Nat) : Sp := fun vs H Q _ => ∃ (tb tq v : V) (n : Nat) (T : List (List Nat)) (th : List Nat) (f : Fm), vs = [tb, tq, v] ∧ f.depth < d0 ∧ DT K H tb (tabD T) ∧ DT K H tq (rowD th) ∧ DT K H v (fmD f) ∧
  Latin n T ∧ 0 < n ∧ n ≤ 100 ∧ (∀ x ∈ th, x < n) ∧ f.bel th.length ∧ ∀ H', Fr S0 H H' → Q (iv (valM n T th f)) H'
abbrev sValue : Stmt := top 67
abbrev psValue : List Str := ["_law_table_here", "_law_things_here", "_law_formula_here"]
abbrev nValue : List Str := ["_law_table_here", "_law_things_here", "_law_formula_here", "_law_word", "_law_one", "_law_other", "_law_first", "_law_second", "_law_k"]
theorem scValue : FnScope nValue psValue (defScope sValue) := ⟨rfl, rfl, rfl, by decide +kernel, rfl, by decide +kernel, by decide +kernel⟩
theorem val_lt {n : Nat} {T : List (List Nat)} {th : List Nat} (L : Latin n T) (hth : ∀ x ∈ th, x < n) : ∀ f : Fm, f.bel th.length → valM n T th f < n
  | .nm k, h => hth _ (getD_mem h)
  | .ap w a b, h => (op_hold L w (val_lt L hth a h.1) (val_lt L hth b h.2)).1
theorem first_of {n : Nat} {p : Nat → Bool} (h : ∃ k, k < n ∧ p k = true) : ∃ rest, (List.range n).filter p = firstK n p :: rest := by
  obtain ⟨k, hk, hp⟩ := h
  unfold firstK
  cases e : (List.range n).filter p with
  | nil =>
    have : k ∈ (List.range n).filter p := List.mem_filter.mpr ⟨List.mem_range.mpr hk, hp⟩
    rw [e] at this; cases this
  | cons a l => exact ⟨l, rfl⟩
section
variable {P : Program} {w : World} {K : PySem.W.Frag} {mg : Str → Option Value} {base : Heap}
theorem ok_value (D : Df K mg "_law_value" sValue psValue) (T : Bi mg) : ∀ d0, Cl P w K mg base "_law_value" psValue (d0 + 1) (spValue K d0) := by
  intro d0
  induction d0 with
  | zero =>
    refine D.ok scValue (fun vs H Q E h => ?_) (fun f cdv A outer s H vs Q E hr h => ?_)
    · obtain ⟨_, _, _, _, _, _, _, _, h, _⟩ := h; omega
    · obtain ⟨_, _, _, _, _, _, _, _, h, _⟩ := h; omega
  | succ d0 cV =>
    refine D.ok scValue (fun vs H Q E h => ?_) (fun f cdv A outer s H vs Q E hr h => ?_)
    · obtain ⟨tb, tq, v, n, T, th, f, rfl, _⟩ := h
      rfl
    · obtain ⟨tb, tq, v, n, T0, th, f, rfl, hd, htb, htq, hv, L, hn0, hn1, hth, hf, k⟩ := h
      refine ⟨_, pss_cons (ps_if (pt_val (pe_callB call_isi (by rfl) T.isinstance PyProof.Rows.boot_isinstance (pa_cons (pv 2) (pa_cons (pe_bltn (v := .ty "int") (by rfl) T.int PyProof.Rows.boot_int rfl) pa_nil)))) (pss_one (ps_ret (pe_ix ix_tup (pv 1) (pv 2) (fun _ _ => rfl)))) pss_nil) (pss_cons (ps_asg (pv 2) (pg_tup (by rfl) (pgs_cons (pg_name (i := 3) scValue.nd rfl (Or.inl rfl)) (pgs_cons (pg_name (i := 4) scValue.nd rfl (Or.inl rfl)) (pgs_cons (pg_name (i := 5) scValue.nd rfl (Or.inl rfl)) pgs_nil))))) (pss_cons (ps_asg (pe_tup (pa_cons (pe_cl cV hr (pa_cons (pv 0) (pa_cons (pv 1) (pa_cons (pv 4) pa_nil)))) (pa_cons (pe_cl cV hr (pa_cons (pv 0) (pa_cons (pv 1) (pa_cons (pv 5) pa_nil)))) pa_nil))) (pg_tup (by rfl) (pgs_cons (pg_name (i := 6) scValue.nd rfl (Or.inr rfl)) (pgs_cons (pg_name (i := 7) scValue.nd rfl (Or.inr rfl)) pgs_nil)))) (pss_cons (ps_if (pt_cmpR op_eq (pv 3) pe_str (nomark _)) (pss_one (ps_ret (pe_ix ix_tup (pe_ix ix_tup (pv 0) (pv 6) (fun _ _ => rfl)) (pv 7) (fun _ _ => rfl)))) pss_nil) (pss_cons (ps_if (pt_cmpR op_eq (pv 3) pe_str (nomark _)) (pss_one (ps_ret (pe_ix ix_list (pe_lc (own := [("_law_k", 8)]) (g := gName 8) (tt := _) rfl scValue.nd (pi_range1 rfl T.range (pa_cons (pe_callB call_len_seq (by rfl) T.len PySem.boot_len (pa_cons (pv 0) pa_nil)) pa_nil)) (blkOk_by (N := nValue) (sc := defScope sValue) (by decide +kernel)) (fun _ _ _ _ _ => pg_name (i := 8) scValue.nd rfl (Or.inl rfl)) (fun _ _ _ _ _ => pts_one (pt_cmpR op_eq (pe_ix (ix_tupk K) (pe_ix (ix_tupk K) (pv 0) (pv 6) (fun _ _ => rfl)) (pv 8) (fun _ _ => rfl)) (pv 7) (nomark _))) (fun _ _ _ _ _ => pv 8)) pe_int (fun _ _ => rfl)))) pss_nil) (pss_one (ps_ret (pe_ix ix_list (pe_lc (own := [("_law_k", 8)]) (g := gName 8) (tt := _) rfl scValue.nd (pi_range1 rfl T.range (pa_cons (pe_callB call_len_seq (by rfl) T.len PySem.boot_len (pa_cons (pv 0) pa_nil)) pa_nil)) (blkOk_by (N := nValue) (sc := defScope sValue) (by decide +kernel)) (fun _ _ _ _ _ => pg_name (i := 8) scValue.nd rfl (Or.inl rfl)) (fun _ _ _ _ _ => pts_one (pt_cmpR op_eq (pe_ix (ix_tupk K) (pe_ix (ix_tupk K) (pv 0) (pv 8) (fun _ _ => rfl)) (pv 6) (fun _ _ => rfl)) (pv 7) (nomark _))) (fun _ _ _ _ _ => pv 8)) pe_int (fun _ _ => rfl)))))))), ?_⟩
      obtain ⟨t, ty, kt⟩ := isi_int hv
      refine ⟨_, rfl, _, _, t, _, _, rfl, .ty _, ty, kt, _, rfl, ?_⟩
      obtain ⟨qp, rfl, tqp⟩ := row_inv htq
      cases f with
      | nm m =>
        refine iteT ?_
        have := hv.int_inv; subst this
        exact ⟨_, rfl, _, rfl, qp, _, _, _, rfl, rfl, tqp.sq, atI_nat (ivs_at (show m < th.length from hf)), k H (Fr.refl _ _)⟩
      | ap u a c =>
        refine iteF ?_
        obtain ⟨p, va, vc, rfl, ht, ha, hc⟩ := fm_parts hv
        obtain ⟨pt, xs, rfl, tpt, lpt, cpt⟩ := tab_inv htb
        simp only [Fm.depth] at hd
        refine ⟨_, rfl, p, _, rfl, ht.sq, rfl, _, _, rfl, _, _, rfl, _, _, rfl, rfl, ?_⟩
        refine ⟨_, rfl, _, rfl, _, rfl, _, _, _, n, T0, th, a, rfl, by omega, htb, htq, ha, L, hn0, hn1, hth, hf.1, fun H1 f1 => ?_⟩
        refine ⟨_, rfl, _, rfl, _, rfl, _, _, _, n, T0, th, c, rfl, by omega, htb.fr f1, htq.fr f1, hc.fr f1, L, hn0, hn1, hth, hf.2, fun H2 f2 => ?_⟩
        have la := val_lt L hth a hf.1
        have lc := val_lt L hth c hf.2
        refine ⟨by show 2 ≤ sizeLine; decide, fun q hq => ⟨q, _, rfl, SqT.of upd_same, rfl, _, _, rfl, _, _, rfl, rfl, ?_⟩⟩
        have f03 : Fr S0 H (upd H2 q (.tup [iv (valM n T0 th a), iv (valM n T0 th c)])) := (f1.trans f2).new hq
        generalize upd H2 q (.tup [iv (valM n T0 th a), iv (valM n T0 th c)]) = H3 at f03
        generalize ex : valM n T0 th a = x at la
        generalize ey : valM n T0 th c = y at lc
        have ev : valM n T0 th (.ap u a c) = opM n T0 u x y := by simp only [valM, ex, ey]
        rw [ev] at k
        have lxs : xs.length = n := by rw [lpt, L.len]
        have lT : ∀ i, i < n → i < T0.length := fun i hi => by rw [L.len]; exact hi
        obtain ⟨rq, rx1, rx2⟩ := cpt x (lT x la)
        obtain ⟨r1, r2, r3⟩ := L.rowOf la
        refine ⟨_, rfl, rfl, _, rfl, ?_⟩
        cases u with
        | wi =>
          refine iteT ?_
          exact ⟨_, rfl, _, rfl, pt, _, _, _, rfl, rfl, (tpt.fr f03).sq, atI_nat rx1, _, rfl, rq, _, _, _, rfl, rfl, (rx2.fr f03).sq, atI_nat (ivs_at (by rw [r1]; exact lc)), k H3 f03⟩
        | be =>
          have e1 : decide (V.str (wS .be) = V.str "with") = false := by decide +kernel
          rw [e1]
          refine iteF ⟨_, rfl, rfl, _, rfl, ?_⟩
          refine iteT ?_
          refine ⟨_, rfl, pt, _, rfl, .inr (tpt.fr f03).sq, _, rfl, by omega, by omega, fun d hd => lc_range (lo := 0) (n := xs.length) (fun i H' => Fr S0 H3 H' ∧ H' d = some (.lst (((List.range i).filter fun k => decide (iv ((T0.getD x []).getD k 0) = iv y)).map iv))) ?_ ?_ ?_⟩
          · exact ⟨(Fr.refl _ _).new hd, upd_same⟩
          · rintro i H' hi ⟨f4, e4⟩
            have ee : ((0 : Int) + (i : Int)) = (i : Int) := by omega
            rw [ee]
            have f04 := f03.trans f4
            refine ⟨rfl, _, rfl, _, rfl, pt, _, _, _, rfl, rfl, (tpt.fr f04).sq, atI_nat rx1, _, rfl, rq, _, _, _, rfl, rfl, (rx2.fr f04).sq, atI_nat (ivs_at (by rw [r1]; omega)), _, rfl, rfl, _, rfl, ?_⟩
            exact lcStep (p := fun k => decide (iv ((T0.getD x []).getD k 0) = iv y)) (g := iv) i hd f4 e4 (by omega) (fun _ Q q => ⟨_, rfl, q⟩)
          · rintro H4 ⟨f4, e4⟩
            obtain ⟨j, hj, ej⟩ := L.row_ex la lc
            have hp : (fun k => decide (iv ((T0.getD x []).getD k 0) = iv y)) = fun k => cell T0 x k == y := by funext k; exact dec_iv _ _
            obtain ⟨rest, hl⟩ := first_of (n := n) (p := fun k => cell T0 x k == y) ⟨j, hj, by simp [ej]⟩
            rw [hp, lpt, L.len, hl] at e4
            exact ⟨d, _, _, _, rfl, rfl, SqL.of e4, atI_nat (j := 0) rfl, k H4 (f03.trans f4)⟩
        | ah =>
          have e1 : decide (V.str (wS .ah) = V.str "with") = false := by decide +kernel
          rw [e1]
          refine iteF ⟨_, rfl, rfl, _, rfl, ?_⟩
          have e2 : decide (V.str (wS .ah) = V.str "behind") = false := by decide +kernel
          rw [e2]
          refine iteF ?_
          refine ⟨_, rfl, pt, _, rfl, .inr (tpt.fr f03).sq, _, rfl, by omega, by omega, fun d hd => lc_range (lo := 0) (n := xs.length) (fun i H' => Fr S0 H3 H' ∧ H' d = some (.lst (((List.range i).filter fun k => decide (iv ((T0.getD k []).getD x 0) = iv y)).map iv))) ?_ ?_ ?_⟩
          · exact ⟨(Fr.refl _ _).new hd, upd_same⟩
          · rintro i H' hi ⟨f4, e4⟩
            have ee : ((0 : Int) + (i : Int)) = (i : Int) := by omega
            rw [ee]
            have f04 := f03.trans f4
            have hi' : i < n := by rw [← L.len, ← lpt]; exact hi
            obtain ⟨rk, k1, k2⟩ := cpt i (lT i hi')
            obtain ⟨s1, s2, s3⟩ := L.rowOf hi'
            refine ⟨rfl, _, rfl, _, rfl, pt, _, _, _, rfl, rfl, (tpt.fr f04).sq, atI_nat k1, _, rfl, rk, _, _, _, rfl, rfl, (k2.fr f04).sq, atI_nat (ivs_at (by rw [s1]; exact la)), _, rfl, rfl, _, rfl, ?_⟩
            exact lcStep (p := fun k => decide (iv ((T0.getD k []).getD x 0) = iv y)) (g := iv) i hd f4 e4 (by omega) (fun _ Q q => ⟨_, rfl, q⟩)
          · rintro H4 ⟨f4, e4⟩
            obtain ⟨j, hj, ej⟩ := L.col_ex la lc
            have hp : (fun k => decide (iv ((T0.getD k []).getD x 0) = iv y)) = fun k => cell T0 k x == y := by funext k; exact dec_iv _ _
            obtain ⟨rest, hl⟩ := first_of (n := n) (p := fun k => cell T0 k x == y) ⟨j, hj, by simp [ej]⟩
            rw [hp, lpt, L.len, hl] at e4
            exact ⟨d, _, _, _, rfl, rfl, SqL.of e4, atI_nat (j := 0) rfl, k H4 (f03.trans f4)⟩
end
end K12
set_option linter.all false
set_option maxRecDepth 100000
set_option maxHeartbeats 1600000
/-! K12w6: small tables, placings. -/
namespace K12
open PySem PySem.Spec PyProof.Rows L2
/-- t + u, u not empty -/
def rCatE (K : PySem.W.Frag) : R2 := fun x y H Q => ∃ a b xs ys, x = .ref a ∧ y = .ref b ∧ SqT K H a xs ∧ SqT K H b ys ∧ ys ≠ [] ∧ xs.length + ys.length ≤ sizeLine ∧
  (xs = [] → Q (.ref b) H) ∧ (xs ≠ [] → ∀ p, H p = none → Q (.ref p) (upd H p (.tup (xs ++ ys))))
theorem op_catE {X : Cx} (K : PySem.W.Frag) (hK : X.K = K := by rfl) : OpR X (binaryOp .Add) (rCatE K) := by
  subst hK
  intro pins s σ H x y v u Q I rx ry h
  obtain ⟨a, b, xs, ys, rfl, rfl, ha, hb, hx, hz, q1, q2⟩ := h
  cases rx
  cases ry
  obtain ⟨its, r1, p1, _⟩ := I.tuple ha
  obtain ⟨its2, r2, p2, _⟩ := I.tuple hb
  by_cases hv : its = []
  · obtain ⟨⟨cls, dd, data, sl⟩, ho, hc, n, hd⟩ := id p1
    obtain ⟨⟨cls2, dd2, data2, sl2⟩, ho2, hc2, n2, hd2⟩ := id p2
    simp only at hc hd hc2 hd2
    subst hc hd hc2 hd2
    exact concat_meets ⟨_, ho, rfl⟩ ⟨_, ho2, rfl⟩ noFill_tuple_add seq_tuple_add PySem.F.slot_tuple_add PySem.F.entry_tuple_add (PySem.F.args_tuple_add_2 _ _)
      (tuple_addW0 a b its.toArray its2.toArray n n2 dd dd2 sl sl2 (by simp [hv])) ⟨ho, ho2, ⟨.ref b, H, I, rfl, q1 (r1.nil_iff.mp hv)⟩⟩
  · refine HT.cat_tup p1 p2 hv (fun z => absurd (r2.nil_iff.mp z) hx) (fun z => ?_) (by rw [← r1.length, ← r2.length]; exact hz)
    refine ⟨.ref s.heap.objs.size, _, I.laid (t' := s.toks) (o := .tup (xs ++ ys)) (fun b ob q => Heap.get?_push_of_some _ q) (Nat.le_refl _) ?_, rfl, q2 (fun w => hv (r1.nil_iff.mpr w)) _ (I.hok.fresh (Nat.le_refl _))⟩
    exact ⟨by rw [List.length_append]; exact hz, _, r1.append r2, IsTup.new _ _⟩
/-! ### tables of one, two, three things -/
def perms3 : List (List Nat) := [[0, 1, 2], [1, 2, 0], [2, 0, 1], [0, 2, 1], [2, 1, 0], [1, 0, 2]]
theorem perms3_ok : ∀ r ∈ perms3, Prm 3 r := by
  intro r hr
  simp only [perms3, List.mem_cons, List.not_mem_nil, or_false] at hr
  rcases hr with rfl | rfl | rfl | rfl | rfl | rfl <;> exact ⟨rfl, by decide, by decide⟩
theorem latin1 : Latin 1 [[0]] := ⟨rfl, by intro r hr; simp at hr; subst hr; exact ⟨rfl, by decide, by decide⟩, by intro i i' j hi hi' hj _; omega⟩
theorem latin2a : Latin 2 [[0, 1], [1, 0]] := by
  refine ⟨rfl, ?_, ?_⟩
  · intro r hr; simp at hr; rcases hr with rfl | rfl <;> exact ⟨rfl, by decide, by decide⟩
  · have : ∀ i, i < 2 → ∀ i', i' < 2 → ∀ j, j < 2 → cell [[0, 1], [1, 0]] i j = cell [[0, 1], [1, 0]] i' j → i = i' := by decide
    exact fun i i' j hi hi' hj e => this i hi i' hi' j hj e
theorem latin2b : Latin 2 [[1, 0], [0, 1]] := by
  refine ⟨rfl, ?_, ?_⟩
  · intro r hr; simp at hr; rcases hr with rfl | rfl <;> exact ⟨rfl, by decide, by decide⟩
  · have : ∀ i, i < 2 → ∀ i', i' < 2 → ∀ j, j < 2 → cell [[1, 0], [0, 1]] i j = cell [[1, 0], [0, 1]] i' j → i = i' := by decide
    exact fun i i' j hi hi' hj e => this i hi i' hi' j hj e
theorem latin3 {a b c : List Nat} (pa : Prm 3 a) (pb : Prm 3 b) (pc : Prm 3 c) (h : ∀ k, k < 3 → a.getD k 0 ≠ b.getD k 0 ∧ a.getD k 0 ≠ c.getD k 0 ∧ b.getD k 0 ≠ c.getD k 0) : Latin 3 [a, b, c] := by
  refine ⟨rfl, ?_, ?_⟩
  · intro r hr
    simp only [List.mem_cons, List.not_mem_nil, or_false] at hr
    rcases hr with rfl | rfl | rfl
    · exact pa
    · exact pb
    · exact pc
  · intro i i' j hi hi' hj e
    obtain ⟨h1, h2, h3⟩ := h j hj
    have c0 : cell [a, b, c] 0 j = a.getD j 0 := rfl
    have c1 : cell [a, b, c] 1 j = b.getD j 0 := rfl
    have c2 : cell [a, b, c] 2 j = c.getD j 0 := rfl
    rcases (by omega : i = 0 ∨ i = 1 ∨ i = 2) with rfl | rfl | rfl <;> rcases (by omega : i' = 0 ∨ i' = 1 ∨ i' = 2) with rfl | rfl | rfl
    all_goals first
      | rfl
      | (simp only [c0, c1, c2] at e; exact absurd e (by assumption))
      | (simp only [c0, c1, c2] at e; exact absurd e.symm (by assumption))
theorem eqv_nil (xs : List PyData) : PyData.eqv (.list xs) (.list []) = xs.isEmpty := by
  cases xs <;> simp [PyData.eqv, PyData.eqvAll]
theorem canLay_ints : ∀ ns : List Nat, PyData.canLayAll0 (ns.map fun x : Nat => PyData.int (x : Int)) = true
  | [] => by simp [PyData.canLayAll0]
  | n :: ns => by simp only [List.map, PyData.canLayAll0, PyData.canLay0, canLay_ints ns, Bool.and_self]
theorem depth_ints : ∀ ns : List Nat, PyData.depthAll (ns.map fun x : Nat => PyData.int (x : Int)) = 0
  | [] => by simp [PyData.depthAll]
  | n :: ns => by simp only [List.map, PyData.depthAll, PyData.depth, depth_ints ns, Nat.max_self]
theorem shaped_ints (ns : List Nat) : SeqAt.shaped (.list (ns.map fun x : Nat => PyData.int (x : Int))) = true := by
  unfold SeqAt.shaped
  simp only [PyData.canLay0, canLay_ints, PyData.depth, depth_ints, Bool.true_and]
  decide
theorem shaped_nil : SeqAt.shaped (.list []) = true := shaped_ints []
theorem strOk_w (w : W) : PyData.strOk (wS w) = true := by cases w <;> decide +kernel
theorem canLay_fm : ∀ f : Fm, (fmD f).canLay0 = true
  | .nm n => by simp only [fmD, PyData.canLay0]
  | .ap w a b => by
    have h1 := canLay_fm a
    have h2 := canLay_fm b
    simp only [fmD, PyData.canLay0, PyData.canLayAll0, h1, h2, strOk_w, Bool.and_self]
theorem depth_fm : ∀ f : Fm, (fmD f).depth = f.depth
  | .nm n => by simp only [fmD, PyData.depth, Fm.depth]
  | .ap w a b => by
    have h1 := depth_fm a
    have h2 := depth_fm b
    simp only [fmD, PyData.depth, PyData.depthAll, h1, h2, Fm.depth]
    omega
theorem shaped_fm (f : Fm) (h : f.depth ≤ 60) : SeqAt.shaped (fmD f) = true := by
  unfold SeqAt.shaped
  rw [canLay_fm, depth_fm, Bool.true_and]
  exact decide_eq_true (by omega)
theorem wS_inj {w v : W} (h : wS w = wS v) : w = v := by
  revert h
  cases w <;> cases v <;> first | (intro _; rfl) | (intro h; exact absurd h (by decide +kernel))
theorem eqv_fm : ∀ f g : Fm, PyData.eqv (fmD f) (fmD g) = decide (f = g)
  | .nm n, .nm m => by
    simp only [fmD, PyData.eqv]
    by_cases h : n = m
    · subst h; simp
    · rw [decide_eq_false (fun q => h (Fm.nm.inj q))]
      simp; omega
  | .nm n, .ap _ _ _ => by simp [fmD, PyData.eqv]
  | .ap _ _ _, .nm m => by simp [fmD, PyData.eqv]
  | .ap w a b, .ap v c d => by
    have h1 := eqv_fm a c
    have h2 := eqv_fm b d
    simp only [fmD, PyData.eqv, PyData.eqvAll, h1, h2, Bool.and_true]
    by_cases hw : w = v
    · subst hw
      by_cases ha : a = c
      · subst ha
        by_cases hb : b = d
        · subst hb; simp
        · simp [hb]
      · simp [ha]
    · have hs : (wS w == wS v) = false := by
        rw [beq_eq_false_iff_ne]
        exact fun q => hw (wS_inj q)
      rw [hs]
      simp [hw]
theorem dp_ints {K : PySem.W.Frag} {H : Hp} {p : Addr} {ns : List Nat} (h : H p = some (.lst (ivs ns))) : Dp K H (.ref p) (.list (ns.map fun x : Nat => PyData.int (x : Int))) := .lst (SqL.of h) (dts_ivs ns).dp
/-! ### small tables -/
theorem eu_row {K : PySem.W.Frag} {σ : L2.St} {H : Hp} {te : TE} {r : List Nat} (h : EvD K te σ H (rowD r)) : EvD K te σ H (.tuple (r.map fun x : Nat => PyData.int (x : Int))) := h
def spSmall (K : PySem.W.Frag) : Sp := fun vs H Q _ => vs = [] ∧ ∀ (Ts : List (List (List Nat))) (p : Addr) xs H', (∀ T ∈ Ts, ∃ n, 0 < n ∧ n ≤ 3 ∧ Latin n T) → Ts.length ≤ 300 → H p = none → H' p = some (.lst xs) → DTs K H' xs (Ts.map tabD) → Fr S0 H H' → Q (.ref p) H'
abbrev sSmall : Stmt := top 68
abbrev nSmall : List Str := ["_law_found", "_law_rows", "_law_one", "_law_other", "_law_third", "_law_k"]
theorem scSmall : FnScope nSmall [] (defScope sSmall) := ⟨rfl, rfl, rfl, by decide +kernel, rfl, by decide +kernel, by decide +kernel⟩
theorem l0 : 0 ≤ 100000 := by decide
section
variable {P : Program} {w : World} {K : PySem.W.Frag} {mg : Str → Option Value} {base : Heap}
theorem ok_small (D : Df K mg "_law_small_tables" sSmall []) (T : Bi mg) : Cl P w K mg base "_law_small_tables" [] 1 (spSmall K) := by
  refine D.ok scSmall (fun vs H Q E h => ?_) (fun f cdv A outer s H vs Q E hr h => ?_)
  · obtain ⟨rfl, _⟩ := h
    rfl
  · obtain ⟨rfl, k⟩ := h
    refine ⟨_, pss_cons (ps_set (i := 0) scSmall.nd rfl (Or.inl rfl) (pe_lst (pa_cons (pe_tup (pa_cons (pe_tup (pa_cons pe_int pa_nil)) pa_nil)) (pa_cons (pe_tup (pa_cons (pe_tup (pa_cons pe_int (pa_cons pe_int pa_nil))) (pa_cons (pe_tup (pa_cons pe_int (pa_cons pe_int pa_nil))) pa_nil))) (pa_cons (pe_tup (pa_cons (pe_tup (pa_cons pe_int (pa_cons pe_int pa_nil))) (pa_cons (pe_tup (pa_cons pe_int (pa_cons pe_int pa_nil))) pa_nil))) pa_nil))))) (pss_cons (ps_set (i := 1) scSmall.nd rfl (Or.inl rfl) (pe_lst (pa_cons (pe_tup (pa_cons pe_int (pa_cons pe_int (pa_cons pe_int pa_nil)))) (pa_cons (pe_tup (pa_cons pe_int (pa_cons pe_int (pa_cons pe_int pa_nil)))) (pa_cons (pe_tup (pa_cons pe_int (pa_cons pe_int (pa_cons pe_int pa_nil)))) (pa_cons (pe_tup (pa_cons pe_int (pa_cons pe_int (pa_cons pe_int pa_nil)))) (pa_cons (pe_tup (pa_cons pe_int (pa_cons pe_int (pa_cons pe_int pa_nil)))) (pa_cons (pe_tup (pa_cons pe_int (pa_cons pe_int (pa_cons pe_int pa_nil)))) pa_nil)))))))) (pss_cons (ps_for PassesOwn.never rfl (pi_list (pv 1)) (pg_name (i := 2) scSmall.nd rfl (Or.inr rfl)) (pss_one (ps_for PassesOwn.never rfl (pi_list (pv 1)) (pg_name (i := 3) scSmall.nd rfl (Or.inr rfl)) (pss_one (ps_for PassesOwn.never rfl (pi_list (pv 1)) (pg_name (i := 4) scSmall.nd rfl (Or.inr rfl)) (pss_one (ps_if (pt_cmpR (op_eqD hr.units) (pe_lc (own := [("_law_k", 5)]) (g := gName 5) (tt := _) rfl scSmall.nd (pi_range1 rfl T.range (pa_cons pe_int pa_nil)) (blkOk_by (N := nSmall) (sc := defScope sSmall) (by decide +kernel)) (fun _ _ _ _ _ => pg_name (i := 5) scSmall.nd rfl (Or.inl rfl)) (fun _ _ _ _ _ => pts_one (pt_cmpR op_lt (pe_lenSetA K rfl (by rfl) T.len (by rfl) T.set (pe_lst (pa_cons (pe_ix (ix_tupk K) (pv 2) (pv 5) (fun _ _ => rfl)) (pa_cons (pe_ix (ix_tupk K) (pv 3) (pv 5) (fun _ _ => rfl)) (pa_cons (pe_ix (ix_tupk K) (pv 4) (pv 5) (fun _ _ => rfl)) pa_nil))))) pe_int (nomark _))) (fun _ _ _ _ _ => pv 5)) (pe_lst pa_nil) (nomark _)) (pss_one (ps_expr (pe_bm PySem.F.plainAttrs_list PySem.F.slot_list_append PySem.F.type_list_append mt_append (pv 0) (pa_cons (pe_tup (pa_cons (pv 2) (pa_cons (pv 3) (pa_cons (pv 4) pa_nil)))) pa_nil)))) pss_nil))))))) (pss_one (ps_ret (pv 0))))), ?_⟩
    try dsimp only
    refine q_asgD (K := K) (ds := [tabD [[0]], tabD [[0, 1], [1, 0]], tabD [[1, 0], [0, 1]]]) ?a1 (fun p1 xs1 H1 np1 f1 e1 t1 => ?_)
    case a1 =>
      refine evDl_lst (evDs_cons (evD_tup (evDs_cons (evD_tup (evDs_cons evD_int evDs_nil) l1) evDs_nil) l1)
        (evDs_cons (evD_tup (evDs_cons (evD_tup (evDs_cons evD_int (evDs_cons evD_int evDs_nil)) l2) (evDs_cons (evD_tup (evDs_cons evD_int (evDs_cons evD_int evDs_nil)) l2) evDs_nil)) l2)
        (evDs_cons (evD_tup (evDs_cons (evD_tup (evDs_cons evD_int (evDs_cons evD_int evDs_nil)) l2) (evDs_cons (evD_tup (evDs_cons evD_int (evDs_cons evD_int evDs_nil)) l2) evDs_nil)) l2) evDs_nil))) l3
    try dsimp only
    refine q_asgD (K := K) (ds := perms3.map rowD) ?a2 (fun r rs H2 nr f2 er tr => ?_)
    case a2 =>
      refine evDl_lst (evDs_cons (evD_tup (evDs_cons evD_int (evDs_cons evD_int (evDs_cons evD_int evDs_nil))) l3) (evDs_cons (evD_tup (evDs_cons evD_int (evDs_cons evD_int (evDs_cons evD_int evDs_nil))) l3) (evDs_cons (evD_tup (evDs_cons evD_int (evDs_cons evD_int (evDs_cons evD_int evDs_nil))) l3)
        (evDs_cons (evD_tup (evDs_cons evD_int (evDs_cons evD_int (evDs_cons evD_int evDs_nil))) l3) (evDs_cons (evD_tup (evDs_cons evD_int (evDs_cons evD_int (evDs_cons evD_int evDs_nil))) l3) (evDs_cons (evD_tup (evDs_cons evD_int (evDs_cons evD_int (evDs_cons evD_int evDs_nil))) l3) evDs_nil)))))) l6
    have np1' : p1 ≠ r := (ne_of_none e1 nr)
    have nr0 : H r = none := f1.free nr
    have f02 : Fr S0 H H2 := f1.trans f2
    have lrs : rs.length = 6 := by rw [tr.len]; rfl
    -- what holds in the loops
    let G : Nat → Hp → Prop := fun m H' => ∃ (Ts : List (List (List Nat))) (xs : List V), (∀ T ∈ Ts, ∃ n, 0 < n ∧ n ≤ 3 ∧ Latin n T) ∧ Ts.length ≤ m ∧ Fr S0 H H' ∧ H' p1 = some (.lst xs) ∧ DTs K H' xs (Ts.map tabD) ∧ H' r = some (.lst rs) ∧ DTs K H' rs (perms3.map rowD)
    have item : ∀ {i : Nat} {x : V} {H' : Hp}, rs[i]? = some x → DTs K H' rs (perms3.map rowD) → ∃ o, Prm 3 o ∧ DT K H' x (rowD o) := by
      intro i x H' hx t
      obtain ⟨d, h1, h2⟩ := t.at hx
      rw [List.getElem?_map] at h1
      cases hq : perms3[i]? with
      | none => rw [hq] at h1; cases h1
      | some o =>
        rw [hq] at h1
        cases Option.some.inj h1
        exact ⟨o, perms3_ok o (List.mem_of_getElem? hq), h2⟩
    refine ⟨_, rfl, r, rfl, ⟨_, SqL.of er⟩, for_list (K := K) (a := r) (xs := rs) (fun i σ H' => ∃ v2 v3 v4, σ = [some (.ref p1), some (.ref r), v2, v3, v4, none] ∧ G (3 + 36 * i) H') ?_ ?_ ?_ ?_⟩
    · refine ⟨none, none, none, rfl, [[[0]], [[0, 1], [1, 0]], [[1, 0], [0, 1]]], xs1, ?_, by decide, f02, f2.keep _ _ e1 (fun z => z), t1.fr f2, er, tr⟩
      intro T hT
      simp only [List.mem_cons, List.not_mem_nil, or_false] at hT
      rcases hT with rfl | rfl | rfl
      · exact ⟨1, by decide, by decide, latin1⟩
      · exact ⟨2, by decide, by decide, latin2a⟩
      · exact ⟨2, by decide, by decide, latin2b⟩
    · rintro i σ H' _ ⟨v2, v3, v4, rfl, Ts, xs, _, _, _, _, _, h, _⟩
      exact SqL.of h
    · rintro i x σ H' hx ⟨v2, v3, v4, rfl, g⟩
      obtain ⟨_, _, _, _, _, _, _, hr', _⟩ := id g
      refine ⟨_, rfl, r, rfl, ⟨_, SqL.of hr'⟩, for_list (K := K) (a := r) (xs := rs) (fun j σ H' => ∃ v3 v4, σ = [some (.ref p1), some (.ref r), some x, v3, v4, none] ∧ G (3 + 36 * i + 6 * j) H') ?_ ?_ ?_ ?_⟩
      · exact ⟨v3, v4, rfl, g⟩
      · rintro i σ H' _ ⟨v3, v4, rfl, Ts, xs, _, _, _, _, _, h, _⟩
        exact SqL.of h
      · rintro j y σ H' hy ⟨v3, v4, rfl, g⟩
        obtain ⟨_, _, _, _, _, _, _, hr', _⟩ := id g
        refine ⟨_, rfl, r, rfl, ⟨_, SqL.of hr'⟩, for_list (K := K) (a := r) (xs := rs) (fun l σ H' => ∃ v4, σ = [some (.ref p1), some (.ref r), some x, some y, v4, none] ∧ G (3 + 36 * i + 6 * j + l) H') ?_ ?_ ?_ ?_⟩
        · exact ⟨v4, rfl, g⟩
        · rintro i σ H' _ ⟨v4, rfl, Ts, xs, _, _, _, _, _, h, _⟩
          exact SqL.of h
        · rintro l z σ H' hz ⟨v4, rfl, Ts, xs, hT, hlen, f3, e3, t3, er3, tr3⟩
          obtain ⟨a, pa, da⟩ := item hx tr3
          obtain ⟨b, pb, db⟩ := item hy tr3
          obtain ⟨c, pc, dc⟩ := item hz tr3
          obtain ⟨qa, rfl, ta⟩ := row_inv da
          obtain ⟨qb, rfl, tb⟩ := row_inv db
          obtain ⟨qc, rfl, tc⟩ := row_inv dc
          let p : Nat → Bool := fun k => decide (((uniq [(a.getD k 0 : Int), (b.getD k 0 : Int), (c.getD k 0 : Int)] : Nat) : Int) < 3)
          refine ⟨_, rfl, by decide, by decide, fun d hd => lc_range (lo := 0) (n := 3) (fun i H'' => Fr S0 H' H'' ∧ H'' d = some (.lst (((List.range i).filter p).map iv))) ?_ ?_ ?_⟩
          · exact ⟨(Fr.refl _ _).new hd, upd_same⟩
          · rintro k H'' hk ⟨f4, e4⟩
            have ee : ((0 : Int) + (k : Int)) = (k : Int) := by omega
            rw [ee]
            refine ⟨rfl, _, rfl, _, rfl, qa, _, _, _, rfl, rfl, (ta.fr f4).sq, atI_nat (ivs_at (by rw [pa.1]; exact hk)), ?_⟩
            refine ⟨_, rfl, _, rfl, qb, _, _, _, rfl, rfl, (tb.fr f4).sq, atI_nat (ivs_at (by rw [pb.1]; exact hk)), ?_⟩
            refine ⟨_, rfl, _, rfl, qc, _, _, _, rfl, rfl, (tc.fr f4).sq, atI_nat (ivs_at (by rw [pc.1]; exact hk)), ?_⟩
            refine ⟨by show 3 ≤ sizeLine; decide, fun q hq => ⟨q, [(a.getD k 0 : Int), (b.getD k 0 : Int), (c.getD k 0 : Int)], rfl, by show 3 < 64; decide, .inl ⟨SqL.of upd_same, _, _, rfl, rfl, _, rfl, ?_⟩⟩⟩
            have e4' := ((Fr.refl S0 H'').new (o := .lst [iv (a.getD k 0), iv (b.getD k 0), iv (c.getD k 0)]) hq).keep _ _ e4 (fun z => z)
            exact lcStep (p := p) (g := iv) k hd (f4.new hq) e4' (by omega) (fun _ Q q => ⟨_, rfl, q⟩)
          · rintro H4 ⟨f4, e4⟩
            refine ⟨Nat.zero_le _, fun q hq => ?_⟩
            have f5 : Fr S0 H4 (upd H4 q (.lst [])) := (Fr.refl _ _).new hq
            refine ⟨_, _, dp_ints (f5.keep _ _ e4 (fun z => z)), dp_ints (ns := []) upd_same, shaped_ints _, shaped_nil, _, rfl, ?_⟩
            rw [show (([] : List Nat).map fun x : Nat => PyData.int (x : Int)) = [] from rfl, eqv_nil]
            have f05 : Fr S0 H (upd H4 q (.lst [])) := (f3.trans f4).new hq
            have f35 : Fr S0 H' (upd H4 q (.lst [])) := f4.new hq
            cases hl : (List.range 3).filter p with
            | cons k0 rest =>
              refine iteF ?_
              exact ⟨_, rfl, Ts, xs, hT, by omega, f05, f35.keep _ _ e3 (fun z => z), t3.fr f35, f35.keep _ _ er3 (fun z => z), tr3.fr f35⟩
            | nil =>
              refine iteT ?_
              have no : ∀ k, k < 3 → p k = false := by
                intro k hk
                cases hp : p k with
                | false => rfl
                | true =>
                  have : k ∈ (List.range 3).filter p := List.mem_filter.mpr ⟨List.mem_range.mpr hk, hp⟩
                  rw [hl] at this; cases this
              have L3 : Latin 3 [a, b, c] := latin3 pa pb pc fun k hk => by
                have h1 := of_decide_eq_false (no k hk)
                obtain ⟨u1, u2, u3⟩ := uniq3 (a := (a.getD k 0 : Int)) (b := (b.getD k 0 : Int)) (c := (c.getD k 0 : Int)) (by omega)
                exact ⟨fun q => u1 (by rw [q]), fun q => u2 (by rw [q]), fun q => u3 (by rw [q])⟩
              have e35 := f35.keep _ _ e3 (fun z => z)
              refine ⟨_, rfl, .inl ⟨rfl, _, SqL.of e35⟩, _, rfl, _, rfl, _, rfl, by show 3 ≤ sizeLine; decide, fun t ht => ?_⟩
              have f6 := f35.new (o := .tup [.ref qa, .ref qb, .ref qc]) ht
              have e36 := f6.keep _ _ e3 (fun z => z)
              refine ⟨p1, xs, _, rfl, rfl, e36, by rw [t3.len, List.length_map]; exact sz (by have := (List.getElem?_eq_some_iff.mp hx).1; have := (List.getElem?_eq_some_iff.mp hy).1; have := (List.getElem?_eq_some_iff.mp hz).1; omega), ?_⟩
              have g7 : Fr (S1 p1) (upd (upd H4 q (.lst [])) t (.tup [.ref qa, .ref qb, .ref qc])) (upd (upd (upd H4 q (.lst [])) t (.tup [.ref qa, .ref qb, .ref qc])) p1 (.lst (xs ++ [.ref t]))) := (Fr.refl _ _).set rfl (lst_ne_tup e36)
              refine ⟨_, rfl, Ts ++ [[a, b, c]], xs ++ [.ref t], ?_, by simp; omega, (f05.new ht).mut np1, upd_same, ?_, ?_, (tr3.fr f6).fr g7⟩
              · intro T hTT
                rcases List.mem_append.mp hTT with h | h
                · exact hT T h
                · simp at h; subst h; exact ⟨3, by decide, by decide, L3⟩
              · rw [List.map_append]
                exact ((t3.fr f6).fr g7).append (.one (.tup (.of (g7.tup _ _ upd_same)) (.cons ((da.fr f6).fr g7) (.cons ((db.fr f6).fr g7) (.cons ((dc.fr f6).fr g7) .nil)))))
              · rw [upd_ne np1'.symm]; exact f6.keep _ _ er3 (fun z => z)
        · rintro σ H' ⟨v4, rfl, g⟩
          rw [lrs] at g
          exact ⟨_, _, rfl, g⟩
      · rintro σ H' ⟨v3, v4, rfl, g⟩
        rw [lrs] at g
        exact ⟨_, _, _, rfl, g⟩
    · rintro σ H' ⟨v2, v3, v4, rfl, Ts, xs, hT, hlen, f3, e3, t3, er3, tr3⟩
      rw [lrs] at hlen
      exact ⟨_, rfl, k Ts p1 xs H' hT (by omega) np1 e3 t3 f3⟩
end
end K12
set_option linter.all false
set_option maxRecDepth 100000
set_option maxHeartbeats 1600000
/-! K12w7: facts as data, fits, placings. -/
namespace K12
open PySem PySem.Spec PyProof.Rows L2
theorem ivT {a b : Nat} (h : a = b) : decide (iv a = iv b) = true := decide_eq_true (by rw [h])
theorem ivF {a b : Nat} (h : a ≠ b) : decide (iv a = iv b) = false := decide_eq_false fun q => h (by have := V.int.inj q; omega)
def t3D (r : T3) : PyData := rowD [r.1, r.2.1, r.2.2]
def p2D (p : Nat × Nat) : PyData := rowD [p.1, p.2]
def factsD (n : Nat) (es : List T3) (us : List (Nat × Nat)) : PyData := .tuple [.int (n : Int), .tuple (es.map t3D), .tuple (us.map p2D)]
theorem facts_inv {K : PySem.W.Frag} {H : Hp} {v : V} {n : Nat} {es : List T3} {us : List (Nat × Nat)} (h : DT K H v (factsD n es us)) :
    ∃ p a b xs ys, v = .ref p ∧ Tp K H p [iv n, .ref a, .ref b] ∧ Tp K H a xs ∧ DTs K H xs (es.map t3D) ∧ Tp K H b ys ∧ DTs K H ys (us.map p2D) := by
  obtain ⟨p, xs, rfl, t, r⟩ := h.tup_inv
  cases r with
  | cons h1 r =>
    cases r with
    | cons h2 r =>
      cases r with
      | cons h3 r =>
        cases r
        have := h1.int_inv; subst this
        obtain ⟨a, xs1, rfl, ta, ra⟩ := h2.tup_inv
        obtain ⟨b, ys1, rfl, tb, rb⟩ := h3.tup_inv
        exact ⟨p, a, b, xs1, ys1, rfl, t, ta, ra, tb, rb⟩
theorem map_at {α β : Type} {f : α → β} {l : List α} {i : Nat} {d : β} (h : (l.map f)[i]? = some d) : ∃ a, l[i]? = some a ∧ f a = d := by
  rw [List.getElem?_map] at h
  cases e : l[i]? with
  | none => rw [e] at h; cases h
  | some a => rw [e] at h; exact ⟨a, rfl, Option.some.inj h⟩
theorem t3_at {K : PySem.W.Frag} {H : Hp} {xs : List V} {es : List T3} {i : Nat} {x : V} (h : DTs K H xs (es.map t3D)) (hx : xs[i]? = some x) : ∃ r q, es[i]? = some r ∧ x = .ref q ∧ Tp K H q [iv r.1, iv r.2.1, iv r.2.2] := by
  obtain ⟨d, h1, h2⟩ := h.at hx
  obtain ⟨r, h3, rfl⟩ := map_at h1
  obtain ⟨q, rfl, t⟩ := row_inv h2
  exact ⟨r, q, h3, rfl, t⟩
theorem p2_at {K : PySem.W.Frag} {H : Hp} {xs : List V} {us : List (Nat × Nat)} {i : Nat} {x : V} (h : DTs K H xs (us.map p2D)) (hx : xs[i]? = some x) : ∃ r q, us[i]? = some r ∧ x = .ref q ∧ Tp K H q [iv r.1, iv r.2] := by
  obtain ⟨d, h1, h2⟩ := h.at hx
  obtain ⟨r, h3, rfl⟩ := map_at h1
  obtain ⟨q, rfl, t⟩ := row_inv h2
  exact ⟨r, q, h3, rfl, t⟩
theorem row_at {K : PySem.W.Frag} {H : Hp} {xs : List V} {os : List (List Nat)} {i : Nat} {x : V} (h : DTs K H xs (os.map rowD)) (hx : xs[i]? = some x) : ∃ r q, os[i]? = some r ∧ x = .ref q ∧ Tp K H q (ivs r) := by
  obtain ⟨d, h1, h2⟩ := h.at hx
  obtain ⟨r, h3, rfl⟩ := map_at h1
  obtain ⟨q, rfl, t⟩ := row_inv h2
  exact ⟨r, q, h3, rfl, t⟩
/-- things for the first names by which all entries of those names hold -/
structure Fits (N : Nat) (T : List (List Nat)) (es : List T3) (th : List Nat) : Prop where
  lt : ∀ x ∈ th, x < N
  es : ∀ r ∈ es, r.1 < th.length → r.2.1 < th.length → r.2.2 < th.length → cell T (th.getD r.1 0) (th.getD r.2.1 0) = th.getD r.2.2 0
structure FactsOk (n : Nat) (es : List T3) (us : List (Nat × Nat)) : Prop where
  pos : 0 < n
  le : n ≤ 5
  R : Rows n es
  U : ∀ p ∈ us, p.1 < p.2 ∧ p.2 < n
  len : es.length ≤ 10
  lenU : us.length ≤ 10
section
variable {P : Program} {w : World} {K : PySem.W.Frag} {mg : Str → Option Value} {base : Heap}
def spFits (K : PySem.W.Frag) : Sp := fun vs H Q _ => ∃ (vf tb tq : V) (n N : Nat) (es : List T3) (us : List (Nat × Nat)) (T : List (List Nat)) (th : List Nat), vs = [vf, tb, tq] ∧ DT K H vf (factsD n es us) ∧ DT K H tb (tabD T) ∧ DT K H tq (rowD th) ∧
  FactsOk n es us ∧ Latin N T ∧ N ≤ 100 ∧ th.length ≤ n ∧ (∀ x ∈ th, x < N) ∧ ∀ (b : Bool) H', Fr S0 H H' → (b = true → Fits N T es th) → Q (.bl b) H'
abbrev sFits : Stmt := top 69
abbrev psFits : List Str := ["_law_facts_here", "_law_table_here", "_law_things_here"]
abbrev nFits : List Str := ["_law_facts_here", "_law_table_here", "_law_things_here", "_law_many", "_law_x", "_law_y", "_law_z"]
theorem scFits : FnScope nFits psFits (defScope sFits) := ⟨rfl, rfl, rfl, by decide +kernel, rfl, by decide +kernel, by decide +kernel⟩
theorem max3 (x y z : Nat) : nuMax3 (iv x) (iv y) (iv z) = some (iv (max (max x y) z)) := by
  have h2 : ∀ x y : Nat, nuMax2 (iv x) (iv y) = some (iv (max x y)) := by
    intro x y
    show some (if decide ((x : Int) < (y : Int)) = true then iv y else iv x) = _
    by_cases h : x < y
    · rw [if_pos (decide_eq_true (by omega)), Nat.max_eq_right (by omega)]
    · rw [if_neg (by simp; omega), Nat.max_eq_left (by omega)]
  unfold nuMax3
  rw [h2]
  exact h2 _ _
theorem ok_fits (D : Df K mg "_law_fits" sFits psFits) (T : Bi mg) : Cl P w K mg base "_law_fits" psFits 1 (spFits K) := by
  refine D.ok scFits (fun vs H Q E h => ?_) (fun f cdv A outer s H vs Q E hr h => ?_)
  · obtain ⟨vf, tb, tq, n, N, es, us, T0, th, rfl, _⟩ := h
    rfl
  · obtain ⟨vf, tb, tq, n, N, es, us, T0, th, rfl, hf, ht, hq, FO, L, hN, hlen, hth, k⟩ := h
    refine ⟨_, pss_cons (ps_set (i := 3) scFits.nd rfl (Or.inr rfl) (pe_callB call_len_seq (by rfl) T.len PySem.boot_len (pa_cons (pv 2) pa_nil))) (pss_cons (ps_for PassesOwn.never rfl (pi_tup (pe_ix ix_tup (pv 0) pe_int (fun _ _ => rfl))) (pg_tup (by rfl) (pgs_cons (pg_name (i := 4) scFits.nd rfl (Or.inl rfl)) (pgs_cons (pg_name (i := 5) scFits.nd rfl (Or.inl rfl)) (pgs_cons (pg_name (i := 6) scFits.nd rfl (Or.inl rfl)) pgs_nil)))) (pss_one (ps_if (PW.pt (pw_and (pt_cmpR op_lt (pe_callB (call_max3Nu rfl) (by rfl) T.max (by decide +kernel) (pa_cons (pv 4) (pa_cons (pv 5) (pa_cons (pv 6) pa_nil)))) (pv 3) (nomark _)) (pw_and1 (pt_cmpR op_ne (pe_ix ix_tup (pe_ix ix_tup (pv 1) (pe_ix ix_tup (pv 2) (pv 4) (fun _ _ => rfl)) (fun _ _ => rfl)) (pe_ix ix_tup (pv 2) (pv 5) (fun _ _ => rfl)) (fun _ _ => rfl)) (pe_ix ix_tup (pv 2) (pv 6) (fun _ _ => rfl)) (nomark _))))) (pss_one (ps_ret pe_bl)) pss_nil))) (pss_one (ps_ret (pe_cmpR (op_eqD hr.units) (pe_lc (own := [("_law_x", 4), ("_law_y", 5)]) (g := _) (tt := _) rfl scFits.nd (pi_tup (pe_ix ix_tup (pv 0) pe_int (fun _ _ => rfl))) (blkOk_by (N := nFits) (sc := defScope sFits) (by decide +kernel)) (fun _ _ _ _ _ => pg_tupk (n := 2) K (by rfl) (pgs_cons (pg_name (i := 4) scFits.nd rfl (Or.inl rfl)) (pgs_cons (pg_name (i := 5) scFits.nd rfl (Or.inl rfl)) pgs_nil))) (fun _ _ _ _ _ => pts_one (PW.pt (pw_and (pt_cmpR op_lt (pv 5) (pv 3) (nomark _)) (pw_and1 (pt_cmpR op_eq (pe_ix (ix_tupk K) (pv 2) (pv 4) (fun _ _ => rfl)) (pe_ix (ix_tupk K) (pv 2) (pv 5) (fun _ _ => rfl)) (nomark _)))))) (fun _ _ _ _ _ => pe_int)) (pe_lst pa_nil) (nomark _))))), ?_⟩
    obtain ⟨pf, pe, pu, xs, ys, rfl, tf, te, re, tu, ru⟩ := facts_inv hf
    obtain ⟨pq, rfl, tq'⟩ := row_inv hq
    obtain ⟨pt, ts, rfl, tt, lt, ct⟩ := tab_inv ht
    refine ⟨_, rfl, pq, _, rfl, .inr tq'.sq, ?_⟩
    refine ⟨_, rfl, pf, _, 1, _, rfl, rfl, tf.sq, rfl, pe, rfl, ⟨_, te.sq⟩, for_tup (K := K) (a := pe) (xs := xs) (fun i σ H' => H' = H ∧ (∃ v4 v5 v6, σ = [some (.ref pf), some (.ref pt), some (.ref pq), some (iv th.length), v4, v5, v6]) ∧ Fits N T0 (es.take i) th) ?_ ?_ ?_ ?_⟩
    · exact ⟨rfl, ⟨none, none, none, by rw [← ivs_len th]; rfl⟩, hth, by simp⟩
    · rintro i σ H' _ ⟨rfl, _⟩
      exact te.sq
    · rintro i x σ H' hx ⟨rfl, ⟨v4, v5, v6, rfl⟩, F⟩
      obtain ⟨r, q, er, rfl, tr⟩ := t3_at re hx
      have hm := List.mem_of_getElem? er
      obtain ⟨R1, R2, R3⟩ := FO.R r hm
      have iE : i < es.length := (List.getElem?_eq_some_iff.mp er).1
      have step : ∀ (hh : r.1 < th.length → r.2.1 < th.length → r.2.2 < th.length → cell T0 (th.getD r.1 0) (th.getD r.2.1 0) = th.getD r.2.2 0), Fits N T0 (es.take (i + 1)) th := by
        intro hh
        refine ⟨hth, fun r' hr' => ?_⟩
        rw [List.take_succ, er] at hr'
        rcases List.mem_append.mp hr' with h | h
        · exact F.es r' h
        · simp at h; subst h; exact hh
      refine ⟨q, _, rfl, tr.sq, rfl, _, _, rfl, _, _, rfl, _, _, rfl, rfl, ?_⟩
      refine ⟨_, rfl, _, rfl, _, rfl, _, _, _, _, rfl, max3 _ _ _, _, rfl, _, _, rfl, rfl, _, rfl, ?_⟩
      refine ite2 (fun hlt => ?_) (fun hlt => ?_)
      · have hlt' : max (max r.1 r.2.1) r.2.2 < th.length := by have : ((max (max r.1 r.2.1) r.2.2 : Nat) : Int) < (th.length : Int) := of_decide_eq_true hlt; omega
        have a1 : r.1 < th.length := by omega
        have a2 : r.2.1 < th.length := by omega
        have a3 : r.2.2 < th.length := by omega
        have b1 := hth _ (getD_mem a1)
        have b2 := hth _ (getD_mem a2)
        obtain ⟨rq, c1, c2⟩ := ct _ (by rw [L.len]; exact b1)
        obtain ⟨d1, d2, d3⟩ := L.rowOf b1
        refine ⟨_, rfl, _, rfl, _, rfl, pq, _, _, _, rfl, rfl, tq'.sq, atI_nat (ivs_at a1), pt, _, _, _, rfl, rfl, tt.sq, atI_nat c1, ?_⟩
        refine ⟨_, rfl, _, rfl, pq, _, _, _, rfl, rfl, tq'.sq, atI_nat (ivs_at a2), rq, _, _, _, rfl, rfl, c2.sq, atI_nat (ivs_at (by rw [d1]; exact b2)), ?_⟩
        refine ⟨_, rfl, _, rfl, pq, _, _, _, rfl, rfl, tq'.sq, atI_nat (ivs_at a3), rfl, _, rfl, ?_⟩
        by_cases hc : cell T0 (th.getD r.1 0) (th.getD r.2.1 0) = th.getD r.2.2 0
        · have ed : (!decide (iv ((T0.getD (th.getD r.1 0) []).getD (th.getD r.2.1 0) 0) = iv (th.getD r.2.2 0))) = false := by
            rw [ivT (show (T0.getD (th.getD r.1 0) []).getD (th.getD r.2.1 0) 0 = th.getD r.2.2 0 from hc)]; rfl
          rw [ed]
          refine iteF ?_
          exact ⟨rfl, ⟨_, _, _, rfl⟩, step fun _ _ _ => hc⟩
        · have ed : (!decide (iv ((T0.getD (th.getD r.1 0) []).getD (th.getD r.2.1 0) 0) = iv (th.getD r.2.2 0))) = true := by
            rw [decide_eq_false fun q => hc (by have := V.int.inj q; unfold cell; omega)]; rfl
          rw [ed]
          refine iteT ?_
          exact k false H' (Fr.refl _ _) (fun e => by cases e)
      · have hlt' : ¬ max (max r.1 r.2.1) r.2.2 < th.length := fun q => hlt (decide_eq_true (by omega))
        refine iteF ?_
        exact ⟨rfl, ⟨_, _, _, rfl⟩, step fun h1 h2 h3 => absurd (by omega) hlt'⟩
    · rintro σ H' ⟨rfl, ⟨v4, v5, v6, rfl⟩, F⟩
      have lx : xs.length = es.length := by rw [re.len, List.length_map]
      rw [lx, List.take_length] at F
      refine ⟨_, rfl, pf, _, 2, _, rfl, rfl, tf.sq, rfl, pu, rfl, ⟨_, tu.sq⟩, fun d hd => lc_tup (K := K) (a := pu) (xs := ys) (fun i H'' => Fr S0 H' H'' ∧ ∃ ns : List Nat, ns.length ≤ i ∧ H'' d = some (.lst (ivs ns))) ?_ ?_ ?_ ?_⟩
      · exact ⟨(Fr.refl _ _).new hd, [], Nat.le_refl _, upd_same⟩
      · rintro i H'' _ ⟨f1, _⟩
        exact (tu.fr f1).sq
      · rintro i x H'' hx ⟨f1, ns, l1, e1⟩
        obtain ⟨r, q, er, rfl, tr⟩ := p2_at ru hx
        obtain ⟨u1, u2⟩ := FO.U r (List.mem_of_getElem? er)
        have iU : i < us.length := (List.getElem?_eq_some_iff.mp er).1
        have lU := FO.lenU
        refine ⟨q, _, rfl, (tr.fr f1).sq, rfl, _, _, rfl, _, _, rfl, rfl, rfl, ?_⟩
        have yes : ∃ acc, H'' d = some (.lst acc) ∧ acc.length < sizeLine ∧ (Fr S0 H' (upd H'' d (.lst (acc ++ [.int 1]))) ∧ ∃ ns : List Nat, ns.length ≤ i + 1 ∧ (upd H'' d (.lst (acc ++ [.int 1]))) d = some (.lst (ivs ns))) :=
          ⟨_, e1, by rw [ivs_len]; exact sz (by omega), f1.mut hd, ns ++ [1], by simp; omega, by rw [upd_same]; simp [ivs]⟩
        have noo : Fr S0 H' H'' ∧ ∃ ns : List Nat, ns.length ≤ i + 1 ∧ H'' d = some (.lst (ivs ns)) := ⟨f1, ns, by omega, e1⟩
        refine ⟨_, rfl, _, rfl, _, _, rfl, rfl, _, rfl, ?_⟩
        refine ite2 (fun hlt => ?_) (fun hlt => ?_)
        · have a2 : r.2 < th.length := by have : (r.2 : Int) < (th.length : Int) := of_decide_eq_true hlt; omega
          have a1 : r.1 < th.length := by omega
          refine ⟨_, rfl, _, rfl, pq, _, _, _, rfl, rfl, (tq'.fr f1).sq, atI_nat (ivs_at a1), ?_⟩
          refine ⟨_, rfl, _, rfl, pq, _, _, _, rfl, rfl, (tq'.fr f1).sq, atI_nat (ivs_at a2), rfl, _, rfl, ?_⟩
          exact ite2 (fun _ => yes) (fun _ => noo)
        · exact iteF noo
      · rintro H1 ⟨f1, ns, l1, e1⟩
        refine ⟨Nat.zero_le _, fun q hq => ?_⟩
        have f2 : Fr S0 H1 (upd H1 q (.lst [])) := (Fr.refl _ _).new hq
        refine ⟨_, _, dp_ints (f2.keep _ _ e1 (fun z => z)), dp_ints (ns := []) upd_same, shaped_ints _, shaped_nil, ?_⟩
        exact k _ _ (f1.trans f2) (fun _ => F)
/-! ### placings -/
theorem pow7 {N i : Nat} (hN : N ≤ 7) (hi : i ≤ 5) : N ^ i ≤ 16807 :=
  Nat.le_trans (Nat.pow_le_pow_left hN i) (Nat.le_trans (Nat.pow_le_pow_right (by decide) hi) (by decide))
def spPlacings (K : PySem.W.Frag) : Sp := fun vs H Q _ => ∃ (vf tb : V) (n N : Nat) (es : List T3) (us : List (Nat × Nat)) (T : List (List Nat)), vs = [vf, tb] ∧ DT K H vf (factsD n es us) ∧ DT K H tb (tabD T) ∧
  FactsOk n es us ∧ Latin N T ∧ 0 < N ∧ N ≤ 7 ∧ ∀ (ths : List (List Nat)) (p : Addr) xs H', (∀ th ∈ ths, th.length = n ∧ Fits N T es th) → H p = none → H' p = some (.lst xs) → DTs K H' xs (ths.map rowD) → Fr S0 H H' → Q (.ref p) H'
abbrev sPlacings : Stmt := top 70
abbrev psPlacings : List Str := ["_law_facts_here", "_law_table_here"]
abbrev nPlacings : List Str := ["_law_facts_here", "_law_table_here", "_law_found", "_law_name", "_law_longer", "_law_row", "_law_thing"]
theorem scPlacings : FnScope nPlacings psPlacings (defScope sPlacings) := ⟨rfl, rfl, rfl, by decide +kernel, rfl, by decide +kernel, by decide +kernel⟩
theorem ok_placings (D : Df K mg "_law_placings" sPlacings psPlacings) (T : Bi mg) (cF : Cl P w K mg base "_law_fits" psFits 1 (spFits K)) : Cl P w K mg base "_law_placings" psPlacings 2 (spPlacings K) := by
  refine D.ok scPlacings (fun vs H Q E h => ?_) (fun f cdv A outer s H vs Q E hr h => ?_)
  · obtain ⟨vf, tb, n, N, es, us, T0, rfl, _⟩ := h
    rfl
  · obtain ⟨vf, tb, n, N, es, us, T0, rfl, hf, ht, FO, L, hN0, hN, k⟩ := h
    refine ⟨_, pss_cons (ps_set (i := 2) scPlacings.nd rfl (Or.inl rfl) (pe_lst (pa_cons (pe_tup pa_nil) pa_nil))) (pss_cons (ps_for PassesOwn.never rfl (pi_range1 rfl T.range (pa_cons (pe_ix ix_tup (pv 0) pe_int (fun _ _ => rfl)) pa_nil)) (pg_name (i := 3) scPlacings.nd rfl (Or.inl rfl)) (pss_cons (ps_set (i := 4) scPlacings.nd rfl (Or.inl rfl) (pe_lst pa_nil)) (pss_cons (ps_for PassesOwn.never rfl (pi_list (pv 2)) (pg_name (i := 5) scPlacings.nd rfl (Or.inr rfl)) (pss_one (ps_set (i := 4) scPlacings.nd rfl (Or.inl rfl) (pe_op op_cat (pv 4) (pe_lc (own := [("_law_thing", 6)]) (g := gName 6) (tt := tYes) rfl scPlacings.nd (pi_range1 rfl T.range (pa_cons (pe_callB call_len_seq (by rfl) T.len PySem.boot_len (pa_cons (pv 1) pa_nil)) pa_nil)) (blkOk_by (N := nPlacings) (sc := defScope sPlacings) (by decide +kernel)) (fun _ _ _ _ _ => pg_name (i := 6) scPlacings.nd rfl (Or.inl rfl)) (fun _ _ _ _ _ => pts_nil) (fun _ _ _ _ _ => pe_op (op_catE K) (pv 5) (pe_tup (pa_cons (pv 6) pa_nil)))))))) (pss_one (ps_setLc (i := 2) (own := [("_law_row", 5)]) (g := gName 5) (tt := _) rfl scPlacings.nd rfl rfl (sw_true rfl rfl rfl (by decide +kernel)) (pi_list (pv 4)) (blkOk_by (N := nPlacings) (sc := defScope sPlacings) (by decide +kernel)) (fun _ _ _ _ _ => pg_name (i := 5) scPlacings.nd rfl (Or.inl rfl)) (fun _ _ _ _ _ => pts_one (pt_val (pe_cl cF hr (pa_cons (pv 0) (pa_cons (pv 1) (pa_cons (pv 5) pa_nil)))))) (fun _ _ _ _ _ => pv 5)))))) (pss_one (ps_ret (pv 2)))), ?_⟩
    obtain ⟨pf, pe, pu, xs, ys, rfl, tf, te, re, tu, ru⟩ := facts_inv hf
    obtain ⟨pt, ts, rfl, tt, lt, ct⟩ := tab_inv ht
    have lts : ts.length = N := by rw [lt, L.len]
    -- found = [()]
    try dsimp only
    refine q_asgD (K := K) (ds := [rowD []]) (evDl_lst (evDs_cons (evD_tup evDs_nil l0) evDs_nil) l1) (fun p1 xs1 H1 np1 f1 e1 t1 => ?_)
    let Inv : Nat → Addr → Hp → Prop := fun i p H' => ∃ (ths : List (List Nat)) (xs : List V), (∀ th ∈ ths, th.length = i ∧ Fits N T0 es th) ∧ ths.length ≤ N ^ i ∧ H p = none ∧ H' p = some (.lst xs) ∧ DTs K H' xs (ths.map rowD) ∧ Fr S0 H H'
    have tf1 := tf.fr f1
    have n5 := FO.le
    refine ⟨_, rfl, pf, _, 0, _, rfl, rfl, tf1.sq, rfl, _, rfl, by omega, by omega, for_range (lo := 0) (n := n) (fun i σ H' => ∃ p v3 v4 v5, σ = [some (.ref pf), some (.ref pt), some (.ref p), v3, v4, v5, none] ∧ Inv i p H') ?_ ?_ ?_⟩
    · refine ⟨p1, none, none, none, rfl, [[]], xs1, ?_, by simp, np1, e1, t1, f1⟩
      intro th hth
      simp at hth; subst hth
      exact ⟨rfl, by simp, fun r _ h => by simp at h⟩
    · rintro i σ H' hi ⟨p, v3, v4, v5, rfl, ths, xs2, h1, h2, np, e2, t2, f2⟩
      have pw1 : N ^ (i + 1) ≤ 16807 := pow7 hN (by omega)
      have pw0 : N ^ i ≤ 16807 := pow7 hN (by omega)
      have hps : N ^ (i + 1) = N ^ i * N := Nat.pow_succ ..
      have lx2 : xs2.length = ths.length := by rw [t2.len, List.length_map]
      -- longer = []
      refine ⟨Nat.zero_le _, fun l hl => ?_⟩
      have f3 : Fr S0 H' (upd H' l (.lst [])) := (Fr.refl _ _).new hl
      have e3 := f3.keep _ _ e2 (fun z => z)
      refine ⟨_, rfl, p, rfl, ⟨_, SqL.of e3⟩, for_list (K := K) (a := p) (xs := xs2) (fun j σ H'' => ∃ (l : Addr) (v5 : Option V) (lo : List (List Nat)) (ys : List V), σ = [some (.ref pf), some (.ref pt), some (.ref p), some (.int (0 + (i : Int))), some (.ref l), v5, none] ∧ (∀ th ∈ lo, th.length = i + 1 ∧ ∀ x ∈ th, x < N) ∧ lo.length ≤ j * N ∧
        H l = none ∧ H'' l = some (.lst ys) ∧ DTs K H'' ys (lo.map rowD) ∧ Fr S0 H' H'') ?_ ?_ ?_ ?_⟩
      · exact ⟨l, v5, [], [], rfl, by simp, Nat.zero_le _, f2.free hl, upd_same, .nil, f3⟩
      · rintro j σ H'' _ ⟨l, v5, lo, ys, rfl, _, _, _, _, _, f4⟩
        exact SqL.of (f4.keep _ _ e2 (fun z => z))
      · rintro j x σ H'' hx ⟨l, v5, lo, ys, rfl, g1, g2, g3, g4, g5, f4⟩
        obtain ⟨th, q, eth, rfl, tq⟩ := row_at (t2.fr f4) hx
        have hj : j < ths.length := (List.getElem?_eq_some_iff.mp eth).1
        obtain ⟨lth, Fth⟩ := h1 th (List.mem_of_getElem? eth)
        have f04 : Fr S0 H H'' := f2.trans f4
        have jN : j * N + N ≤ N ^ (i + 1) := by
          have : (j + 1) * N ≤ N ^ i * N := Nat.mul_le_mul_right N (by omega)
          rw [Nat.add_mul] at this
          omega
        refine ⟨_, rfl, _, rfl, pt, _, rfl, .inr (tt.fr f04).sq, _, rfl, by omega, by omega, fun d hd => lc_range (lo := 0) (n := ts.length) (fun m H5 => Fr S0 H'' H5 ∧ ∃ zs : List V, H5 d = some (.lst zs) ∧ DTs K H5 zs (((List.range m).map fun t => th ++ [t]).map rowD)) ?_ ?_ ?_⟩
        · exact ⟨(Fr.refl _ _).new hd, [], upd_same, .nil⟩
        · rintro m H5 hm ⟨f5, zs, z1, z2⟩
          have ee : ((0 : Int) + (m : Int)) = (m : Int) := by omega
          rw [ee]
          have lz : zs.length = m := by rw [z2.len]; simp
          refine ⟨rfl, ?_⟩
          dsimp only [tYes]
          refine iteT ?_
          refine ⟨_, rfl, _, rfl, by show 1 ≤ sizeLine; decide, fun t ht5 => ?_⟩
          have f6 : Fr S0 H5 (upd H5 t (.tup [iv m])) := (Fr.refl _ _).new ht5
          have tq6 := (tq.fr f5).fr f6
          have z1' := f6.keep _ _ z1 (fun z => z)
          refine ⟨q, t, _, _, rfl, rfl, tq6.sq, SqT.of upd_same, by simp, by rw [ivs_len]; exact szl (by simp; omega), ?_, ?_⟩
          · intro e0
            have g : Fr (S1 d) (upd H5 t (.tup [iv m])) (upd (upd H5 t (.tup [iv m])) d (.lst (zs ++ [.ref t]))) := (Fr.refl _ _).set rfl (lst_ne_tup z1')
            have th0 : th = [] := by
              cases th with
              | nil => rfl
              | cons a b => simp [ivs] at e0
            refine ⟨zs, z1', by rw [lz]; exact sz (by omega), (f5.trans f6).mut hd, zs ++ [.ref t], upd_same, ?_⟩
            rw [List.range_succ, List.map_append, List.map_append]
            refine ((z2.fr f6).fr g).append (.one ?_)
            subst th0
            exact dt_row (g.tup _ _ upd_same)
          · intro _ t2 ht6
            have f7 := f6.new (o := .tup (ivs th ++ [iv m])) ht6
            have z1'' := f7.keep _ _ z1 (fun z => z)
            have g : Fr (S1 d) (upd (upd H5 t (.tup [iv m])) t2 (.tup (ivs th ++ [iv m]))) (upd (upd (upd H5 t (.tup [iv m])) t2 (.tup (ivs th ++ [iv m]))) d (.lst (zs ++ [.ref t2]))) := (Fr.refl _ _).set rfl (lst_ne_tup z1'')
            refine ⟨zs, z1'', by rw [lz]; exact sz (by omega), (f5.trans f7).mut hd, zs ++ [.ref t2], upd_same, ?_⟩
            rw [List.range_succ, List.map_append, List.map_append]
            refine ((z2.fr f7).fr g).append (.one ?_)
            refine dt_row (g.tup _ _ ?_)
            rw [upd_same]; simp [ivs]
        · rintro H5 ⟨f5, zs, z1, z2⟩
          have g4' := f5.keep _ _ g4 (fun z => z)
          have lz : zs.length = N := by rw [z2.len]; simp [lts]
          have lys : ys.length = lo.length := by rw [g5.len, List.length_map]
          refine ⟨l, d, ys, zs, rfl, rfl, g4', z1, by rw [lz, lys]; exact szl (by omega), fun u hu => ?_⟩
          have f6 : Fr S0 H5 (upd H5 u (.lst (ys ++ zs))) := (Fr.refl _ _).new hu
          refine ⟨u, _, lo ++ (List.range ts.length).map (fun t => th ++ [t]), ys ++ zs, rfl, ?_, ?_, (f04.trans f5).free hu, upd_same, ?_, (f4.trans f5).trans f6⟩
          · intro th' hth'
            rcases List.mem_append.mp hth' with h | h
            · exact g1 th' h
            · obtain ⟨t, ht', rfl⟩ := List.mem_map.mp h
              have := List.mem_range.mp ht'
              refine ⟨by simp [lth], fun x hx => ?_⟩
              rcases List.mem_append.mp hx with hx | hx
              · exact Fth.lt x hx
              · simp at hx; omega
          · rw [List.length_append, List.length_map, List.length_range, Nat.add_mul]; omega
          · rw [List.map_append]
            exact ((g5.fr f5).fr f6).append (z2.fr f6)
      · -- found = [row for row in longer if fits(..)]
        rintro σ H'' ⟨l, v5, lo, ys, rfl, g1, g2, g3, g4, g5, f4⟩
        have lys : ys.length = lo.length := by rw [g5.len, List.length_map]
        have f04 : Fr S0 H H'' := f2.trans f4
        have lolen : lo.length ≤ N ^ (i + 1) := by
          rw [hps]
          exact Nat.le_trans g2 (Nat.mul_le_mul_right N (by omega))
        refine ⟨_, rfl, l, rfl, ⟨_, SqL.of g4⟩, fun d hd => lc_list (K := K) (a := l) (xs := ys) (fun m H5 => Fr S0 H'' H5 ∧ ∃ (kp : List (List Nat)) (zs : List V), (∀ th ∈ kp, th.length = i + 1 ∧ Fits N T0 es th) ∧ kp.length ≤ m ∧ H5 d = some (.lst zs) ∧ DTs K H5 zs (kp.map rowD)) ?_ ?_ ?_ ?_⟩
        · exact ⟨(Fr.refl _ _).new hd, [], [], by simp, Nat.le_refl _, upd_same, .nil⟩
        · rintro m H5 _ ⟨f5, _⟩
          exact SqL.of (f5.keep _ _ g4 (fun z => z))
        · rintro m x H5 hx ⟨f5, kp, zs, k1, k2, k3, k4⟩
          obtain ⟨th, q, eth, rfl, tq⟩ := row_at (g5.fr f5) hx
          have hm : m < lo.length := (List.getElem?_eq_some_iff.mp eth).1
          obtain ⟨lth, vth⟩ := g1 th (List.mem_of_getElem? eth)
          have f05 : Fr S0 H H5 := f04.trans f5
          have dq : DT K H5 (.ref q) (rowD th) := .tup tq (dts_ivs th)
          refine ⟨rfl, _, rfl, _, rfl, _, rfl, _, _, _, n, N, es, us, T0, th, rfl, hf.fr f05, ht.fr f05, dq, FO, L, by omega, by omega, vth, fun b H6 f6 hb => ⟨_, rfl, ?_⟩⟩
          have k3' := f6.keep _ _ k3 (fun z => z)
          cases b with
          | false => exact iteF ⟨f5.trans f6, kp, zs, k1, by omega, k3', k4.fr f6⟩
          | true =>
            have g : Fr (S1 d) H6 (upd H6 d (.lst (zs ++ [.ref q]))) := (Fr.refl _ _).set rfl (lst_ne_tup k3')
            refine iteT ⟨_, rfl, zs, k3', by rw [k4.len, List.length_map]; exact sz (by omega), (f5.trans f6).mut hd, kp ++ [th], zs ++ [.ref q], ?_, by simp; omega, upd_same, ?_⟩
            · intro th' hth'
              rcases List.mem_append.mp hth' with h | h
              · exact k1 th' h
              · simp at h; subst h; exact ⟨lth, hb rfl⟩
            · rw [List.map_append]
              exact ((k4.fr f6).fr g).append (.one ((dq.fr f6).fr g))
        · rintro H5 ⟨f5, kp, zs, k1, k2, k3, k4⟩
          exact ⟨d, _, _, _, rfl, kp, zs, k1, by omega, f04.free hd, k3, k4, f04.trans f5⟩
    · rintro σ H' ⟨p, v3, v4, v5, rfl, ths, xs2, h1, h2, np, e2, t2, f2⟩
      exact ⟨_, rfl, k ths p xs2 H' h1 np e2 t2 f2⟩
end
end K12
set_option linter.all false
set_option maxRecDepth 100000
set_option maxHeartbeats 1600000
/-! K12w8: further rules: enumerate of a tuple, sorted of data. -/
namespace K12
open PySem PySem.Spec PyProof.Rows L2
/-! ### enumerate(t), t a tuple -/
theorem meets_enum1 {v : Value} {o : Obj} {H : Heap → Prop} (B : Begins v o H) :
    Meets (Builtin.«enumerate.__new__» ⟨[.type "enumerate", v], []⟩) (fun _ R s => H s.heap ∧
      R (.ok (.ret (.ref (s.heap.push o).objs.size))) { s with heap := (s.heap.push o).push { cls := .type "enumerate", data := .fields #[.none, .bool false, .ref s.heap.objs.size, rawInt 0, .none, .none] } }) :=
  .of_wp fun prog w A R s h => by
    obtain ⟨hp, g, d, tk, os⟩ := s; obtain ⟨h1, h⟩ := h
    have hsub := sub_enumerate
    have q1 : ∀ {A' : Around} {E : Value → Shared → Prop} {Q : Value → Shared → Prop}, Q (.ref hp.objs.size) ⟨hp.push o, g, d, tk, os⟩ → wpAny (model prog w) A' (pyIter v) Q E ⟨hp, g, d, tk, os⟩ :=
      fun q => B.iter prog w _ _ ⟨hp, g, d, tk, os⟩ _ h1 q
    wp_walk using q1
    refine wpAny_stack_any fun st => wpAny_pure ?_
    split
    · rename_i c _ _ _ _ _
      cases (c == Value.type "enumerate")
      · wp_walk using q1
        exact ⟨_, rfl, h⟩
      · wp_walk using q1
        exact ⟨_, rfl, h⟩
    · wp_walk using q1
      exact ⟨_, rfl, h⟩
section
variable {prog : Program} {w : World} {A : Around} {E : Value → Shared → Prop} {s : Shared}
theorem call_enum1 {v : Value} {o : Obj} {H : Heap → Prop} {Q : Value → Shared → Prop} (B : Begins v o H) (h1 : H s.heap)
    (h : ∀ h', IsEnum h' (s.heap.objs.size + 1) s.heap.objs.size 0 .none → h'.get? s.heap.objs.size = some o → h'.objs.size = s.heap.objs.size + 2 →
      (∀ b o, s.heap.get? b = some o → h'.get? b = some o) → Q (.ref (s.heap.objs.size + 1)) { s with heap := h' }) :
    wpAny (model prog w) A (call (.type "enumerate") [v]) Q E s := by
  refine callType_new F.called_enumerate (by decide) (F.typeCall_enumerate_1 _) (F.newCall_enumerate_1 _) (fun obj => F.args_object_init_2 obj _) F.entry_enumerate_new
    (meets_enum1 B) ⟨h1, ?_⟩
  have hz : (s.heap.push o).objs.size = s.heap.objs.size + 1 := Heap.size_push ..
  show _ ∧ _
  rw [hz]
  have he : IsEnum ((s.heap.push o).push { cls := .type "enumerate", data := .fields #[.none, .bool false, .ref s.heap.objs.size, rawInt 0, .none, .none] }) (s.heap.objs.size + 1) s.heap.objs.size 0 .none := by
    have := Heap.get?_push_size (s.heap.push o) (o := { cls := .type "enumerate", data := .fields #[.none, .bool false, .ref s.heap.objs.size, rawInt 0, .none, .none] }) rfl
    rw [hz] at this
    exact this
  exact ⟨⟨_, he, rfl⟩, h _ he (Heap.get?_push_of_some _ (Heap.get?_push_size _ B.free)) (by rw [Heap.size_push, hz]) fun b ob e => Heap.get?_push_of_some _ (Heap.get?_push_of_some _ e)⟩
end
def IteT (K : PySem.W.Frag) (a : Addr) : It :=
  ⟨fun i H => ∃ (xs : List V) (x : V), SqT K H a xs ∧ xs[i]? = some x, fun i H v H' => ∃ T x, v = .ref T ∧ H T = none ∧ H' = upd H T (.tup [.int (i : Nat), x]) ∧ ∀ xs, SqT K H a xs → xs[i]? = some x, fun i H => ∃ xs : List V, SqT K H a xs ∧ xs.length = i⟩
theorem turn_enumT {P : Program} {w : World} {K : PySem.W.Frag} {elts : List Expr} {kk : Nat} {tpos : Pos} (a e it : Addr) :
    Turn P w K (.Tuple elts kk tpos) (IteT K a) [e, it] e (fun i h => (∃ old, IsEnum h e it ((i : Nat) : Int) old) ∧ h.IsTupleIter it a i ∧ e ≠ it) where
  mem := by simp
  obj := fun i h st b hb => by
    obtain ⟨⟨old, he⟩, ⟨o, ho, hc, hd⟩, _⟩ := st
    have e' : b = e ∨ b = it := by simpa using hb
    rcases e' with z | z
    · rw [z]; exact ⟨_, he, fun v q => nomatch q⟩
    · rw [z]; exact ⟨o, ho, fun v q => by rw [hd] at q; cases q⟩
  keep := fun i h h' st k => let ⟨⟨old, he⟩, hi, hne⟩ := st; ⟨⟨old, k e (by simp) _ he⟩, hi.at fun o q => k it (by simp) o q, hne⟩
  item := by
    intro X hP hw hK hc i pins s σ H E I hf st hg
    subst hP hw hK
    obtain ⟨⟨old, he⟩, hit, hne⟩ := st
    obtain ⟨xs, x, hq, hx⟩ := hg
    obtain ⟨its, rv, p, hz⟩ := I.tuple hq
    obtain ⟨u, hu, ru⟩ := rv.get hx
    have pt : s.heap.IsTuple a its.toArray := p
    have hel : e < s.heap.objs.size := Heap.lt_size he
    have hil : it < s.heap.objs.size := by obtain ⟨_, q, _⟩ := hit; exact Heap.lt_size q
    have nti : a ≠ it := fun z => by
      obtain ⟨o1, q1, c1, _⟩ := hit
      obtain ⟨o2, q2, c2, _⟩ := pt
      rw [z, q1] at q2; cases q2
      rw [c1] at c2
      injection c2 with c3
      exact absurd c3 (by decide)
    have nte : e ≠ a := fun z => by
      obtain ⟨o2, q2, c2, _⟩ := pt
      rw [← z] at q2
      rw [show s.heap.get? e = _ from he] at q2; cases q2
      injection c2 with c3
      exact absurd c3 (by decide)
    have hlt : i < its.toArray.size := by
      have := (List.getElem?_eq_some_iff.mp hu).1
      simpa using this
    refine wpAny_pyNext_enum_itemD (Draws.tuple (show X.A.in1.handled = none from I.ok.hd hc) it a nti its.toArray) he ⟨hit, pt⟩ hlt hne (by simp [hne, nte]) fun y h' tk hy ho hst' hT hsz hk => ?_
    have ey : y = u := by
      have h1 : its[i]? = some y := by simpa using hy
      rw [hu] at h1
      exact (Option.some.inj h1).symm
    subst ey
    refine ⟨_, rfl, wpAny_letOwnedTupleGo_enum (s := { s with heap := h', toks := tk + 1 }) ho fun h'' he' sb => ?_⟩
    have hT2 : h''.get? s.heap.objs.size = some { cls := .type "tuple", data := .seq #[.int i tk, y] } := (sb.2 _ (Nat.ne_of_gt hel)).trans hT
    have new : ObjOk X.prog X.w (upd H s.heap.objs.size (.tup [.int (i : Nat), x])) h'' s.heap.objs.size (.tup [.int (i : Nat), x]) :=
      ⟨by show 2 ≤ sizeLine; decide, [.int i tk, y], .cons ⟨_, rfl⟩ (.cons ru .nil), ⟨_, hT2, rfl, _, rfl⟩⟩
    have I1 : Inv X pins σ (upd H s.heap.objs.size (.tup [.int (i : Nat), x])) { s with heap := h'', toks := tk + 1 } :=
      I.turnedNew (ch := [e, it]) (fun b ob hb q => (sb.2 b (fun z => hb (by simp [z]))).trans (hk b ob (fun z => hb (by simp [z])) (fun z => hb (by simp [z])) q)) hf (Nat.le_refl _) new
    refine ⟨.ref s.heap.objs.size, _, I1, rfl, ⟨_, x, rfl, I.hok.fresh (Nat.le_refl _), rfl, fun ys hy => by rw [I.tuple_inj hy hq]; exact hx⟩, ⟨⟨y, ?_⟩, hst'.1.at fun o q => (sb.2 it (Ne.symm hne)).trans q, hne⟩, fun b hb => ?_⟩
    · have e1 : ((i + 1 : Nat) : Int) = (i : Int) + 1 := by omega
      rw [e1]; exact he'
    · have hb' : b < s.heap.objs.size := by
        have e' : b = e ∨ b = it := by simpa using hb
        rcases e' with z | z
        · rw [z]; exact hel
        · rw [z]; exact hil
      rw [upd_ne (Nat.ne_of_lt hb')]
      exact (hf b hb).1
  done := by
    intro X hP hw hK hc i pins s σ H E I hf st hg
    subst hP hw hK
    obtain ⟨⟨old, he⟩, hit, hne⟩ := st
    obtain ⟨xs, hq, hx⟩ := hg
    obtain ⟨its, rv, p, hz⟩ := I.tuple hq
    have pt : s.heap.IsTuple a its.toArray := p
    have nti : a ≠ it := fun z => by
      obtain ⟨o1, q1, c1, _⟩ := hit
      obtain ⟨o2, q2, c2, _⟩ := pt
      rw [z, q1] at q2; cases q2
      rw [c1] at c2
      injection c2 with c3
      exact absurd c3 (by decide)
    obtain ⟨f0, f1, f2, f3, f4, f5⟩ := hf it (by simp)
    have hl := rv.length
    have hi : i = its.toArray.size := by rw [List.size_toArray]; omega
    rw [hi] at hit
    exact wpAny_pyNext_enum_endD (Draws.tuple (show X.A.in1.handled = none from I.ok.hd hc) it a nti its.toArray) he ⟨hit, pt⟩ fun h' eb => ⟨rfl, I.turned (t' := s.toks) (fun b o hb q => eb b o hb q) f0 f1 f3 f4 f5⟩
  self := fun A i s Q E st h => let ⟨⟨_, he⟩, _⟩ := st; wpAny_pyIter_enum he h
def iEnumT (K : PySem.W.Frag) (ta : TA) : TI := fun σ H R => ta σ H fun vs H1 => ∃ a xs, vs = [.ref a] ∧ SqT K H1 a xs ∧ R (IteT K a) H1
theorem pi_enumT {X : Cx} {e : Expr} {ta : TA} {p pos tpos : Pos} {elts : List Expr} {kk : Nat} (hg : Gl X "enumerate") (hm : X.mg "enumerate" = none) (ha : PA X [e] ta) (hs : starEach [e] X.env = [(false, eval e X.env)] := by rfl) :
    PI X (.Tuple elts kk tpos) (.Call (.Name "enumerate" p) [e] [] pos) (iEnumT X.K ta) := by
  refine ⟨fun pins s σ H R I h => ?_⟩
  refine Call_ (ld_blt I hg hm PyProof.Rows.boot_enumerate (PyProof.Rows.callWith_type1 (thn (ha.run pos pins s σ H _ I h) fun us s1 ⟨vs, H1, I1, r1, q1⟩ => ?_) hs rfl))
  obtain ⟨a, xs, ex, hq, q⟩ := q1
  subst ex
  cases r1 with
  | cons r rr =>
    cases rr
    cases r
    obtain ⟨its, rv, p', hz⟩ := I1.tuple hq
    have pt : s1.heap.IsTuple a its.toArray := p'
    refine call_enum1 (begins_tuple a its.toArray) pt fun h' he hit hsz hk => wpAny_pyIter_enum he ?_
    have I2 : Inv X pins σ H1 { s1 with heap := h' } := I1.kept (t' := s1.toks) hk
    refine ⟨s1.heap.objs.size + 1, [s1.heap.objs.size + 1, s1.heap.objs.size], _, _, H1, rfl, I2, turn_enumT a (s1.heap.objs.size + 1) s1.heap.objs.size, ⟨⟨.none, he⟩, ⟨_, hit, rfl, rfl⟩, Nat.succ_ne_self _⟩, fun b hb => ?_, q⟩
    have e' : b = s1.heap.objs.size + 1 ∨ b = s1.heap.objs.size := by simpa using hb
    have hle : s1.heap.objs.size ≤ b := by
      rcases e' with z | z
      · rw [z]; exact Nat.le_add_right _ _
      · rw [z]; exact Nat.le_refl _
    exact I1.fpOk hle (I1.hok.fresh hle)
theorem walk_enumT {K : PySem.W.Frag} {a : Addr} {xs : List V} : Walk (IteT K a) xs.length (fun H => SqT K H a xs) (YPair (fun i => some (.int (i : Nat))) (fun i => xs[i]?)) := by
  refine ⟨fun i _ hi q => ⟨xs, xs[i], q, by simp [hi]⟩, fun _ q => ⟨xs, q, rfl⟩, fun i H v H' _ q y => ?_⟩
  obtain ⟨T, x, h1, h2, h3, h4⟩ := y
  exact ⟨T, .int (i : Nat), x, h1, h2, h3, rfl, h4 xs q⟩
/-! ### sorted(xs), xs a list of data that are alike -/
def rSortedD (K : PySem.W.Frag) : List V → Hp → VK → Prop := fun vs H Q => ∃ (a : Addr) (xs : List V) (ds : List PyData), vs = [.ref a] ∧ SqL K H a xs ∧ DpAll K H xs ds ∧ PySem.W.AllAlike ds ∧ PySem.W.Sortable ds ∧ (∀ d ∈ ds, d.depth ≤ 10) ∧
  ∀ (ys : List V) (p : Addr), ys.Perm xs → H p = none → Q (.ref p) (upd H p (.lst ys))
theorem dpAll_len {K : PySem.W.Frag} {H : Hp} : ∀ {xs : List V} {ds : List PyData}, DpAll K H xs ds → xs.length = ds.length
  | _, _, .nil => rfl
  | _, _, .cons _ r => congrArg Nat.succ (dpAll_len r)
theorem each_vals : ∀ {xs : List V} {ds : List PyData} {us : List Value}, xs.length = ds.length → Vals xs us → PySem.W.EachIs (fun (u : Value) (b : V × PyData) => RelV b.1 u) us (xs.zip ds)
  | [], [], _, _, r => by cases r; exact .nil
  | x :: xs, d :: ds, _, hl, r => by
    cases r with
    | cons a t => exact .cons a (each_vals (by simpa using hl) t)
  | [], _ :: _, _, hl, _ => by cases hl
  | _ :: _, [], _, hl, _ => by cases hl
theorem vals_each : ∀ {bs : List (V × PyData)} {us : List Value}, PySem.W.EachIs (fun (u : Value) (b : V × PyData) => RelV b.1 u) us bs → Vals (bs.map Prod.fst) us
  | _, _, .nil => .nil
  | _, _, .cons a t => .cons a (vals_each t)
theorem zip_fst {α β : Type} : ∀ {xs : List α} {ds : List β}, xs.length = ds.length → (xs.zip ds).map Prod.fst = xs
  | [], [], _ => rfl
  | x :: xs, d :: ds, h => congrArg (x :: ·) (zip_fst (by simpa using h))
theorem zip_snd {α β : Type} : ∀ {xs : List α} {ds : List β}, xs.length = ds.length → (xs.zip ds).map Prod.snd = ds
  | [], [], _ => rfl
  | x :: xs, d :: ds, h => congrArg (d :: ·) (zip_snd (by simpa using h))
theorem cr_sortedD {X : Cx} (hu : X.A.units + 64 < cLine) : CallR X (.builtin "sorted") (rSortedD X.K) := by
  intro pins s σ H vs us Q I r h
  obtain ⟨a, xs, ds, rfl, hs, hd, hal, hso, hdep, q⟩ := h
  obtain ⟨its, rv, hl, hz⟩ := I.list hs
  rw [Vals.ref1 r]
  have hlen := dpAll_len hd
  obtain ⟨as, ra⟩ := Dp.readsAll I ds xs its hd rv
  have em : (xs.zip ds).map Prod.snd = ds := zip_snd hlen
  have zl : (xs.zip ds).length = xs.length := by rw [List.length_zip]; omega
  refine PySem.W.sorted_data (β := V × PyData) (R := fun u b => RelV b.1 u) (enc := Prod.snd) (bs := xs.zip ds) (vs := its) hl.isList (each_vals hlen rv) (PySem.W.readsAll_each Prod.snd (by rw [em]; exact ra)) (by rw [em]; exact hal) (by rw [em]; exact hso) (by rw [zl]; exact hz) ?_ fun out hout he => ?_
  · intro b hb
    have hm : b.2 ∈ ds := by rw [← em]; exact List.mem_map.mpr ⟨b, hb, rfl⟩
    have := hdep _ hm
    omega
  · have pm : (((xs.zip ds).mergeSort (PySem.W.dataLe false Prod.snd)).map Prod.fst).Perm xs := by
      have h1 := (List.mergeSort_perm (xs.zip ds) (PySem.W.dataLe false Prod.snd)).map Prod.fst
      rw [zip_fst hlen] at h1
      exact h1
    obtain ⟨ep, he'⟩ := PyProof.Rows.sortedAll_at s.heap its out.toArray
    exact ⟨.ref _, upd H (s.heap.objs.size + 1) (.lst (((xs.zip ds).mergeSort (PySem.W.dataLe false Prod.snd)).map Prod.fst)), I.laid (t' := s.toks) (fun _ _ => PyProof.Rows.sortedAll_old) (Nat.le_succ _) ⟨by rw [pm.length_eq]; exact hz, out, ep, vals_each he, he'⟩, rfl, q _ _ pm (I.hok.fresh (Nat.le_succ _))⟩
end K12
set_option linter.all false
set_option maxRecDepth 100000
set_option maxHeartbeats 1600000
/-! K12w9: the law's marks. -/
namespace K12
open PySem PySem.Spec PyProof.Rows L2
def placeN : W → Nat × Nat × Nat | .wi => (0, 1, 2) | .be => (0, 2, 1) | .ah => (1, 2, 0)
def placeD (w : W) : PyData := rowD [(placeN w).1, (placeN w).2.1, (placeN w).2.2]
theorem placeP (w : W) (r : T3) : ([iv r.1, iv r.2.1, iv r.2.2] : List V)[(placeN w).1]? = some (iv (pk w r)) := by cases w <;> rfl
theorem placeQ (w : W) (r : T3) : ([iv r.1, iv r.2.1, iv r.2.2] : List V)[(placeN w).2.1]? = some (iv (qk w r)) := by cases w <;> rfl
theorem placeR (w : W) (r : T3) : ([iv r.1, iv r.2.1, iv r.2.2] : List V)[(placeN w).2.2]? = some (iv (rk w r)) := by cases w <;> rfl
theorem canLay_rows : ∀ os : List (List Nat), PyData.canLayAll0 (os.map rowD) = true
  | [] => by simp [PyData.canLayAll0]
  | o :: os => by simp only [List.map, PyData.canLayAll0, rowD, PyData.canLay0, canLay_ints, canLay_rows os, Bool.and_self]
theorem depth_rows : ∀ os : List (List Nat), PyData.depthAll (os.map rowD) ≤ 1
  | [] => by simp [PyData.depthAll]
  | o :: os => by
    have := depth_rows os
    simp only [List.map, PyData.depthAll, rowD, PyData.depth, depth_ints]
    omega
theorem shaped_rows (os : List (List Nat)) : SeqAt.shaped (.list (os.map rowD)) = true := by
  unfold SeqAt.shaped
  have := depth_rows os
  simp only [PyData.canLay0, canLay_rows, PyData.depth, Bool.true_and]
  exact decide_eq_true (by omega)
/-- two entries that tear marks -/
def Viol (m : List Nat) (w : W) (r r' : T3) : Prop := mq m (pk w r) = mq m (pk w r') ∧ mq m (qk w r) = mq m (qk w r') ∧ mq m (rk w r) < mq m (rk w r')
/-- what m makes one, each closed m' makes one -/
def Least (n : Nat) (m : List Nat) (es : List T3) : Prop := ∀ m', MClosed m' es → ∀ x y, x < n → y < n → mq m x = mq m y → mq m' x = mq m' y
/-- closed, and no coarser than it must be -/
def Low (n : Nat) (m : List Nat) : Prop := ∀ k, k < n → mq m k ≤ k
structure Clo (n : Nat) (m : List Nat) (es : List T3) : Prop where
  cl : MClosed m es
  le : Least n m es
  len : m.length = n
  ok : Mk n m
  low : Low n m
theorem Low.start (n : Nat) : Low n (List.range n) := fun k hk => by
  have g : mq (List.range n) k = k := by simp [mq, List.getD, List.getElem?_range hk]
  omega
theorem Low.merge {n : Nat} {m : List Nat} (h : Low n m) (lm : m.length = n) {a b : Nat} (hlt : a < b) : Low n (mergeM m a b) := fun k hk => by
  have := h k hk
  rw [merge_get (by omega)]
  split <;> omega
theorem Clo.same {n : Nat} {m m' : List Nat} {es : List T3} (c : Clo n m es) (c' : Clo n m' es) {k : Nat} (hk : k < n) : mq m k = mq m' k := by
  have half : ∀ {m m' : List Nat}, Clo n m es → Clo n m' es → mq m' k ≤ mq m k := by
    intro m m' c c'
    have e := c.le m' c'.cl (mq m k) k (c.ok.lt k hk) hk (c.ok.id k hk)
    rw [← e]
    exact c'.low _ (c.ok.lt k hk)
  exact Nat.le_antisymm (half c' c) (half c c')
theorem Least.start (n : Nat) (es : List T3) : Least n (List.range n) es := fun m' _ x y hx hy e => by
  have g : ∀ k, k < n → mq (List.range n) k = k := fun k hk => by simp [mq, List.getD, List.getElem?_range hk]
  rw [g x hx, g y hy] at e; rw [e]
theorem Least.merge {n : Nat} {m : List Nat} {es : List T3} (h : Least n m es) (lm : m.length = n) (R : Rows n es) {w : W} {r r' : T3} (hr : r ∈ es) (hr' : r' ∈ es) (v : Viol m w r r') : Least n (mergeM m (mq m (rk w r)) (mq m (rk w r'))) es := by
  intro m' c x y hx hy e
  obtain ⟨a1, a2, a3⟩ := R.lt hr w
  obtain ⟨b1, b2, b3⟩ := R.lt hr' w
  have base : mq m' (rk w r) = mq m' (rk w r') := c.resp w r hr r' hr' (h m' c _ _ a1 b1 v.1) (h m' c _ _ a2 b2 v.2.1)
  rw [merge_get (by omega), merge_get (by omega)] at e
  by_cases hxx : mq m x = mq m (rk w r')
  · rw [if_pos hxx] at e
    have e1 := h m' c _ _ hx b3 hxx
    by_cases hyy : mq m y = mq m (rk w r')
    · exact e1.trans (h m' c _ _ hy b3 hyy).symm
    · rw [if_neg hyy] at e
      have e2 := h m' c _ _ a3 hy e
      rw [e1, ← base, e2]
  · rw [if_neg hxx] at e
    by_cases hyy : mq m y = mq m (rk w r')
    · rw [if_pos hyy] at e
      have e1 := h m' c _ _ hy b3 hyy
      have e2 := h m' c _ _ hx a3 e
      rw [e1, ← base, e2]
    · rw [if_neg hyy] at e
      exact h m' c _ _ hx hy e
def ws3 : List W := [.wi, .be, .ah]
section
variable {P : Program} {w : World} {K : PySem.W.Frag} {mg : Str → Option Value} {base : Heap}
theorem f_EvDl {tl : TE} {g : TG} {tb : TS} {D : Ends} {σ : L2.St} {H : Hp} {ds : List PyData} (h : EvDl K tl σ H ds)
    (k : ∀ p xs H2, H p = none → Fr S0 H H2 → H2 p = some (.lst xs) → DTs K H2 xs ds → ∃ W : Nat → Nat → L2.St → Hp → Prop, (∃ m, W 0 m σ H2) ∧ ∀ i m σ H, W i m σ H →
      ((Itl K p).stop i H ∧ D.nx σ H) ∨ ((Itl K p).go i H ∧ ∃ N : L2.St → Hp → Prop, (∀ σ' H', N σ' H' → ∃ m', m' < m ∧ W (i + 1) m' σ' H') ∧ ∀ x H', (Itl K p).yld i H x H' → g x σ H' fun σ2 H2 => tb { D with nx := N, ct := N, bk := D.nx } σ2 H2)) : tFor (iList K tl) g tb D σ H :=
  h H (Fr.refl _ _) _ fun p xs H2 hp f e t => ⟨p, rfl, ⟨xs, SqL.of e⟩, k p xs H2 hp f e t⟩
def spClose (K : PySem.W.Frag) : Sp := fun vs H Q _ => ∃ (ma ra : Addr) (n : Nat) (es : List T3) (xs : List V), vs = [.ref ma, .ref ra] ∧ H ma = some (.lst (ivs (List.range n))) ∧ H ra = some (.lst xs) ∧ DTs K H xs (es.map t3D) ∧ ma ≠ ra ∧ Rows n es ∧ 0 < n ∧ n ≤ 10 ∧ es.length ≤ 10 ∧
  ∀ (m : List Nat) H', Clo n m es → H' ma = some (.lst (ivs m)) → Fr (S1 ma) H H' → Q (.ref ma) H'
abbrev sClose : Stmt := top 60
abbrev nClose : List Str := ["_law_marks_here", "_law_rows", "_law_turn", "_law_pairs_here", "_law_one", "_law_other", "_law_first", "_law_second", "_law_third", "_law_low", "_law_high", "_law_thing"]
theorem scClose : FnScope nClose ["_law_marks_here", "_law_rows"] (defScope sClose) := ⟨rfl, rfl, rfl, by decide +kernel, rfl, by decide +kernel, by decide +kernel⟩
theorem ok_close (D : Df K mg "_law_close" sClose ["_law_marks_here", "_law_rows"]) (T : Bi mg) : Cl P w K mg base "_law_close" ["_law_marks_here", "_law_rows"] 1 (spClose K) := by
  refine D.ok scClose (fun vs H Q E h => ?_) (fun f cdv A outer s H vs Q E hr h => ?_)
  · obtain ⟨ma, ra, n, es, xs, rfl, _⟩ := h
    rfl
  · obtain ⟨ma, ra, n, es, xs, rfl, hma, hra, hx, hne, R, hn0, hn1, hlen, k⟩ := h
    refine ⟨_, pss_cons (ps_for PassesOwn.never rfl (pi_range1 rfl T.range (pa_cons (pe_callB call_len_seq (by rfl) T.len PySem.boot_len (pa_cons (pv 0) pa_nil)) pa_nil)) (pg_name (i := 2) scClose.nd rfl (Or.inl rfl)) (pss_cons (ps_set (i := 3) scClose.nd rfl (Or.inl rfl) (pe_lst pa_nil)) (pss_cons (ps_for PassesOwn.never rfl (pi_list (pv 1)) (pg_name (i := 4) scClose.nd rfl (Or.inl rfl)) (pss_one (ps_for PassesOwn.never rfl (pi_list (pv 1)) (pg_name (i := 5) scClose.nd rfl (Or.inl rfl)) (pss_one (ps_for PassesOwn.never rfl (pi_list (pe_lst (pa_cons (pe_tup (pa_cons pe_int (pa_cons pe_int (pa_cons pe_int pa_nil)))) (pa_cons (pe_tup (pa_cons pe_int (pa_cons pe_int (pa_cons pe_int pa_nil)))) (pa_cons (pe_tup (pa_cons pe_int (pa_cons pe_int (pa_cons pe_int pa_nil)))) pa_nil))))) (pg_tup (by rfl) (pgs_cons (pg_name (i := 6) scClose.nd rfl (Or.inl rfl)) (pgs_cons (pg_name (i := 7) scClose.nd rfl (Or.inl rfl)) (pgs_cons (pg_name (i := 8) scClose.nd rfl (Or.inl rfl)) pgs_nil)))) (pss_one (ps_if (PW.pt (pw_and (pt_cmpR op_eq (pe_ix ix_list (pv 0) (pe_ix ix_tup (pv 4) (pv 6) (fun _ _ => rfl)) (fun _ _ => rfl)) (pe_ix ix_list (pv 0) (pe_ix ix_tup (pv 5) (pv 6) (fun _ _ => rfl)) (fun _ _ => rfl)) (nomark _)) (pw_and1 (pt_cmpR op_eq (pe_ix ix_list (pv 0) (pe_ix ix_tup (pv 4) (pv 7) (fun _ _ => rfl)) (fun _ _ => rfl)) (pe_ix ix_list (pv 0) (pe_ix ix_tup (pv 5) (pv 7) (fun _ _ => rfl)) (fun _ _ => rfl)) (nomark _))))) (pss_one (ps_if (pt_cmpR op_lt (pe_ix ix_list (pv 0) (pe_ix ix_tup (pv 4) (pv 8) (fun _ _ => rfl)) (fun _ _ => rfl)) (pe_ix ix_list (pv 0) (pe_ix ix_tup (pv 5) (pv 8) (fun _ _ => rfl)) (fun _ _ => rfl)) (nomark _)) (pss_one (ps_expr (pe_bm PySem.F.plainAttrs_list PySem.F.slot_list_append PySem.F.type_list_append mt_append (pv 3) (pa_cons (pe_tup (pa_cons (pe_ix ix_list (pv 0) (pe_ix ix_tup (pv 4) (pv 8) (fun _ _ => rfl)) (fun _ _ => rfl)) (pa_cons (pe_ix ix_list (pv 0) (pe_ix ix_tup (pv 5) (pv 8) (fun _ _ => rfl)) (fun _ _ => rfl)) pa_nil))) pa_nil)))) pss_nil)) pss_nil))))))) (pss_cons (ps_if (pt_cmpR (op_eqD hr.units) (pv 3) (pe_lst pa_nil) (nomark _)) (pss_one ps_break) pss_nil) (pss_cons (ps_asg (pe_ix ix_list (pv 3) pe_int (fun _ _ => rfl)) (pg_tup (by rfl) (pgs_cons (pg_name (i := 9) scClose.nd rfl (Or.inl rfl)) (pgs_cons (pg_name (i := 10) scClose.nd rfl (Or.inl rfl)) pgs_nil)))) (pss_one (ps_for PassesOwn.never rfl (pi_range1 rfl T.range (pa_cons (pe_callB call_len_seq (by rfl) T.len PySem.boot_len (pa_cons (pv 0) pa_nil)) pa_nil)) (pg_name (i := 11) scClose.nd rfl (Or.inl rfl)) (pss_one (ps_if (pt_cmpR op_eq (pe_ix ix_list (pv 0) (pv 11) (fun _ _ => rfl)) (pv 10) (nomark _)) (pss_one (ps_asg (pv 9) (pg_sub (pv 0) (pv 11) set_list))) pss_nil))))))))) (pss_one (ps_ret (pv 0))), ?_⟩
    have lxs : xs.length = es.length := by rw [hx.len, List.length_map]
    have lR : (ivs (List.range n)).length = n := by simp [ivs]
    refine ⟨_, rfl, ma, _, rfl, .inl (SqL.of hma), _, rfl, by rw [lR]; omega, by rw [lR]; omega, for_range (lo := 0) (n := (((ivs (List.range n)).length : Nat) : Int).toNat) (fun i σ H' => ∃ (m : List Nat) (v2 v3 v4 v5 v6 v7 v8 v9 v10 v11 : Option V), σ = [some (.ref ma), some (.ref ra), v2, v3, v4, v5, v6, v7, v8, v9, v10, v11] ∧ H' ma = some (.lst (ivs m)) ∧ Fr (S1 ma) H H' ∧ Mk n m ∧ (Least n m es ∧ Low n m) ∧ nMk n m + i ≤ n) ?_ ?_ ?_⟩
    · exact ⟨_, _, _, _, _, _, _, _, _, _, _, rfl, hma, Fr.refl _ _, Mk.start n, ⟨Least.start n es, Low.start n⟩, nMk_start n⟩
    · rintro i σ H' hi ⟨m, v2, v3, v4, v5, v6, v7, v8, v9, v10, v11, rfl, em, f1, M, LE, hnm⟩
      have lm : m.length = n := M.len
      have lmi : (ivs m).length = n := by rw [ivs_len]; exact lm
      have raN : ¬ S1 ma ra := fun e => hne e.symm
      have er := f1.keep _ _ hra raN
      have hx1 := hx.fr f1
      refine ⟨Nat.zero_le _, fun p hp => ?_⟩
      have npm : p ≠ ma := (ne_of_none em hp).symm
      have npr : p ≠ ra := (ne_of_none er hp).symm
      have np0 : H p = none := f1.freeS (S := S1 ma) npm hp
      -- what holds of the pairs found so far
      let PI : (T3 → T3 → W → Prop) → Nat → Hp → Prop := fun dn c H'' => ∃ (prs : List (Nat × Nat)) (ys : List V), prs.length ≤ c ∧ H'' p = some (.lst ys) ∧ DTs K H'' ys (prs.map p2D) ∧ (∀ q ∈ prs, ∃ w r r', r ∈ es ∧ r' ∈ es ∧ q = (mq m (rk w r), mq m (rk w r')) ∧ Viol m w r r') ∧ (prs = [] → ∀ r r' w, dn r r' w → ¬ Viol m w r r') ∧ Fr S0 H' H''
      have at_m : ∀ {H'' : Hp} {a : Nat}, Fr S0 H' H'' → a < n → SqL K H'' ma (ivs m) ∧ (ivs m)[a]? = some (iv (mq m a)) := fun f ha => ⟨SqL.of (f.keep _ _ em (fun z => z)), ivs_at (by omega)⟩
      refine ⟨_, rfl, ra, rfl, ⟨_, SqL.of (((Fr.refl S0 H').new hp).keep _ _ er (fun z => z))⟩, for_list (K := K) (a := ra) (xs := xs) (fun i1 σ H'' => ∃ (v4 v5 v6 v7 v8 : Option V), σ = [some (.ref ma), some (.ref ra), some (.int (0 + (i : Int))), some (.ref p), v4, v5, v6, v7, v8, v9, v10, v11] ∧ PI (fun r r' w => r ∈ es.take i1 ∧ r' ∈ es) (30 * i1) H'') ?_ ?_ ?_ ?_⟩
      · exact ⟨_, _, _, _, _, rfl, [], [], Nat.zero_le _, upd_same, .nil, by simp, fun _ r r' w h => by simp at h, (Fr.refl _ _).new hp⟩
      · rintro i1 σ H'' _ ⟨_, _, _, _, _, rfl, prs, ys, _, _, _, _, _, f2⟩
        exact SqL.of (f2.keep _ _ er (fun z => z))
      · rintro i1 x1 σ H'' hx1' ⟨v4, v5, v6, v7, v8, rfl, g⟩
        have fr2 : Fr S0 H' H'' := by obtain ⟨_, _, _, _, _, _, _, f2⟩ := g; exact f2
        obtain ⟨r1, q1, er1, rfl, tr1⟩ := t3_at (hx1.fr fr2) hx1'
        have hi1 : i1 < es.length := (List.getElem?_eq_some_iff.mp er1).1
        obtain ⟨R1a, R1b, R1c⟩ := R r1 (List.mem_of_getElem? er1)
        refine ⟨_, rfl, ra, rfl, ⟨_, SqL.of (fr2.keep _ _ er (fun z => z))⟩, for_list (K := K) (a := ra) (xs := xs) (fun i2 σ H'' => ∃ (v5 v6 v7 v8 : Option V), σ = [some (.ref ma), some (.ref ra), some (.int (0 + (i : Int))), some (.ref p), some (.ref q1), v5, v6, v7, v8, v9, v10, v11] ∧ PI (fun r r' w => (r ∈ es.take i1 ∧ r' ∈ es) ∨ (r = r1 ∧ r' ∈ es.take i2)) (30 * i1 + 3 * i2) H'') ?_ ?_ ?_ ?_⟩
        · obtain ⟨prs, ys, g1, g2, g3, g4, g5, g6⟩ := g
          exact ⟨_, _, _, _, rfl, prs, ys, by omega, g2, g3, g4, fun e r r' w h => g5 e r r' w (h.elim id fun h => by simp at h), g6⟩
        · rintro i2 σ H'' _ ⟨_, _, _, _, rfl, prs, ys, _, _, _, _, _, f2⟩
          exact SqL.of (f2.keep _ _ er (fun z => z))
        · rintro i2 x2 σ H3 hx2' ⟨v5, v6, v7, v8, rfl, g⟩
          have fr3 : Fr S0 H' H3 := by obtain ⟨_, _, _, _, _, _, _, f2⟩ := g; exact f2
          obtain ⟨r2, q2, er2, rfl, tr2⟩ := t3_at (hx1.fr fr3) hx2'
          obtain ⟨r1', q1', er1', eq1', tr1'⟩ := t3_at (hx1.fr fr3) hx1'
          cases eq1'
          rw [er1] at er1'; cases er1'
          have hi2 : i2 < es.length := (List.getElem?_eq_some_iff.mp er2).1
          -- the three places
          have ev : EvDl K (tLst (tCons (tTup (tCons (tC (.int 0)) (tCons (tC (.int 1)) (tCons (tC (.int 2)) tNil)))) (tCons (tTup (tCons (tC (.int 0)) (tCons (tC (.int 2)) (tCons (tC (.int 1)) tNil)))) (tCons (tTup (tCons (tC (.int 1)) (tCons (tC (.int 2)) (tCons (tC (.int 0)) tNil)))) tNil))))
              [some (.ref ma), some (.ref ra), some (.int (0 + (i : Int))), some (.ref p), some (.ref q1), some (.ref q2), v6, v7, v8, v9, v10, v11] H3 (ws3.map placeD) :=
            evDl_lst (evDs_cons (evD_tup (evDs_cons evD_int (evDs_cons evD_int (evDs_cons evD_int evDs_nil))) l3) (evDs_cons (evD_tup (evDs_cons evD_int (evDs_cons evD_int (evDs_cons evD_int evDs_nil))) l3) (evDs_cons (evD_tup (evDs_cons evD_int (evDs_cons evD_int (evDs_cons evD_int evDs_nil))) l3) evDs_nil))) l3
          unfold gName
          refine f_EvDl ev (fun pl zs H4 npl f4 epl tpl => ?_)
          have npp : pl ≠ p := by
            obtain ⟨_, _, _, g2, _⟩ := g
            exact (ne_of_none g2 npl).symm
          have lzs : zs.length = 3 := by rw [tpl.len]; rfl
          refine for_list (K := K) (a := pl) (xs := zs) (fun i3 σ H5 => ∃ (v6 v7 v8 : Option V), σ = [some (.ref ma), some (.ref ra), some (.int (0 + (i : Int))), some (.ref p), some (.ref q1), some (.ref q2), v6, v7, v8, v9, v10, v11] ∧ H5 pl = some (.lst zs) ∧ DTs K H5 zs (ws3.map placeD) ∧
            PI (fun r r' w => ((r ∈ es.take i1 ∧ r' ∈ es) ∨ (r = r1 ∧ r' ∈ es.take i2)) ∨ (r = r1 ∧ r' = r2 ∧ w ∈ ws3.take i3)) (30 * i1 + 3 * i2 + i3) H5) ?_ ?_ ?_ ?_
          · obtain ⟨prs, ys, g1, g2, g3, g4, g5, g6⟩ := g
            exact ⟨_, _, _, rfl, epl, tpl, prs, ys, by omega, f4.keep _ _ g2 (fun z => z), g3.fr f4, g4, fun e r r' w h => g5 e r r' w (h.elim id fun h => by simp at h), g6.trans f4⟩
          · rintro i3 σ H5 _ ⟨_, _, _, rfl, h, _⟩
            exact SqL.of h
          · rintro i3 x3 σ H5 hx3 ⟨v6, v7, v8, rfl, epl5, tpl5, prs, ys, g1, g2, g3, g4, g5, g6⟩
            obtain ⟨d, h1, h2⟩ := tpl5.at hx3
            obtain ⟨u, h3, rfl⟩ := map_at h1
            obtain ⟨q3, rfl, t3⟩ := row_inv h2
            have hi3 : i3 < 3 := by have := (List.getElem?_eq_some_iff.mp hx3).1; omega
            obtain ⟨r1', q1', er1', eq1', tr1⟩ := t3_at (hx1.fr g6) hx1'
            cases eq1'
            rw [er1] at er1'; cases er1'
            obtain ⟨r2', q2', er2', eq2', tr2⟩ := t3_at (hx1.fr g6) hx2'
            cases eq2'
            rw [er2] at er2'; cases er2'
            obtain ⟨a1, a2, a3⟩ := R.lt (List.mem_of_getElem? er1) u
            obtain ⟨b1, b2, b3⟩ := R.lt (List.mem_of_getElem? er2) u
            have took : ∀ {r r' : T3} {w : W}, (((r ∈ es.take i1 ∧ r' ∈ es) ∨ (r = r1 ∧ r' ∈ es.take i2)) ∨ (r = r1 ∧ r' = r2 ∧ w ∈ ws3.take (i3 + 1))) → (((r ∈ es.take i1 ∧ r' ∈ es) ∨ (r = r1 ∧ r' ∈ es.take i2)) ∨ (r = r1 ∧ r' = r2 ∧ w ∈ ws3.take i3)) ∨ (r = r1 ∧ r' = r2 ∧ w = u) := by
              rintro r r' w (h | ⟨e1, e2, h⟩)
              · exact .inl (.inl h)
              · rw [List.take_succ, h3] at h
                rcases List.mem_append.mp h with h | h
                · exact .inl (.inr ⟨e1, e2, h⟩)
                · simp at h; exact .inr ⟨e1, e2, h⟩
            have skip : ¬ Viol m u r1 r2 → ∃ (v6 v7 v8 : Option V), [some (.ref ma), some (.ref ra), some (.int (0 + (i : Int))), some (.ref p), some (.ref q1), some (.ref q2), some (iv (placeN u).1), some (iv (placeN u).2.1), some (iv (placeN u).2.2), v9, v10, v11] = [some (.ref ma), some (.ref ra), some (.int (0 + (i : Int))), some (.ref p), some (.ref q1), some (.ref q2), v6, v7, v8, v9, v10, v11] ∧ H5 pl = some (.lst zs) ∧ DTs K H5 zs (ws3.map placeD) ∧
                PI (fun r r' w => ((r ∈ es.take i1 ∧ r' ∈ es) ∨ (r = r1 ∧ r' ∈ es.take i2)) ∨ (r = r1 ∧ r' = r2 ∧ w ∈ ws3.take (i3 + 1))) (30 * i1 + 3 * i2 + (i3 + 1)) H5 := by
              intro nv
              refine ⟨_, _, _, rfl, epl5, tpl5, prs, ys, by omega, g2, g3, g4, fun e r r' w h => ?_, g6⟩
              rcases took h with h | ⟨rfl, rfl, rfl⟩
              · exact g5 e r r' w h
              · exact nv
            have m1 := fun {a : Nat} (ha : a < n) => at_m g6 ha
            refine ⟨q3, _, rfl, t3.sq, rfl, _, _, rfl, _, _, rfl, _, _, rfl, rfl, ?_⟩
            refine ⟨_, rfl, _, rfl, _, rfl, q1, _, _, _, rfl, rfl, tr1.sq, atI_nat (placeP u r1), ma, _, _, _, rfl, rfl, (m1 a1).1, atI_nat (m1 a1).2, ?_⟩
            refine ⟨_, rfl, _, rfl, _, rfl, q2, _, _, _, rfl, rfl, tr2.sq, atI_nat (placeP u r2), ma, _, _, _, rfl, rfl, (m1 b1).1, atI_nat (m1 b1).2, rfl, _, rfl, ?_⟩
            by_cases hP : mq m (pk u r1) = mq m (pk u r2)
            · rw [ivT hP]
              refine iteT ?_
              refine ⟨_, rfl, _, rfl, _, rfl, q1, _, _, _, rfl, rfl, tr1.sq, atI_nat (placeQ u r1), ma, _, _, _, rfl, rfl, (m1 a2).1, atI_nat (m1 a2).2, ?_⟩
              refine ⟨_, rfl, _, rfl, _, rfl, q2, _, _, _, rfl, rfl, tr2.sq, atI_nat (placeQ u r2), ma, _, _, _, rfl, rfl, (m1 b2).1, atI_nat (m1 b2).2, rfl, _, rfl, ?_⟩
              by_cases hQ : mq m (qk u r1) = mq m (qk u r2)
              · rw [ivT hQ]
                refine iteT ?_
                refine ⟨_, rfl, _, rfl, _, rfl, q1, _, _, _, rfl, rfl, tr1.sq, atI_nat (placeR u r1), ma, _, _, _, rfl, rfl, (m1 a3).1, atI_nat (m1 a3).2, ?_⟩
                refine ⟨_, rfl, _, rfl, _, rfl, q2, _, _, _, rfl, rfl, tr2.sq, atI_nat (placeR u r2), ma, _, _, _, rfl, rfl, (m1 b3).1, atI_nat (m1 b3).2, _, _, rfl, rfl, _, rfl, ?_⟩
                refine ite2 (fun hlt => ?_) (fun hlt => ?_)
                · have hlt' : mq m (rk u r1) < mq m (rk u r2) := by
                    have h9 : ((mq m (rk u r1) : Nat) : Int) < ((mq m (rk u r2) : Nat) : Int) := of_decide_eq_true hlt
                    omega
                  refine ⟨_, rfl, .inl ⟨rfl, _, SqL.of g2⟩, ?_⟩
                  refine ⟨_, rfl, _, rfl, _, rfl, q1, _, _, _, rfl, rfl, tr1.sq, atI_nat (placeR u r1), ma, _, _, _, rfl, rfl, (m1 a3).1, atI_nat (m1 a3).2, ?_⟩
                  refine ⟨_, rfl, _, rfl, _, rfl, q2, _, _, _, rfl, rfl, tr2.sq, atI_nat (placeR u r2), ma, _, _, _, rfl, rfl, (m1 b3).1, atI_nat (m1 b3).2, ?_⟩
                  refine ⟨by show 2 ≤ sizeLine; decide, fun t ht => ?_⟩
                  have f6 : Fr S0 H5 (upd H5 t (.tup [iv (mq m (rk u r1)), iv (mq m (rk u r2))])) := (Fr.refl _ _).new ht
                  have g2' := f6.keep _ _ g2 (fun z => z)
                  refine ⟨p, ys, _, rfl, rfl, g2', by rw [g3.len, List.length_map]; exact sz (by omega), ?_⟩
                  have gg : Fr (S1 p) (upd H5 t (.tup [iv (mq m (rk u r1)), iv (mq m (rk u r2))])) (upd (upd H5 t (.tup [iv (mq m (rk u r1)), iv (mq m (rk u r2))])) p (.lst (ys ++ [.ref t]))) := (Fr.refl _ _).set rfl (lst_ne_tup g2')
                  refine ⟨_, _, _, rfl, ?_, (tpl5.fr f6).fr gg, prs ++ [(mq m (rk u r1), mq m (rk u r2))], ys ++ [.ref t], by simp; omega, upd_same, ?_, ?_, fun e => by simp at e, ?_⟩
                  · rw [upd_ne npp]; exact f6.keep _ _ epl5 (fun z => z)
                  · rw [List.map_append]
                    exact ((g3.fr f6).fr gg).append (.one (dt_row (gg.tup _ _ upd_same)))
                  · intro q hq
                    rcases List.mem_append.mp hq with h | h
                    · exact g4 q h
                    · simp at h; subst h; exact ⟨u, r1, r2, List.mem_of_getElem? er1, List.mem_of_getElem? er2, rfl, hP, hQ, hlt'⟩
                  · exact (g6.trans f6).mut hp
                · exact skip fun h => hlt (decide_eq_true (by have := h.2.2; omega))
              · rw [ivF hQ]
                exact iteF (skip fun h => hQ h.2.1)
            · rw [ivF hP]
              exact iteF (iteF (skip fun h => hP h.1))
          · rintro σ H5 ⟨v6, v7, v8, rfl, epl5, tpl5, prs, ys, g1, g2, g3, g4, g5, g6⟩
            rw [lzs] at g1 g5
            refine ⟨_, _, _, _, rfl, prs, ys, by omega, g2, g3, g4, fun e r r' w h => g5 e r r' w ?_, g6⟩
            rcases h with h | ⟨e1, h⟩
            · exact .inl (.inl h)
            · rw [List.take_succ, er2] at h
              rcases List.mem_append.mp h with h | h
              · exact .inl (.inr ⟨e1, h⟩)
              · simp at h
                exact .inr ⟨e1, h, by cases w <;> simp [ws3]⟩
        · rintro σ H3 ⟨v5, v6, v7, v8, rfl, prs, ys, g1, g2, g3, g4, g5, g6⟩
          rw [lxs] at g1 g5
          rw [List.take_length] at g5
          refine ⟨_, _, _, _, _, rfl, prs, ys, by omega, g2, g3, g4, fun e r r' w h => g5 e r r' w ?_, g6⟩
          obtain ⟨h1, h2⟩ := h
          rw [List.take_succ, er1] at h1
          rcases List.mem_append.mp h1 with h | h
          · exact .inl ⟨h, h2⟩
          · simp at h; exact .inr ⟨h, h2⟩
      · rintro σ H'' ⟨v4, v5, v6, v7, v8, rfl, prs, ys, g1, g2, g3, g4, g5, g6⟩
        rw [lxs] at g1 g5
        rw [List.take_length] at g5
        refine ⟨_, rfl, Nat.zero_le _, fun q hq => ?_⟩
        have f7 : Fr S0 H'' (upd H'' q (.lst [])) := (Fr.refl _ _).new hq
        have e7 := f7.keep _ _ g2 (fun z => z)
        have dp : Dp K (upd H'' q (.lst [])) (.ref p) (.list (prs.map p2D)) := .lst (SqL.of e7) (g3.fr f7).dp
        have sh : SeqAt.shaped (.list (prs.map p2D)) = true := by
          have : prs.map p2D = (prs.map fun q => [q.1, q.2]).map rowD := by rw [List.map_map]; rfl
          rw [this]; exact shaped_rows _
        refine ⟨_, _, dp, dp_ints (ns := []) upd_same, sh, shaped_nil, _, rfl, ?_⟩
        rw [show (([] : List Nat).map fun x : Nat => PyData.int (x : Int)) = [] from rfl, eqv_nil]
        have f17 : Fr (S1 ma) H (upd H'' q (.lst [])) := f1.trans ((g6.trans f7).mono fun a z => z.elim)
        have em7 : (upd H'' q (.lst [])) ma = some (.lst (ivs m)) := (g6.trans f7).keep _ _ em (fun z => z)
        cases prs with
        | nil =>
          refine iteT ?_
          -- closed
          have cl : MClosed m es := fun w r hr r' hr' e1 e2 hlt => g5 rfl r r' w ⟨hr, hr'⟩ ⟨e1, e2, hlt⟩
          exact ⟨_, rfl, k m _ ⟨cl, LE.1, lm, M, LE.2⟩ em7 f17⟩
        | cons pr rest =>
          refine iteF ?_
          obtain ⟨wv, r, r', hrm, hrm', rfl, hv⟩ := g4 pr List.mem_cons_self
          have LM : Least n _ es ∧ Low n _ := ⟨LE.1.merge lm R hrm hrm' hv, LE.2.merge lm hv.2.2⟩
          obtain ⟨_, _, ha⟩ := R.lt hrm wv
          obtain ⟨_, _, hb⟩ := R.lt hrm' wv
          have hlt := hv.2.2
          generalize rk wv r = a at *
          generalize rk wv r' = b at *
          have g3' := g3.fr f7
          obtain ⟨v0, y0, d0⟩ := g3'.get (i := 0) (d := p2D (mq m a, mq m b)) rfl
          obtain ⟨q0, rfl, t0⟩ := row_inv d0
          refine ⟨_, rfl, p, ys, _, _, rfl, rfl, SqL.of e7, atI_nat (j := 0) y0, q0, _, rfl, t0.sq, rfl, _, _, rfl, _, _, rfl, rfl, ?_⟩
          generalize upd H'' q (.lst []) = H7 at e7 f17 em7
          obtain ⟨MM, hdec⟩ := M.merge ha hb hlt
          refine ⟨_, rfl, ma, _, rfl, .inl (SqL.of em7), _, rfl, by rw [lmi]; omega, by rw [lmi]; omega, for_range (lo := 0) (n := (((ivs m).length : Nat) : Int).toNat) (fun t σ H8 => ∃ (ms : List Nat) (v11 : Option V), σ = [some (.ref ma), some (.ref ra), some (.int (0 + (i : Int))), some (.ref p), v4, v5, v6, v7, v8, some (iv (mq m a)), some (iv (mq m b)), v11] ∧ H8 ma = some (.lst (ivs ms)) ∧ Fr (S1 ma) H H8 ∧ ms.length = n ∧ ∀ k, k < n → mq ms k = if k < t ∧ mq m k = mq m b then mq m a else mq m k) ?_ ?_ ?_⟩
          · exact ⟨m, _, rfl, em7, f17, lm, fun k hk => by simp⟩
          · rintro t σ H8 ht ⟨ms, v11, rfl, e8, f8, l8, h8⟩
            have ht' : t < n := by rw [lmi] at ht; omega
            have et : ((0 : Int) + (t : Int)) = (t : Int) := by omega
            rw [et]
            refine ⟨_, rfl, _, rfl, ma, _, _, _, rfl, rfl, SqL.of e8, atI_nat (ivs_at (by rw [l8]; exact ht')), _, rfl, rfl, _, rfl, ?_⟩
            have hmt : ms.getD t 0 = mq m t := by
              have := h8 t ht'
              rw [if_neg (by omega)] at this
              exact this
            by_cases hc : mq m t = mq m b
            · rw [ivT (hmt.trans hc)]
              refine iteT ?_
              refine ⟨_, rfl, _, rfl, _, rfl, ma, _, _, t, rfl, rfl, e8, Evl.ixN_nat (by rw [ivs_len, l8]; exact ht'), ?_⟩
              rw [ivs_set]
              refine ⟨ms.set t (mq m a), _, rfl, upd_same, f8.set rfl (lst_ne_tup e8), by rw [List.length_set]; exact l8, fun k hk => ?_⟩
              unfold mq at h8 ⊢
              rw [getD_set (by rw [l8]; exact ht')]
              by_cases hkt : k = t
              · subst hkt
                rw [if_pos rfl, if_pos ⟨by omega, hc⟩]
              · rw [if_neg hkt, h8 k hk]
                by_cases h9 : k < t
                · simp [h9, show k < t + 1 by omega]
                · simp [h9, show ¬ k < t + 1 by omega]
            · rw [ivF (fun q => hc (hmt.symm.trans q))]
              refine iteF ?_
              refine ⟨ms, _, rfl, e8, f8, l8, fun k hk => ?_⟩
              rw [h8 k hk]
              by_cases hkt : k = t
              · subst hkt; simp [hc]
              · by_cases h9 : k < t
                · simp [h9, show k < t + 1 by omega]
                · simp [h9, show ¬ k < t + 1 by omega]
          · rintro σ H8 ⟨ms, v11, rfl, e8, f8, l8, h8⟩
            have ems : ms = mergeM m (mq m a) (mq m b) := by
              apply List.ext_getElem
              · rw [l8, MM.len]
              · intro k h1 h2
                have hk : k < n := by omega
                have e1 : ms.getD k 0 = _ := h8 k hk
                have e2 : (mergeM m (mq m a) (mq m b)).getD k 0 = if mq m k = mq m b then mq m a else mq m k := merge_get (by omega)
                rw [getD_lt h1] at e1
                rw [getD_lt h2] at e2
                rw [e1, e2]
                have : (k < (((ivs m).length : Nat) : Int).toNat) := by rw [lmi]; omega
                by_cases hc : mq m k = mq m b
                · rw [if_pos ⟨this, hc⟩, if_pos hc]
                · rw [if_neg (fun q => hc q.2), if_neg hc]
            subst ems
            exact ⟨_, _, _, _, _, _, _, _, _, _, _, rfl, e8, f8, MM, LM, by omega⟩
    · rintro σ H' ⟨m, v2, v3, v4, v5, v6, v7, v8, v9, v10, v11, rfl, em, f1, M, LE, hnm⟩
      have := M.pos hn0
      rw [lR] at hnm
      omega
end
end K12
set_option linter.all false
set_option maxRecDepth 100000
set_option maxHeartbeats 1600000
/-! K12w10: the law's marks of facts. -/
namespace K12
open PySem PySem.Spec PyProof.Rows L2
theorem iv_at {ks : List Nat} {i : Nat} {x : V} (h : (ivs ks)[i]? = some x) : ∃ k, ks[i]? = some k ∧ x = iv k := by
  unfold ivs at h
  rw [List.getElem?_map] at h
  cases e : ks[i]? with
  | none => rw [e] at h; cases h
  | some k => rw [e] at h; exact ⟨k, rfl, (Option.some.inj h).symm⟩
/-- the entries of these numbers -/
def pickE (es : List T3) (ks : List Nat) : List T3 := ks.filterMap (es[·]?)
theorem pickE_len {es : List T3} : ∀ {ks : List Nat}, (∀ k ∈ ks, k < es.length) → (pickE es ks).length = ks.length
  | [], _ => rfl
  | k :: ks, h => by
    have h1 := h k List.mem_cons_self
    have := pickE_len (es := es) (ks := ks) fun x hx => h x (List.mem_cons_of_mem _ hx)
    unfold pickE at *
    rw [List.filterMap_cons, List.getElem?_eq_getElem h1]
    simp [this]
theorem pickE_take {es : List T3} {ks : List Nat} {i k : Nat} {r : T3} (h : ks[i]? = some k) (hr : es[k]? = some r) : pickE es (ks.take (i + 1)) = pickE es (ks.take i) ++ [r] := by
  unfold pickE
  rw [List.take_succ, h, List.filterMap_append]
  simp [hr]
theorem pickE_mem {es : List T3} {ks : List Nat} {r : T3} (h : r ∈ pickE es ks) : r ∈ es := by
  obtain ⟨k, _, h⟩ := List.mem_filterMap.mp h
  exact List.mem_of_getElem? h
theorem pickE_all (es : List T3) : pickE es (List.range es.length) = es := by
  have : ∀ n, n ≤ es.length → pickE es (List.range n) = es.take n := by
    intro n
    induction n with
    | zero => intro _; simp [pickE]
    | succ n ih =>
      intro h
      rw [List.range_succ]
      unfold pickE at ih ⊢
      rw [List.filterMap_append, ih (by omega), List.take_succ, List.getElem?_eq_getElem (show n < es.length by omega)]
      simp [List.getElem?_eq_getElem (show n < es.length by omega)]
  rw [this _ (Nat.le_refl _), List.take_length]
section
variable {P : Program} {w : World} {K : PySem.W.Frag} {mg : Str → Option Value} {base : Heap}
/-- numbers that stand in a list (b = false) or a tuple (b = true) -/
def Nums (K : PySem.W.Frag) (b : Bool) (H : Hp) (p : Addr) (ks : List Nat) : Prop := match b with | false => H p = some (.lst (ivs ks)) | true => Tp K H p (ivs ks)
theorem Nums.fr {b : Bool} {H H' : Hp} {p : Addr} {ks : List Nat} (h : Nums K b H p ks) (f : Fr S0 H H') : Nums K b H' p ks := by
  cases b with
  | false => exact f.keep _ _ h (fun z => z)
  | true => exact Tp.fr f h
def spMarks (K : PySem.W.Frag) (b : Bool) : Sp := fun vs H Q _ => ∃ (vf : V) (p : Addr) (n : Nat) (es : List T3) (us : List (Nat × Nat)) (ks : List Nat), vs = [vf, .ref p] ∧ DT K H vf (factsD n es us) ∧ Nums K b H p ks ∧ FactsOk n es us ∧ ks.length ≤ 10 ∧ (∀ k ∈ ks, k < es.length) ∧
  ∀ (m : List Nat) a H', Clo n m (pickE es ks) → H a = none → H' a = some (.lst (ivs m)) → Fr S0 H H' → Q (.ref a) H'
abbrev sMarks : Stmt := top 61
abbrev psMarks : List Str := ["_law_facts_here", "_law_numbers"]
abbrev nMarks : List Str := ["_law_facts_here", "_law_numbers", "_law_number"]
theorem scMarks : FnScope nMarks psMarks (defScope sMarks) := ⟨rfl, rfl, rfl, by decide +kernel, rfl, by decide +kernel, by decide +kernel⟩
theorem ok_marksL (D : Df K mg "_law_marks" sMarks psMarks) (T : Bi mg) (cC : Cl P w K mg base "_law_close" ["_law_marks_here", "_law_rows"] 1 (spClose K)) : Cl P w K mg base "_law_marks" psMarks 2 (spMarks K false) := by
  refine D.ok scMarks (fun vs H Q E h => ?_) (fun f cdv A outer s H vs Q E hr h => ?_)
  · obtain ⟨vf, p, n, es, us, ks, rfl, _⟩ := h
    rfl
  · obtain ⟨vf, p, n, es, us, ks, rfl, hf, hp, FO, hlen, hks, k⟩ := h
    refine ⟨_, pss_one (ps_ret (pe_cl cC hr (pa_cons (pe_listRg (by rfl) (by rfl) T.list (prg_1 (by rfl) T.range (pe_ix ix_tup (pv 0) pe_int (fun _ _ => rfl)))) (pa_cons (pe_lc (own := [("_law_number", 2)]) (g := gName 2) (tt := tYes) rfl scMarks.nd (pi_list (pv 1)) (blkOk_by (N := nMarks) (sc := defScope sMarks) (by decide +kernel)) (fun _ _ _ _ _ => pg_name (i := 2) scMarks.nd rfl (Or.inl rfl)) (fun _ _ _ _ _ => pts_nil) (fun _ _ _ _ _ => pe_ix (ix_tupk K) (pe_ix (ix_tupk K) (pv 0) pe_int (fun _ _ => rfl)) (pv 2) (fun _ _ => rfl))) pa_nil)))), ?_⟩
    obtain ⟨pf, pe, pu, xs, ys, rfl, tf, te, re, tu, ru⟩ := facts_inv hf
    have n5 := FO.le
    refine ⟨_, rfl, pf, _, 0, _, rfl, rfl, tf.sq, rfl, _, rfl, RgOk.of_le (by omega) (by omega) (by omega) (by omega), fun a ha => ?_⟩
    have f1 : Fr S0 H (upd H a (.lst (rgV 0 (n : Int)))) := (Fr.refl _ _).new ha
    have lp : (ivs ks).length = ks.length := ivs_len ks
    refine ⟨_, rfl, p, rfl, ⟨_, SqL.of (f1.keep _ _ hp (fun z => z))⟩, fun d hd => lc_list (K := K) (a := p) (xs := ivs ks) (fun i H' => Fr S0 (upd H a (.lst (rgV 0 (n : Int)))) H' ∧ ∃ zs, H' d = some (.lst zs) ∧ DTs K H' zs ((pickE es (ks.take i)).map t3D)) ?_ ?_ ?_ ?_⟩
    · exact ⟨(Fr.refl _ _).new hd, [], upd_same, .nil⟩
    · rintro i H' _ ⟨f2, _⟩
      exact SqL.of ((f1.trans f2).keep _ _ hp (fun z => z))
    · rintro i x H' hx ⟨f2, zs, e2, t2⟩
      obtain ⟨kk, ek, rfl⟩ := iv_at hx
      have f02 := f1.trans f2
      have hkk := hks kk (List.mem_of_getElem? ek)
      obtain ⟨v, hv, dv⟩ := (re.fr f02).get (i := kk) (d := t3D es[kk]) (by rw [List.getElem?_map, List.getElem?_eq_getElem hkk]; rfl)
      refine ⟨rfl, ?_⟩
      dsimp only [tYes]
      refine iteT ?_
      refine ⟨_, rfl, pf, _, 1, _, rfl, rfl, (tf.fr f02).sq, rfl, _, rfl, pe, _, _, _, rfl, rfl, (te.fr f02).sq, atI_nat hv, ?_⟩
      have hi : i < ks.length := (List.getElem?_eq_some_iff.mp ek).1
      have g : Fr (S1 d) H' (upd H' d (.lst (zs ++ [v]))) := (Fr.refl _ _).set rfl (lst_ne_tup e2)
      refine ⟨zs, e2, ?_, f2.mut hd, zs ++ [v], upd_same, ?_⟩
      · rw [t2.len, List.length_map, pickE_len fun x hx => hks x (List.mem_of_mem_take hx), List.length_take]
        exact sz (by omega)
      · rw [pickE_take ek (List.getElem?_eq_getElem hkk), List.map_append]
        exact (t2.fr g).append (.one (dv.fr g))
    · rintro H' ⟨f2, zs, e2, t2⟩
      rw [lp, List.take_length] at t2
      have ea : H' a = some (.lst (ivs (List.range n))) := f2.keep _ _ (by rw [upd_same, rgV_ivs]) (fun z => z)
      have nad : a ≠ d := ne_of_none (show upd H a (.lst (rgV 0 (n : Int))) a = _ from upd_same) hd
      have f02 := f1.trans f2
      refine ⟨a, d, n, pickE es ks, zs, rfl, ea, e2, t2, nad, fun r hr => FO.R r (pickE_mem hr), FO.pos, by omega, by rw [pickE_len hks]; exact hlen, fun m H3 hm e3 f3 => ?_⟩
      exact k m a H3 hm ha e3 (f02.step f3 fun b hb => by subst hb; exact .inl ha)
theorem ok_marksT (D : Df K mg "_law_marks" sMarks psMarks) (T : Bi mg) (cC : Cl P w K mg base "_law_close" ["_law_marks_here", "_law_rows"] 1 (spClose K)) : Cl P w K mg base "_law_marks" psMarks 2 (spMarks K true) := by
  refine D.ok scMarks (fun vs H Q E h => ?_) (fun f cdv A outer s H vs Q E hr h => ?_)
  · obtain ⟨vf, p, n, es, us, ks, rfl, _⟩ := h
    rfl
  · obtain ⟨vf, p, n, es, us, ks, rfl, hf, hp, FO, hlen, hks, k⟩ := h
    refine ⟨_, pss_one (ps_ret (pe_cl cC hr (pa_cons (pe_listRg (by rfl) (by rfl) T.list (prg_1 (by rfl) T.range (pe_ix ix_tup (pv 0) pe_int (fun _ _ => rfl)))) (pa_cons (pe_lc (own := [("_law_number", 2)]) (g := gName 2) (tt := tYes) rfl scMarks.nd (pi_tup (pv 1)) (blkOk_by (N := nMarks) (sc := defScope sMarks) (by decide +kernel)) (fun _ _ _ _ _ => pg_name (i := 2) scMarks.nd rfl (Or.inl rfl)) (fun _ _ _ _ _ => pts_nil) (fun _ _ _ _ _ => pe_ix (ix_tupk K) (pe_ix (ix_tupk K) (pv 0) pe_int (fun _ _ => rfl)) (pv 2) (fun _ _ => rfl))) pa_nil)))), ?_⟩
    obtain ⟨pf, pe, pu, xs, ys, rfl, tf, te, re, tu, ru⟩ := facts_inv hf
    have n5 := FO.le
    refine ⟨_, rfl, pf, _, 0, _, rfl, rfl, tf.sq, rfl, _, rfl, RgOk.of_le (by omega) (by omega) (by omega) (by omega), fun a ha => ?_⟩
    have f1 : Fr S0 H (upd H a (.lst (rgV 0 (n : Int)))) := (Fr.refl _ _).new ha
    have lp : (ivs ks).length = ks.length := ivs_len ks
    refine ⟨_, rfl, p, rfl, ⟨_, (Tp.fr f1 hp).sq⟩, fun d hd => lc_tup (K := K) (a := p) (xs := ivs ks) (fun i H' => Fr S0 (upd H a (.lst (rgV 0 (n : Int)))) H' ∧ ∃ zs, H' d = some (.lst zs) ∧ DTs K H' zs ((pickE es (ks.take i)).map t3D)) ?_ ?_ ?_ ?_⟩
    · exact ⟨(Fr.refl _ _).new hd, [], upd_same, .nil⟩
    · rintro i H' _ ⟨f2, _⟩
      exact (Tp.fr (f1.trans f2) hp).sq
    · rintro i x H' hx ⟨f2, zs, e2, t2⟩
      obtain ⟨kk, ek, rfl⟩ := iv_at hx
      have f02 := f1.trans f2
      have hkk := hks kk (List.mem_of_getElem? ek)
      obtain ⟨v, hv, dv⟩ := (re.fr f02).get (i := kk) (d := t3D es[kk]) (by rw [List.getElem?_map, List.getElem?_eq_getElem hkk]; rfl)
      refine ⟨rfl, ?_⟩
      dsimp only [tYes]
      refine iteT ?_
      refine ⟨_, rfl, pf, _, 1, _, rfl, rfl, (tf.fr f02).sq, rfl, _, rfl, pe, _, _, _, rfl, rfl, (te.fr f02).sq, atI_nat hv, ?_⟩
      have hi : i < ks.length := (List.getElem?_eq_some_iff.mp ek).1
      have g : Fr (S1 d) H' (upd H' d (.lst (zs ++ [v]))) := (Fr.refl _ _).set rfl (lst_ne_tup e2)
      refine ⟨zs, e2, ?_, f2.mut hd, zs ++ [v], upd_same, ?_⟩
      · rw [t2.len, List.length_map, pickE_len fun x hx => hks x (List.mem_of_mem_take hx), List.length_take]
        exact sz (by omega)
      · rw [pickE_take ek (List.getElem?_eq_getElem hkk), List.map_append]
        exact (t2.fr g).append (.one (dv.fr g))
    · rintro H' ⟨f2, zs, e2, t2⟩
      rw [lp, List.take_length] at t2
      have ea : H' a = some (.lst (ivs (List.range n))) := f2.keep _ _ (by rw [upd_same, rgV_ivs]) (fun z => z)
      have nad : a ≠ d := ne_of_none (show upd H a (.lst (rgV 0 (n : Int))) a = _ from upd_same) hd
      have f02 := f1.trans f2
      refine ⟨a, d, n, pickE es ks, zs, rfl, ea, e2, t2, nad, fun r hr => FO.R r (pickE_mem hr), FO.pos, by omega, by rw [pickE_len hks]; exact hlen, fun m H3 hm e3 f3 => ?_⟩
      exact k m a H3 hm ha e3 (f02.step f3 fun b hb => by subst hb; exact .inl ha)
def spAllMarks (K : PySem.W.Frag) : Sp := fun vs H Q _ => ∃ (vf : V) (n : Nat) (es : List T3) (us : List (Nat × Nat)), vs = [vf] ∧ DT K H vf (factsD n es us) ∧ FactsOk n es us ∧
  ∀ (m : List Nat) a H', Clo n m es → H a = none → H' a = some (.lst (ivs m)) → Fr S0 H H' → Q (.ref a) H'
abbrev sAllMarks : Stmt := top 62
abbrev psAllMarks : List Str := ["_law_facts_here"]
theorem scAllMarks : FnScope psAllMarks psAllMarks (defScope sAllMarks) := ⟨rfl, rfl, rfl, by decide +kernel, rfl, by decide +kernel, by decide +kernel⟩
theorem ok_allMarks (D : Df K mg "_law_all_marks" sAllMarks psAllMarks) (T : Bi mg) (cM : Cl P w K mg base "_law_marks" psMarks 2 (spMarks K false)) : Cl P w K mg base "_law_all_marks" psAllMarks 3 (spAllMarks K) := by
  refine D.ok scAllMarks (fun vs H Q E h => ?_) (fun f cdv A outer s H vs Q E hr h => ?_)
  · obtain ⟨vf, n, es, us, rfl, _⟩ := h
    rfl
  · obtain ⟨vf, n, es, us, rfl, hf, FO, k⟩ := h
    refine ⟨_, pss_one (ps_ret (pe_cl cM hr (pa_cons (pv 0) (pa_cons (pe_listRg (by rfl) (by rfl) T.list (prg_1 (by rfl) T.range (pe_callB call_len_seq (by rfl) T.len PySem.boot_len (pa_cons (pe_ix ix_tup (pv 0) pe_int (fun _ _ => rfl)) pa_nil)))) pa_nil)))), ?_⟩
    obtain ⟨pf, pe, pu, xs, ys, rfl, tf, te, re, tu, ru⟩ := facts_inv hf
    have lx : xs.length = es.length := by rw [re.len, List.length_map]
    have e10 := FO.len
    refine ⟨_, rfl, _, rfl, pf, _, 1, _, rfl, rfl, tf.sq, rfl, pe, _, rfl, .inr te.sq, _, rfl, RgOk.of_le (by omega) (by omega) (by omega) (by omega), fun a ha => ?_⟩
    have f1 : Fr S0 H (upd H a (.lst (rgV 0 (xs.length : Int)))) := (Fr.refl _ _).new ha
    refine ⟨_, a, n, es, us, List.range es.length, rfl, hf.fr f1, ?_, FO, by simpa using e10, by simp, fun m b H3 hm hb e3 f3 => ?_⟩
    · show upd H a _ a = _
      rw [upd_same, rgV_ivs, lx]
    · rw [pickE_all] at hm
      exact k m b H3 hm (f1.free hb) e3 (f1.trans f3)
end
end K12
set_option linter.all false
set_option maxRecDepth 100000
set_option maxHeartbeats 1600000
/-! K12w11: the law's lots. -/
namespace K12
open PySem PySem.Spec PyProof.Rows L2
def lotD (l : List Nat) : PyData := .tuple [.int (l.length : Int), rowD l]
theorem alike_rows : ∀ a b : List Nat, PySem.W.alike (rowD a) (rowD b) = true := by
  have h : ∀ a b : List Nat, PySem.W.alikeAll (a.map fun x : Nat => PyData.int (x : Int)) (b.map fun x : Nat => PyData.int (x : Int)) = true := by
    intro a
    induction a with
    | nil => intro b; simp [PySem.W.alikeAll]
    | cons x a ih =>
      intro b
      cases b with
      | nil => simp [PySem.W.alikeAll]
      | cons y b => simp only [List.map, PySem.W.alikeAll, PySem.W.alike, ih, Bool.and_self]
  intro a b
  show PySem.W.alikeAll _ _ = true
  exact h a b
theorem lot_inv {K : PySem.W.Frag} {H : Hp} {v : V} {l : List Nat} (h : DT K H v (lotD l)) : ∃ p q, v = .ref p ∧ Tp K H p [iv l.length, .ref q] ∧ Tp K H q (ivs l) := by
  obtain ⟨p, xs, rfl, t, r⟩ := h.tup_inv
  cases r with
  | cons h1 r =>
    cases r with
    | cons h2 r =>
      cases r
      have := h1.int_inv; subst this
      obtain ⟨q, rfl, tq⟩ := row_inv h2
      exact ⟨p, q, rfl, t, tq⟩
theorem pow10 {i : Nat} (h : i ≤ 10) : 2 ^ i ≤ 1024 := Nat.pow_le_pow_right (n := 2) (by decide) h
section
variable {P : Program} {w : World} {K : PySem.W.Frag} {mg : Str → Option Value} {base : Heap}
def LotOk (m : Nat) (ks : List Nat) : Prop := (∀ k ∈ ks, k < m) ∧ ks.length ≤ m
def spLots (K : PySem.W.Frag) : Sp := fun vs H Q _ => ∃ (m : Nat), vs = [iv m] ∧ m ≤ 10 ∧
  ∀ (p : Addr) (zs : List V) H', (∀ z ∈ zs, ∃ ks, LotOk m ks ∧ DT K H' z (rowD ks)) → (∃ z ∈ zs, DT K H' z (rowD (List.range m))) → H p = none → H' p = some (.lst zs) → Fr S0 H H' → Q (.ref p) H'
abbrev sLots : Stmt := top 63
abbrev psLots : List Str := ["_law_many"]
abbrev nLots : List Str := ["_law_many", "_law_found", "_law_number", "_law_lot", "_law_size"]
theorem scLots : FnScope nLots psLots (defScope sLots) := ⟨rfl, rfl, rfl, by decide +kernel, rfl, by decide +kernel, by decide +kernel⟩
theorem ok_lots (D : Df K mg "_law_lots" sLots psLots) (T : Bi mg) : Cl P w K mg base "_law_lots" psLots 1 (spLots K) := by
  refine D.ok scLots (fun vs H Q E h => ?_) (fun f cdv A outer s H vs Q E hr h => ?_)
  · obtain ⟨m, rfl, _⟩ := h
    rfl
  · obtain ⟨m, rfl, hm, k⟩ := h
    refine ⟨_, pss_cons (ps_set (i := 1) scLots.nd rfl (Or.inl rfl) (pe_lst (pa_cons (pe_tup pa_nil) pa_nil))) (pss_cons (ps_for PassesOwn.never rfl (pi_range1 rfl T.range (pa_cons (pv 0) pa_nil)) (pg_name (i := 2) scLots.nd rfl (Or.inr rfl)) (pss_one (ps_set (i := 1) scLots.nd rfl (Or.inl rfl) (pe_op op_cat (pv 1) (pe_lc (own := [("_law_lot", 3)]) (g := gName 3) (tt := tYes) rfl scLots.nd (pi_list (pv 1)) (blkOk_by (N := nLots) (sc := defScope sLots) (by decide +kernel)) (fun _ _ _ _ _ => pg_name (i := 3) scLots.nd rfl (Or.inl rfl)) (fun _ _ _ _ _ => pts_nil) (fun _ _ _ _ _ => pe_op (op_catE K) (pv 3) (pe_tup (pa_cons (pv 2) pa_nil)))))))) (pss_one (ps_ret (pe_lc (own := [("_law_size", 4), ("_law_lot", 3)]) (g := _) (tt := tYes) rfl scLots.nd (pi_list (pe_callB (cr_sortedD hr.units) (by rfl) T.sorted PyProof.Rows.boot_sorted (pa_cons (pe_lc (own := [("_law_lot", 3)]) (g := gName 3) (tt := tYes) rfl scLots.nd (pi_list (pv 1)) (blkOk_by (N := nLots) (sc := defScope sLots) (by decide +kernel)) (fun _ _ _ _ _ => pg_name (i := 3) scLots.nd rfl (Or.inl rfl)) (fun _ _ _ _ _ => pts_nil) (fun _ _ _ _ _ => pe_tup (pa_cons (pe_callB (call_len_seqk K) (by rfl) T.len PySem.boot_len (pa_cons (pv 3) pa_nil)) (pa_cons (pv 3) pa_nil)))) pa_nil))) (blkOk_by (N := nLots) (sc := defScope sLots) (by decide +kernel)) (fun _ _ _ _ _ => pg_tupk (n := 2) K (by rfl) (pgs_cons (pg_name (i := 4) scLots.nd rfl (Or.inl rfl)) (pgs_cons (pg_name (i := 3) scLots.nd rfl (Or.inl rfl)) pgs_nil))) (fun _ _ _ _ _ => pts_nil) (fun _ _ _ _ _ => pv 3))))), ?_⟩
    try dsimp only
    refine q_asgD (K := K) (ds := [rowD []]) (evDl_lst (evDs_cons (evD_tup evDs_nil l0) evDs_nil) l1) (fun p1 xs1 H1 np1 f1 e1 t1 => ?_)
    let Inv : Nat → Addr → Hp → Prop := fun i p H' => ∃ (ls : List (List Nat)) (xs : List V), ((∀ l ∈ ls, LotOk i l) ∧ List.range i ∈ ls) ∧ ls.length = 2 ^ i ∧ H' p = some (.lst xs) ∧ DTs K H' xs (ls.map rowD) ∧ Fr S0 H H'
    refine ⟨_, rfl, _, rfl, by omega, by omega, for_range (lo := 0) (n := m) (fun i σ H' => ∃ p v2, σ = [some (iv m), some (.ref p), v2, none, none] ∧ Inv i p H') ?_ ?_ ?_⟩
    · refine ⟨p1, none, rfl, [[]], xs1, ?_, rfl, e1, t1, f1⟩
      refine ⟨?_, by simp⟩
      intro l hl
      simp at hl; subst hl
      exact ⟨by simp, Nat.le_refl _⟩
    · rintro i σ H' hi ⟨p, v2, rfl, ls, xs, ⟨h1, h1r⟩, h2, e2, t2, f2⟩
      have pw := pow10 (show i ≤ 10 by omega)
      have ee : ((0 : Int) + (i : Int)) = (i : Int) := by omega
      rw [ee]
      have lx : xs.length = ls.length := by rw [t2.len, List.length_map]
      refine ⟨_, rfl, _, rfl, p, rfl, ⟨_, SqL.of e2⟩, fun d hd => lc_list (K := K) (a := p) (xs := xs) (fun j H5 => Fr S0 H' H5 ∧ ∃ zs : List V, H5 d = some (.lst zs) ∧ DTs K H5 zs (((ls.take j).map (· ++ [i])).map rowD)) ?_ ?_ ?_ ?_⟩
      · exact ⟨(Fr.refl _ _).new hd, [], upd_same, .nil⟩
      · rintro j H5 _ ⟨f5, _⟩
        exact SqL.of (f5.keep _ _ e2 (fun z => z))
      · rintro j x H5 hx ⟨f5, zs, z1, z2⟩
        obtain ⟨l, q, el, rfl, tq⟩ := row_at (t2.fr f5) hx
        have hj : j < ls.length := (List.getElem?_eq_some_iff.mp el).1
        have lz : zs.length = j := by rw [z2.len]; simp; omega
        have ll := (h1 l (List.mem_of_getElem? el)).2
        have tk : (ls.take (j + 1)).map (· ++ [i]) = (ls.take j).map (· ++ [i]) ++ [l ++ [i]] := by rw [List.take_succ, el]; simp
        rw [tk]
        refine ⟨rfl, ?_⟩
        dsimp only [tYes]
        refine iteT ?_
        refine ⟨_, rfl, _, rfl, by show 1 ≤ sizeLine; decide, fun t ht5 => ?_⟩
        have f6 : Fr S0 H5 (upd H5 t (.tup [iv i])) := (Fr.refl _ _).new ht5
        have tq6 := tq.fr f6
        have z1' := f6.keep _ _ z1 (fun z => z)
        refine ⟨q, t, _, _, rfl, rfl, tq6.sq, SqT.of upd_same, by simp, by rw [ivs_len]; exact szl (by simp; omega), ?_, ?_⟩
        · intro e0
          have g : Fr (S1 d) (upd H5 t (.tup [iv i])) (upd (upd H5 t (.tup [iv i])) d (.lst (zs ++ [.ref t]))) := (Fr.refl _ _).set rfl (lst_ne_tup z1')
          have th0 : l = [] := by
            cases l with
            | nil => rfl
            | cons a b => simp [ivs] at e0
          refine ⟨zs, z1', by rw [lz]; exact sz (by omega), (f5.trans f6).mut hd, zs ++ [.ref t], upd_same, ?_⟩
          rw [List.map_append]
          refine ((z2.fr f6).fr g).append (.one ?_)
          subst th0
          exact dt_row (g.tup _ _ upd_same)
        · intro _ t2 ht6
          have f7 := f6.new (o := .tup (ivs l ++ [iv i])) ht6
          have z1'' := f7.keep _ _ z1 (fun z => z)
          have g : Fr (S1 d) (upd (upd H5 t (.tup [iv i])) t2 (.tup (ivs l ++ [iv i]))) (upd (upd (upd H5 t (.tup [iv i])) t2 (.tup (ivs l ++ [iv i]))) d (.lst (zs ++ [.ref t2]))) := (Fr.refl _ _).set rfl (lst_ne_tup z1'')
          refine ⟨zs, z1'', by rw [lz]; exact sz (by omega), (f5.trans f7).mut hd, zs ++ [.ref t2], upd_same, ?_⟩
          rw [List.map_append]
          refine ((z2.fr f7).fr g).append (.one ?_)
          refine dt_row (g.tup _ _ ?_)
          rw [upd_same]; simp [ivs]
      · rintro H5 ⟨f5, zs, z1, z2⟩
        rw [lx, List.take_length] at z2
        have e5 := f5.keep _ _ e2 (fun z => z)
        have lz : zs.length = ls.length := by rw [z2.len]; simp
        refine ⟨p, d, xs, zs, rfl, rfl, e5, z1, by rw [lz, lx]; exact szl (by omega), fun u hu => ?_⟩
        have f6 : Fr S0 H5 (upd H5 u (.lst (xs ++ zs))) := (Fr.refl _ _).new hu
        refine ⟨u, _, rfl, ls ++ ls.map (· ++ [i]), xs ++ zs, ?_, ?_, upd_same, ?_, (f2.trans f5).trans f6⟩
        · refine ⟨?_, by rw [List.range_succ]; exact List.mem_append.mpr (.inr (List.mem_map.mpr ⟨_, h1r, rfl⟩))⟩
          intro l hl
          rcases List.mem_append.mp hl with h | h
          · exact ⟨fun k hk => Nat.lt_succ_of_lt ((h1 l h).1 k hk), Nat.le_succ_of_le (h1 l h).2⟩
          · obtain ⟨t, ht', rfl⟩ := List.mem_map.mp h
            obtain ⟨a1, a2⟩ := h1 t ht'
            refine ⟨fun k hk => ?_, by simp; exact a2⟩
            rcases List.mem_append.mp hk with h | h
            · exact Nat.lt_succ_of_lt (a1 k h)
            · simp at h; omega
        · rw [List.length_append, List.length_map, h2, Nat.pow_succ]; omega
        · rw [List.map_append]
          exact ((t2.fr f5).fr f6).append (z2.fr f6)
    · rintro σ H' ⟨p, v2, rfl, ls, xs, ⟨h1, h1r⟩, h2, e2, t2, f2⟩
      have pw := pow10 hm
      have lx : xs.length = ls.length := by rw [t2.len, List.length_map]
      refine ⟨_, rfl, p, rfl, ⟨_, SqL.of e2⟩, fun d hd => lc_list (K := K) (a := p) (xs := xs) (fun j H5 => Fr S0 H' H5 ∧ ∃ zs : List V, H5 d = some (.lst zs) ∧ DTs K H5 zs ((ls.take j).map lotD)) ?_ ?_ ?_ ?_⟩
      · exact ⟨(Fr.refl _ _).new hd, [], upd_same, .nil⟩
      · rintro j H5 _ ⟨f5, _⟩
        exact SqL.of (f5.keep _ _ e2 (fun z => z))
      · rintro j x H5 hx ⟨f5, zs, z1, z2⟩
        obtain ⟨l, q, el, rfl, tq⟩ := row_at (t2.fr f5) hx
        have hj : j < ls.length := (List.getElem?_eq_some_iff.mp el).1
        have lz : zs.length = j := by rw [z2.len]; simp; omega
        rw [List.take_succ, el]
        refine ⟨rfl, ?_⟩
        dsimp only [tYes]
        refine iteT ?_
        refine ⟨_, rfl, q, _, rfl, .inr tq.sq, _, rfl, by show 2 ≤ sizeLine; decide, fun t ht5 => ?_⟩
        have f6 : Fr S0 H5 (upd H5 t (.tup [.int ((ivs l).length : Nat), .ref q])) := (Fr.refl _ _).new ht5
        have z1' := f6.keep _ _ z1 (fun z => z)
        have g : Fr (S1 d) (upd H5 t (.tup [.int ((ivs l).length : Nat), .ref q])) (upd (upd H5 t (.tup [.int ((ivs l).length : Nat), .ref q])) d (.lst (zs ++ [.ref t]))) := (Fr.refl _ _).set rfl (lst_ne_tup z1')
        refine ⟨zs, z1', by rw [lz]; exact sz (by omega), (f5.trans f6).mut hd, zs ++ [.ref t], upd_same, ?_⟩
        rw [List.map_append]
        refine ((z2.fr f6).fr g).append (.one (.tup (.of (g.tup _ _ upd_same)) (.cons ?_ (.one ?_))))
        · rw [ivs_len]; exact .int _
        · exact DT.tup ((tq.fr f6).fr g) (dts_ivs l)
      · rintro H5 ⟨f5, zs, z1, z2⟩
        rw [lx, List.take_length] at z2
        have lz : zs.length = ls.length := by rw [z2.len]; simp
        refine ⟨d, zs, ls.map lotD, rfl, SqL.of z1, z2.dp, PySem.W.AllAlike.of fun b b' => ?_, PySem.W.Sortable.tuples fun b => ⟨_, _, rfl⟩, ?_, fun ys u hp hu => ?_⟩
        · show PySem.W.alikeAll _ _ = true
          simp only [PySem.W.alikeAll, PySem.W.alike, alike_rows, Bool.and_self]
        · intro b hb
          obtain ⟨l, _, rfl⟩ := List.mem_map.mp hb
          have := depth_ints l
          simp only [lotD, rowD, PyData.depth, PyData.depthAll]
          omega
        · have f6 : Fr S0 H5 (upd H5 u (.lst ys)) := (Fr.refl _ _).new hu
          have f06 : Fr S0 H (upd H5 u (.lst ys)) := (f2.trans f5).trans f6
          have hy : ∀ y ∈ ys, ∃ l, LotOk m l ∧ DT K (upd H5 u (.lst ys)) y (lotD l) := by
            intro y hy
            obtain ⟨dd, hd1, hd2⟩ := (z2.fr f6).mem (hp.subset hy)
            obtain ⟨l, hl, rfl⟩ := List.mem_map.mp hd1
            exact ⟨l, h1 l hl, hd2⟩
          have ly : ys.length ≤ 1024 := by rw [hp.length_eq, lz, h2]; exact pw
          refine ⟨u, rfl, ⟨_, SqL.of upd_same⟩, fun d2 hd2 => lc_list (K := K) (a := u) (xs := ys) (fun j H7 => Fr S0 (upd H5 u (.lst ys)) H7 ∧ ∃ zs : List V, H7 d2 = some (.lst zs) ∧ zs.length = j ∧ (∀ z ∈ zs, ∃ l, LotOk m l ∧ DT K H7 z (rowD l)) ∧ ∀ y ∈ ys.take j, DT K (upd H5 u (.lst ys)) y (lotD (List.range m)) → ∃ z ∈ zs, DT K H7 z (rowD (List.range m))) ?_ ?_ ?_ ?_⟩
          · exact ⟨(Fr.refl _ _).new hd2, [], upd_same, rfl, by simp, fun y hy => by simp at hy⟩
          · rintro j H7 _ ⟨f7, _⟩
            exact SqL.of (f7.keep _ _ upd_same (fun z => z))
          · rintro j x H7 hx ⟨f7, zs, w1, w2, w3, w4⟩
            obtain ⟨l, hl, dl, hfull⟩ : ∃ l, LotOk m l ∧ DT K (upd H5 u (.lst ys)) x (lotD l) ∧ (DT K (upd H5 u (.lst ys)) x (lotD (List.range m)) → l = List.range m) := by
              by_cases c : DT K (upd H5 u (.lst ys)) x (lotD (List.range m))
              · exact ⟨_, ⟨fun k hk => List.mem_range.mp hk, by simp⟩, c, fun _ => rfl⟩
              · obtain ⟨l, hl, dl⟩ := hy x (List.mem_of_getElem? hx)
                exact ⟨l, hl, dl, fun q => absurd q c⟩
            obtain ⟨q, q2, rfl, tq, tq2⟩ := lot_inv (dl.fr f7)
            have hj : j < ys.length := (List.getElem?_eq_some_iff.mp hx).1
            refine ⟨q, _, rfl, tq.sq, rfl, _, _, rfl, _, _, rfl, rfl, ?_⟩
            refine ⟨rfl, ?_⟩
            dsimp only [tYes]
            refine iteT ?_
            have g : Fr (S1 d2) H7 (upd H7 d2 (.lst (zs ++ [.ref q2]))) := (Fr.refl _ _).set rfl (lst_ne_tup w1)
            refine ⟨_, rfl, zs, w1, sz (by omega), f7.mut hd2, zs ++ [.ref q2], upd_same, by simp [w2], ?_, ?_⟩
            rotate_left
            · intro y hy' dy
              rw [List.take_succ, hx] at hy'
              rcases List.mem_append.mp hy' with h | h
              · obtain ⟨z, hz, dz⟩ := w4 y h dy
                exact ⟨z, List.mem_append.mpr (.inl hz), dz.fr g⟩
              · simp at h; subst h
                have e12 := hfull dy
                subst e12
                exact ⟨_, List.mem_append.mpr (.inr (List.mem_singleton.mpr rfl)), DT.tup (tq2.fr g) (dts_ivs _)⟩
            intro z hz
            rcases List.mem_append.mp hz with h | h
            · obtain ⟨l', a, b⟩ := w3 z h
              exact ⟨l', a, b.fr g⟩
            · simp at h; subst h
              exact ⟨l, hl, DT.tup (tq2.fr g) (dts_ivs l)⟩
          · rintro H7 ⟨f7, zs, w1, w2, w3, w4⟩
            refine k d2 zs H7 w3 ?_ (f06.free hd2) w1 (f06.trans f7)
            obtain ⟨j, hj⟩ := List.getElem?_of_mem h1r
            obtain ⟨y, hy1, hy2⟩ := (z2.fr f6).get (i := j) (d := lotD (List.range m)) (by rw [List.getElem?_map, hj]; rfl)
            exact w4 y (by rw [List.take_length]; exact hp.symm.subset (List.mem_of_getElem? hy1)) hy2
end
end K12
set_option linter.all false
set_option maxRecDepth 100000
set_option maxHeartbeats 1600000
/-! K12w12: the law's clash. -/
namespace K12
open PySem PySem.Spec PyProof.Rows L2
/-- no two unlike names are one -/
def NoClash (n : Nat) (es : List T3) (us : List (Nat × Nat)) : Prop := ∀ p ∈ us, root (closeOf n es).1 p.1 ≠ root (closeOf n es).1 p.2
/-- in each marking the two of p are one -/
def Hit (n : Nat) (es : List T3) (p : Nat × Nat) : Prop := ∀ m, Clo n m es → mq m p.1 = mq m p.2
theorem shaped_one {n : Nat} : SeqAt.shaped (.list ((List.replicate n 1).map fun x : Nat => PyData.int (x : Int))) = true := shaped_ints _
theorem ivs_app (a b : List Nat) : ivs (a ++ b) = ivs a ++ ivs b := by simp [ivs]
section
variable {P : Program} {w : World} {K : PySem.W.Frag} {mg : Str → Option Value} {base : Heap}
def spClash (K : PySem.W.Frag) : Sp := fun vs H Q _ => ∃ (vf : V) (n : Nat) (es : List T3) (us : List (Nat × Nat)), vs = [vf] ∧ DT K H vf (factsD n es us) ∧ FactsOk n es us ∧
  ∀ v H', (v = .non → NoClash n es us) → (v ≠ .non → us ≠ []) → Fr S0 H H' → Q v H'
abbrev sClash : Stmt := top 64
abbrev psClash : List Str := ["_law_facts_here"]
abbrev nClash : List Str := ["_law_facts_here", "_law_one", "_law_other", "_law_lot", "_law_marks_here", "_law_some", "_law_number"]
theorem scClash : FnScope nClash psClash (defScope sClash) := ⟨rfl, rfl, rfl, by decide +kernel, rfl, by decide +kernel, by decide +kernel⟩
theorem ok_clash (D : Df K mg "_law_clash" sClash psClash) (T : Bi mg) (cA : Cl P w K mg base "_law_all_marks" psAllMarks 3 (spAllMarks K)) (cM : Cl P w K mg base "_law_marks" psMarks 3 (spMarks K true))
    (cL : Cl P w K mg base "_law_lots" psLots 3 (spLots K)) : Cl P w K mg base "_law_clash" psClash 4 (spClash K) := by
  refine D.ok scClash (fun vs H Q E h => ?_) (fun f cdv A outer s H vs Q E hr h => ?_)
  · obtain ⟨vf, n, es, us, rfl, _⟩ := h
    rfl
  · obtain ⟨vf, n, es, us, rfl, hf, FO, k⟩ := h
    refine ⟨_, pss_cons (ps_if (pt_cmpR (op_eqD hr.units) (pe_lc (own := [("_law_one", 1), ("_law_other", 2)]) (g := _) (tt := _) rfl scClash.nd (pi_tup (pe_ix ix_tup (pv 0) pe_int (fun _ _ => rfl))) (blkOk_by (N := nClash) (sc := defScope sClash) (by decide +kernel)) (fun _ _ _ _ _ => pg_tupk (n := 2) K (by rfl) (pgs_cons (pg_name (i := 1) scClash.nd rfl (Or.inl rfl)) (pgs_cons (pg_name (i := 2) scClash.nd rfl (Or.inl rfl)) pgs_nil))) (fun _ _ _ _ _ => pts_one (pt_cmpR op_eq (pe_ix (ix_listk K) (pe_cl cA hr (pa_cons (pv 0) pa_nil)) (pv 1) (fun _ _ => rfl)) (pe_ix (ix_listk K) (pe_cl cA hr (pa_cons (pv 0) pa_nil)) (pv 2) (fun _ _ => rfl)) (nomark _))) (fun _ _ _ _ _ => pe_int)) (pe_lst pa_nil) (nomark _)) (pss_one (ps_ret pe_non)) pss_nil) (pss_cons (ps_for PassesOwn.never rfl (pi_list (pe_cl cL hr (pa_cons (pe_callB call_len_seq (by rfl) T.len PySem.boot_len (pa_cons (pe_ix ix_tup (pv 0) pe_int (fun _ _ => rfl)) pa_nil)) pa_nil))) (pg_name (i := 3) scClash.nd rfl (Or.inl rfl)) (pss_cons (ps_set (i := 4) scClash.nd rfl (Or.inr rfl) (pe_cl cM hr (pa_cons (pv 0) (pa_cons (pv 3) pa_nil)))) (pss_cons (ps_setLc (i := 5) (own := [("_law_number", 6), ("_law_one", 1), ("_law_other", 2)]) (g := _) (tt := _) rfl scClash.nd rfl rfl (sw_true rfl rfl rfl (by decide +kernel)) (pi_enumT (by rfl) T.enumerate (pa_cons (pe_ix ix_tup (pv 0) pe_int (fun _ _ => rfl)) pa_nil)) (blkOk_by (N := nClash) (sc := defScope sClash) (by decide +kernel)) (fun _ _ _ _ _ => pg_tupk (n := 2) K (by rfl) (pgs_cons (pg_name (i := 6) scClash.nd rfl (Or.inl rfl)) (pgs_cons (pg_tupk (n := 2) K (by rfl) (pgs_cons (pg_name (i := 1) scClash.nd rfl (Or.inl rfl)) (pgs_cons (pg_name (i := 2) scClash.nd rfl (Or.inl rfl)) pgs_nil))) pgs_nil))) (fun _ _ _ _ _ => pts_one (pt_cmpR op_eq (pe_ix (ix_listk K) (pv 4) (pv 1) (fun _ _ => rfl)) (pe_ix (ix_listk K) (pv 4) (pv 2) (fun _ _ => rfl)) (nomark _))) (fun _ _ _ _ _ => pv 6)) (pss_one (ps_if (pt_cmpR (op_neD hr.units) (pv 5) (pe_lst pa_nil) (nomark _)) (pss_one (ps_ret (pe_tup (pa_cons (pe_ix ix_list (pv 5) pe_int (fun _ _ => rfl)) (pa_cons (pv 3) pa_nil))))) pss_nil))))) (pss_one (ps_ret pe_non))), ?_⟩
    obtain ⟨pf, pe, pu, xs, ys, rfl, tf, te, re, tu, ru⟩ := facts_inv hf
    have e10 := FO.len
    have u10 := FO.lenU
    have ly : ys.length = us.length := by rw [ru.len, List.length_map]
    have lx : xs.length = es.length := by rw [re.len, List.length_map]
    refine ⟨_, rfl, pf, _, 2, _, rfl, rfl, tf.sq, rfl, pu, rfl, ⟨_, tu.sq⟩, fun d hd => lc_tup (K := K) (a := pu) (xs := ys) (fun i H' => Fr S0 H H' ∧ ∃ ns : List Nat, H' d = some (.lst (ivs ns)) ∧ ns.length ≤ i ∧ (ns = [] → NoClash n es (us.take i)) ∧ (ns ≠ [] → ∃ p ∈ us, Hit n es p)) ?_ ?_ ?_ ?_⟩
    · exact ⟨(Fr.refl _ _).new hd, [], upd_same, Nat.le_refl _, fun _ p hp => by simp at hp, fun h => absurd rfl h⟩
    · rintro i H' _ ⟨f1, _⟩
      exact (tu.fr f1).sq
    · rintro i x H' hx ⟨f1, ns, e1, ln, n1, n2⟩
      obtain ⟨r, q, er, rfl, tr⟩ := p2_at (ru.fr f1) hx
      have hi : i < us.length := (List.getElem?_eq_some_iff.mp er).1
      have hrm := List.mem_of_getElem? er
      obtain ⟨r1, r2⟩ := FO.U r hrm
      refine ⟨q, _, rfl, tr.sq, rfl, _, _, rfl, _, _, rfl, rfl, rfl, ?_⟩
      refine ⟨_, rfl, _, n, es, us, rfl, hf.fr f1, FO, fun m1 a1 H2 c1 _ g1 f2 => ?_⟩
      refine ⟨_, rfl, a1, _, _, _, rfl, rfl, SqL.of g1, atI_nat (ivs_at (by rw [c1.len]; omega)), ?_⟩
      refine ⟨_, rfl, _, n, es, us, rfl, hf.fr (f1.trans f2), FO, fun m2 a2 H3 c2 _ g2 f3 => ?_⟩
      refine ⟨_, rfl, a2, _, _, _, rfl, rfl, SqL.of g2, atI_nat (ivs_at (by rw [c2.len]; omega)), rfl, _, rfl, ?_⟩
      have f23 := f2.trans f3
      have e3 := f23.keep _ _ e1 (fun z => z)
      by_cases hc : mq m1 r.1 = mq m2 r.2
      · rw [ivT (show m1.getD r.1 0 = m2.getD r.2 0 from hc)]
        refine iteT ?_
        refine ⟨_, e3, by rw [ivs_len]; exact sz (by omega), (f1.trans f23).mut hd, ns ++ [1], by rw [upd_same, ivs_app]; rfl, by simp; omega, fun h => by simp at h, fun _ => ⟨r, hrm, fun m c => ?_⟩⟩
        rw [c.same c1 (by omega), c.same c2 r2, hc]
      · rw [ivF (show m1.getD r.1 0 ≠ m2.getD r.2 0 from hc)]
        refine iteF ⟨f1.trans f23, ns, e3, by omega, fun h p hp => ?_, n2⟩
        rw [List.take_succ, er] at hp
        rcases List.mem_append.mp hp with hp | hp
        · exact n1 h p hp
        · simp at hp; subst hp
          intro e
          exact hc ((c1.cl.root FO.R e).trans (c1.same c2 r2))
    · rintro H' ⟨f1, ns, e1, ln, n1, n2⟩
      rw [ly, List.take_length] at n1
      refine ⟨Nat.zero_le _, fun q hq => ?_⟩
      have f2 : Fr S0 H' (upd H' q (.lst [])) := (Fr.refl _ _).new hq
      refine ⟨_, _, dp_ints (f2.keep _ _ e1 (fun z => z)), dp_ints (ns := []) upd_same, shaped_ints _, shaped_nil, _, rfl, ?_⟩
      rw [show (([] : List Nat).map fun x : Nat => PyData.int (x : Int)) = [] from rfl, eqv_nil]
      have f02 := f1.trans f2
      generalize upd H' q (.lst []) = H2 at f02
      cases ns with
      | nil =>
        refine iteT ?_
        exact k .non _ (fun _ => n1 rfl) (fun h => absurd rfl h) f02
      | cons n0 nr =>
        refine iteF ?_
        obtain ⟨p0, hp0, hit⟩ := n2 (by simp)
        have usn : us ≠ [] := fun e => by rw [e] at hp0; simp at hp0
        have hf2 := hf.fr f02
        refine ⟨_, rfl, pf, _, 1, _, rfl, rfl, (tf.fr f02).sq, rfl, pe, _, rfl, .inr (te.fr f02).sq, xs.length, rfl, by omega, fun pl zs H3 hz hfull _ el f3 => ⟨pl, rfl, ⟨_, SqL.of el⟩, for_list (K := K) (a := pl) (xs := zs) (fun j σ H' => ∃ v1 v2 v3 v4 v5 v6, σ = [some (.ref pf), v1, v2, v3, v4, v5, v6] ∧ Fr S0 H3 H' ∧ ∀ z ∈ zs.take j, ¬ DT K H3 z (rowD (List.range xs.length))) ?_ ?_ ?_ ?_⟩⟩
        · exact ⟨_, _, _, _, _, _, rfl, Fr.refl _ _, fun z hz => by simp at hz⟩
        · rintro j σ H' _ ⟨_, _, _, _, _, _, rfl, f4, _⟩
          exact SqL.of (f4.keep _ _ el (fun z => z))
        · rintro j x σ H' hx ⟨v1, v2, v3, v4, v5, v6, rfl, f4, hno⟩
          obtain ⟨l, hl, dl, hfl⟩ : ∃ l, LotOk xs.length l ∧ DT K H3 x (rowD l) ∧ (DT K H3 x (rowD (List.range xs.length)) → l = List.range xs.length) := by
            by_cases c : DT K H3 x (rowD (List.range xs.length))
            · exact ⟨_, ⟨fun k hk => List.mem_range.mp hk, by simp⟩, c, fun _ => rfl⟩
            · obtain ⟨l, hl, dl⟩ := hz x (List.mem_of_getElem? hx)
              exact ⟨l, hl, dl, fun q => absurd q c⟩
          obtain ⟨q, rfl, tq⟩ := row_inv (dl.fr f4)
          have f24 : Fr S0 H2 H' := f3.trans f4
          have f04 : Fr S0 H H' := f02.trans f24
          refine ⟨_, rfl, _, rfl, _, q, n, es, us, l, rfl, hf.fr f04, tq, FO, by have := hl.2; omega, fun k hk => by have := hl.1 k hk; omega, fun m a H5 cm _ em f5 => ?_⟩
          have f05 := f04.trans f5
          refine ⟨_, rfl, pf, _, 2, _, rfl, rfl, (tf.fr f05).sq, rfl, pu, _, rfl, (tu.fr f05).sq, fun d2 hd2 => lc_it (walk_enumT (K := K) (a := pu) (xs := ys)) (fun i H' => Fr S0 H5 H' ∧ ∃ ns : List Nat, H' d2 = some (.lst (ivs ns)) ∧ ns.length ≤ i ∧ (ns = [] → ∀ p ∈ us.take i, mq m p.1 ≠ mq m p.2)) ?_ ?_ ?_ ?_⟩
          · exact ⟨(Fr.refl _ _).new hd2, [], upd_same, Nat.le_refl _, fun _ p hp => by simp at hp⟩
          · rintro i H' _ ⟨f6, _⟩
            exact ((tu.fr f05).fr f6).sq
          · rintro i x H6 H7 hi ⟨f6, ns, g1, g2, g3⟩ ⟨tt, y1, y2, rfl, ht, rfl, hy1, hy2⟩
            cases Option.some.inj hy1
            have f7 : Fr S0 H6 (upd H6 tt (.tup [.int (i : Nat), y2])) := (Fr.refl _ _).new ht
            obtain ⟨r, q3, er, rfl, tr⟩ := p2_at (ru.fr ((f05.trans f6).trans f7)) hy2
            have hrm := List.mem_of_getElem? er
            obtain ⟨r1, r2⟩ := FO.U r hrm
            have hi' : i < us.length := by omega
            have em7 := (f6.trans f7).keep _ _ em (fun z => z)
            have g7 := f7.keep _ _ g1 (fun z => z)
            refine ⟨tt, _, rfl, SqT.of upd_same, rfl, _, _, rfl, _, _, rfl, q3, _, rfl, tr.sq, rfl, _, _, rfl, _, _, rfl, rfl, rfl, ?_⟩

            refine ⟨rfl, _, rfl, _, rfl, a, _, _, _, rfl, rfl, SqL.of em7, atI_nat (ivs_at (by rw [cm.len]; omega)), ?_⟩
            refine ⟨_, rfl, _, rfl, a, _, _, _, rfl, rfl, SqL.of em7, atI_nat (ivs_at (by rw [cm.len]; omega)), rfl, _, rfl, ?_⟩
            by_cases hc : mq m r.1 = mq m r.2
            · rw [ivT (show m.getD r.1 0 = m.getD r.2 0 from hc)]
              refine iteT ?_
              exact ⟨_, rfl, _, g7, by rw [ivs_len]; exact sz (by omega), (f6.trans f7).mut hd2, ns ++ [i], by rw [upd_same, ivs_app]; rfl, by simp; omega, fun h => by simp at h⟩
            · rw [ivF (show m.getD r.1 0 ≠ m.getD r.2 0 from hc)]
              refine iteF ⟨f6.trans f7, ns, g7, by omega, fun h p hp => ?_⟩
              rw [List.take_succ, er] at hp
              rcases List.mem_append.mp hp with hp | hp
              · exact g3 h p hp
              · simp at hp; subst hp; exact hc
          · rintro H6 ⟨f6, ns, g1, g2, g3⟩
            rw [ly, List.take_length] at g3
            refine ⟨_, rfl, Nat.zero_le _, fun q2 hq2 => ?_⟩
            have f7 : Fr S0 H6 (upd H6 q2 (.lst [])) := (Fr.refl _ _).new hq2
            refine ⟨_, _, dp_ints (f7.keep _ _ g1 (fun z => z)), dp_ints (ns := []) upd_same, shaped_ints _, shaped_nil, _, rfl, ?_⟩
            rw [show (([] : List Nat).map fun x : Nat => PyData.int (x : Int)) = [] from rfl, eqv_nil]
            have f8 : Fr S0 H5 (upd H6 q2 (.lst [])) := f6.trans f7
            have g8 := f7.keep _ _ g1 (fun z => z)
            generalize upd H6 q2 (.lst []) = H8 at f8 g8
            cases ns with
            | nil =>
              refine iteF ?_
              refine ⟨_, _, _, _, _, _, rfl, f4.trans (f5.trans f8), fun z hzz hd => ?_⟩
              rw [List.take_succ, hx] at hzz
              rcases List.mem_append.mp hzz with h | h
              · exact hno z h hd
              · simp at h; subst h
                have e12 := hfl hd
                subst e12
                rw [lx, pickE_all] at cm
                exact g3 rfl p0 hp0 (hit m cm)
            | cons c cs =>
              refine iteT ?_
              refine ⟨_, rfl, d2, _, 0, _, rfl, rfl, SqL.of g8, atI_nat (j := 0) (show (ivs (c :: cs))[0]? = some (iv c) from rfl), _, rfl, by show 2 ≤ sizeLine; decide, fun t ht => ?_⟩
              exact k _ _ (fun h => by cases h) (fun _ => usn) (((f05.trans f8)).new ht)
        · rintro σ H' ⟨_, _, _, _, _, _, rfl, f4, hno⟩
          obtain ⟨z, hzm, hzd⟩ := hfull
          exact absurd (hzd) (hno z (by rw [List.take_length]; exact hzm) ·)
end
end K12
set_option linter.all false
set_option maxRecDepth 100000
set_option maxHeartbeats 1600000
/-! K12w13: the law's facts. -/
namespace K12
open PySem PySem.Spec PyProof.Rows L2
theorem cutE {te : TE} {σ : L2.St} {H : Hp} {Q : VK} (P : V → Hp → Prop) (h : ∀ Q' : VK, (∀ v H1, P v H1 → Q' v H1) → te σ H Q') (k : ∀ v H1, P v H1 → Q v H1) : te σ H Q := h Q k
def tI (r : T3) : List Int := [(r.1 : Int), (r.2.1 : Int), (r.2.2 : Int)]
def pI (p : Nat × Nat) : List Int := [(p.1 : Int), (p.2 : Int)]
theorem back_tI {G : T3 → Prop} : ∀ {L : List (Addr × List Int)}, (∀ p ∈ L, ∃ r, p.2 = tI r ∧ G r) → ∃ es : List T3, L.map (·.2) = es.map tI ∧ ∀ r ∈ es, G r
  | [], _ => ⟨[], rfl, by simp⟩
  | p :: L, h => by
    obtain ⟨r, h1, h2⟩ := h p List.mem_cons_self
    obtain ⟨es, h3, h4⟩ := back_tI (L := L) fun q hq => h q (List.mem_cons_of_mem _ hq)
    exact ⟨r :: es, by simp [h1, h3], by simp [h2]; exact fun a b c h => h4 _ h⟩
theorem back_pI {G : Nat × Nat → Prop} : ∀ {L : List (Addr × List Int)}, (∀ p ∈ L, ∃ r, p.2 = pI r ∧ G r) → ∃ us : List (Nat × Nat), L.map (·.2) = us.map pI ∧ ∀ r ∈ us, G r
  | [], _ => ⟨[], rfl, by simp⟩
  | p :: L, h => by
    obtain ⟨r, h1, h2⟩ := h p List.mem_cons_self
    obtain ⟨es, h3, h4⟩ := back_pI (L := L) fun q hq => h q (List.mem_cons_of_mem _ hq)
    exact ⟨r :: es, by simp [h1, h3], by simp [h2]; exact fun a b h => h4 _ h⟩
theorem dts_tI {K : PySem.W.Frag} {H : Hp} : ∀ {L : List (Addr × List Int)} {es : List T3}, (∀ p ∈ L, Tp K H p.1 (p.2.map V.int)) → L.map (·.2) = es.map tI → DTs K H (L.map fun q => V.ref q.1) (es.map t3D)
  | [], [], _, _ => .nil
  | p :: L, r :: es, h, e => by
    simp only [List.map_cons, List.cons.injEq] at e
    refine .cons ?_ (dts_tI (fun q hq => h q (List.mem_cons_of_mem _ hq)) e.2)
    have := h p List.mem_cons_self
    rw [e.1] at this
    exact .tup this (dts_ivs [r.1, r.2.1, r.2.2])
theorem dts_pI {K : PySem.W.Frag} {H : Hp} : ∀ {L : List (Addr × List Int)} {es : List (Nat × Nat)}, (∀ p ∈ L, Tp K H p.1 (p.2.map V.int)) → L.map (·.2) = es.map pI → DTs K H (L.map fun q => V.ref q.1) (es.map p2D)
  | [], [], _, _ => .nil
  | p :: L, r :: es, h, e => by
    simp only [List.map_cons, List.cons.injEq] at e
    refine .cons ?_ (dts_pI (fun q hq => h q (List.mem_cons_of_mem _ hq)) e.2)
    have := h p List.mem_cons_self
    rw [e.1] at this
    exact .tup this (dts_ivs [r.1, r.2])
/-- a list of tuples of numbers -/
def TL (K : PySem.W.Frag) (H : Hp) (l : Addr) (ks : List (Addr × List Int)) : Prop := H l = some (.lst (ks.map fun p => V.ref p.1)) ∧ ∀ p ∈ ks, Tp K H p.1 (p.2.map V.int)
section
variable {P : Program} {w : World} {K : PySem.W.Frag} {mg : Str → Option Value} {base : Heap}
def spFacts (K : PySem.W.Frag) : Sp := fun vs H Q _ => ∃ (b : Addr) (n : Nat), vs = [.ref b, iv n] ∧ Bag H b ∧ 0 < n ∧ n ≤ 5 ∧
  ∀ (es : List T3) (us : List (Nat × Nat)) v H', FactsOk n es us → us.length ≤ 4 → DT K H' v (factsD n es us) → Fr (S1 b) H H' → Bag H' b → Q v H'
abbrev sFacts : Stmt := top 59
abbrev psFacts : List Str := ["_law_bag_here", "_law_names"]
abbrev nFacts : List Str := ["_law_bag_here", "_law_names", "_law_size", "_law_table_here", "_law_things_here", "_law_entries", "_law_turn", "_law_x", "_law_y", "_law_some", "_law_k", "_law_unlike"]
theorem scFacts : FnScope nFacts psFacts (defScope sFacts) := ⟨rfl, rfl, rfl, by decide +kernel, rfl, by decide +kernel, by decide +kernel⟩
theorem ok_facts (D : Df K mg "_law_facts" sFacts psFacts) (T : Bi mg) (cD : Cl P w K mg base "_law_draw" ["_law_bag_here", "_law_limit"] 1 spDraw) (cP : Cl P w K mg base "_law_pick" ["_law_bag_here", "_law_items"] 2 (spPick K))
    (cT : Cl P w K mg base "_law_table" ["_law_bag_here", "_law_size"] 3 (spTable K)) (cH : Cl P w K mg base "_law_things" ["_law_bag_here", "_law_many", "_law_size"] 2 spThings) : Cl P w K mg base "_law_facts" psFacts 4 (spFacts K) := by
  refine D.ok scFacts (fun vs H Q E h => ?_) (fun f cdv A outer s H vs Q E hr h => ?_)
  · obtain ⟨b, n, rfl, _⟩ := h
    rfl
  · obtain ⟨b, n, rfl, hb, h0, h5, k⟩ := h
    have hr1 : Room 1 _ := hr.mono (by decide)
    have hr2 : Room 2 _ := hr.mono (by decide)
    refine ⟨_, pss_cons (ps_set (i := 2) scFacts.nd rfl (Or.inl rfl) (pe_op op_add pe_int (pe_cl cD hr1 (pa_cons (pv 0) (pa_cons pe_int pa_nil))))) (pss_cons (ps_asg (pe_tup (pa_cons (pe_cl cT hr (pa_cons (pv 0) (pa_cons (pv 2) pa_nil))) (pa_cons (pe_cl cH hr2 (pa_cons (pv 0) (pa_cons (pv 1) (pa_cons (pv 2) pa_nil)))) (pa_cons (pe_lst pa_nil) pa_nil)))) (pg_tup (by rfl) (pgs_cons (pg_name (i := 3) scFacts.nd rfl (Or.inr rfl)) (pgs_cons (pg_name (i := 4) scFacts.nd rfl (Or.inr rfl)) (pgs_cons (pg_name (i := 5) scFacts.nd rfl (Or.inl rfl)) pgs_nil))))) (pss_cons (ps_for PassesOwn.never rfl (pi_range1 rfl T.range (pa_cons (pe_cl cP hr2 (pa_cons (pv 0) (pa_cons (pe_lst (pa_cons pe_int (pa_cons pe_int (pa_cons pe_int (pa_cons pe_int pa_nil))))) pa_nil))) pa_nil)) (pg_name (i := 6) scFacts.nd rfl (Or.inl rfl)) (pss_cons (ps_asg (pe_tup (pa_cons (pe_cl cD hr1 (pa_cons (pv 0) (pa_cons (pv 1) pa_nil))) (pa_cons (pe_cl cD hr1 (pa_cons (pv 0) (pa_cons (pv 1) pa_nil))) pa_nil))) (pg_tup (by rfl) (pgs_cons (pg_name (i := 7) scFacts.nd rfl (Or.inr rfl)) (pgs_cons (pg_name (i := 8) scFacts.nd rfl (Or.inr rfl)) pgs_nil)))) (pss_cons (ps_setLc (i := 9) (own := [("_law_k", 10)]) (g := gName 10) (tt := _) rfl scFacts.nd rfl rfl (sw_true rfl rfl rfl (by decide +kernel)) (pi_range1 rfl T.range (pa_cons (pv 1) pa_nil)) (blkOk_by (N := nFacts) (sc := defScope sFacts) (by decide +kernel)) (fun _ _ _ _ _ => pg_name (i := 10) scFacts.nd rfl (Or.inl rfl)) (fun _ _ _ _ _ => pts_one (pt_cmpR op_eq (pe_ix (ix_tupk K) (pv 4) (pv 10) (fun _ _ => rfl)) (pe_ix (ix_tupk K) (pe_ix (ix_tupk K) (pv 3) (pe_ix (ix_tupk K) (pv 4) (pv 7) (fun _ _ => rfl)) (fun _ _ => rfl)) (pe_ix (ix_tupk K) (pv 4) (pv 8) (fun _ _ => rfl)) (fun _ _ => rfl)) (nomark _))) (fun _ _ _ _ _ => pv 10)) (pss_one (ps_expr (pe_bm PySem.F.plainAttrs_list PySem.F.slot_list_append PySem.F.type_list_append mt_append (pv 5) (pa_cons (pe_tup (pa_cons (pv 7) (pa_cons (pv 8) (pa_cons (pe_cl cP hr2 (pa_cons (pv 0) (pa_cons (pe_op op_cat (pv 9) (pe_op op_rep (pe_lst (pa_cons (pe_cl cD hr1 (pa_cons (pv 0) (pa_cons (pv 1) pa_nil))) pa_nil)) (pe_callTy call_int1 (by rfl) T.int PyProof.Rows.boot_int (pa_cons (pe_or (pe_cmpR (op_eqD hr.units) (pv 9) (pe_lst pa_nil) (nomark _)) (pe_one (pe_cmpR op_eq (pe_cl cD hr1 (pa_cons (pv 0) (pa_cons pe_int pa_nil))) pe_int (nomark _)))) pa_nil)))) pa_nil))) pa_nil)))) pa_nil))))))) (pss_cons (ps_set (i := 11) scFacts.nd rfl (Or.inl rfl) (pe_lst pa_nil)) (pss_cons (ps_for PassesOwn.never rfl (pi_range1 rfl T.range (pa_cons (pe_cl cD hr1 (pa_cons (pv 0) (pa_cons pe_int pa_nil))) pa_nil)) (pg_name (i := 6) scFacts.nd rfl (Or.inl rfl)) (pss_cons (ps_asg (pe_tup (pa_cons (pe_cl cD hr1 (pa_cons (pv 0) (pa_cons (pv 1) pa_nil))) (pa_cons (pe_cl cD hr1 (pa_cons (pv 0) (pa_cons (pv 1) pa_nil))) pa_nil))) (pg_tup (by rfl) (pgs_cons (pg_name (i := 7) scFacts.nd rfl (Or.inr rfl)) (pgs_cons (pg_name (i := 8) scFacts.nd rfl (Or.inr rfl)) pgs_nil)))) (pss_one (ps_if (pt_cmpR op_ne (pe_ix ix_tup (pv 4) (pv 7) (fun _ _ => rfl)) (pe_ix ix_tup (pv 4) (pv 8) (fun _ _ => rfl)) (nomark _)) (pss_one (ps_expr (pe_bm PySem.F.plainAttrs_list PySem.F.slot_list_append PySem.F.type_list_append mt_append (pv 11) (pa_cons (pe_tup (pa_cons (pe_callB (call_min2 rfl) (by rfl) T.min (by decide +kernel) (pa_cons (pv 7) (pa_cons (pv 8) pa_nil))) (pa_cons (pe_callB (call_max2 rfl) (by rfl) T.max (by decide +kernel) (pa_cons (pv 7) (pa_cons (pv 8) pa_nil))) pa_nil))) pa_nil)))) pss_nil)))) (pss_one (ps_ret (pe_tup (pa_cons (pv 1) (pa_cons (pe_slice sl_tupA (pe_callTy call_tuple_of (by rfl) T.tuple PyProof.Rows.boot_tuple (pa_cons (pe_callB (cr_sortedT rfl) (by rfl) T.sorted PyProof.Rows.boot_sorted (pa_cons (pe_callTy (cr_setOfT rfl hr.units) (by rfl) T.set PyProof.Rows.boot_set (pa_cons (pv 5) pa_nil)) pa_nil)) pa_nil)) po_none (po_some pe_int)) (pa_cons (pe_callTy call_tuple_of (by rfl) T.tuple PyProof.Rows.boot_tuple (pa_cons (pe_callB (cr_sortedT rfl) (by rfl) T.sorted PyProof.Rows.boot_sorted (pa_cons (pe_callTy (cr_setOfT rfl hr.units) (by rfl) T.set PyProof.Rows.boot_set (pa_cons (pv 11) pa_nil)) pa_nil)) pa_nil)) pa_nil)))))))))), ?_⟩
    refine ⟨_, rfl, b, 4, rfl, hb, by decide, by decide, fun d H1 hd f1 hb1 => ⟨2, (d : Int), rfl, rfl, ?_⟩⟩
    refine ⟨_, rfl, _, rfl, b, 2 + d, rfl, hb1, by omega, by omega, fun T0 vT H2 L dT f2 hb2 => ?_⟩
    refine ⟨_, rfl, _, rfl, _, rfl, b, n, 2 + d, rfl, hb2, by omega, by omega, by omega, fun th p H3 lth bth np e3 f3 hb3 => ?_⟩
    refine ⟨Nat.zero_le _, fun el hel => ⟨by show 3 ≤ sizeLine; decide, fun t ht => ⟨t, _, rfl, SqT.of upd_same, rfl, _, _, rfl, _, _, rfl, _, _, rfl, rfl, ?_⟩⟩⟩
    have npb : p ≠ b := hb2.ne (by
      cases q : H2 p with
      | none => rfl
      | some o => rw [q] at np; cases np)
    have f03 : Fr (S1 b) H H3 := (f1.trans f2).trans f3
    have neb : el ≠ b := hb3.ne hel
    have hel0 : H el = none := hb3.freeB f03 hel
    generalize hH4 : upd (upd H3 el (.lst [])) t _ = H4
    have f34 : Fr S0 H3 H4 := by rw [← hH4]; exact ((Fr.refl _ _).new hel).new ht
    have nte : el ≠ t := ne_of_none (show upd H3 el (.lst []) el = _ from upd_same) ht
    have eel : H4 el = some (.lst []) := by rw [← hH4, upd_ne nte]; exact upd_same
    have f04 := f03.trans (f34.mono fun a z => z.elim)
    have hb4 := hb3.fr f34 (fun z => z)
    have tth : Tp K H4 p (ivs th) := Tp.fr f34 (.of e3)
    have dT4 : DT K H4 vT (tabD T0) := (dT.fr f3).fr f34
    clear hH4 ht hel
    obtain ⟨pt, ts, rfl, tt, lt, ct⟩ := tab_inv dT4
    refine ⟨_, rfl, by show 4 ≤ sizeLine; decide, fun l hl => ?_⟩
    have n5 : Fr S0 H4 (upd H4 l (.lst [V.int 0, V.int 3, V.int 8, V.int 30])) := (Fr.refl _ _).new hl
    refine ⟨b, l, _, rfl, hb4.fr n5 (fun z => z), hb4.ne hl, upd_same, by show 0 < 4; decide, by show 4 < 1073741824; decide, fun i v H5 hi f5 hb5 => ?_⟩
    obtain ⟨mm, hmm, rfl⟩ : ∃ mm : Nat, mm ≤ 30 ∧ v = iv mm := by
      match i, hi with
      | 0, hi => exact ⟨0, by decide, (Option.some.inj hi).symm⟩
      | 1, hi => exact ⟨3, by decide, (Option.some.inj hi).symm⟩
      | 2, hi => exact ⟨8, by decide, (Option.some.inj hi).symm⟩
      | 3, hi => exact ⟨30, by decide, (Option.some.inj hi).symm⟩
    have f45 : Fr (S1 b) H4 H5 := (n5.mono fun a z => z.elim).trans f5
    clear n5 f5 hi hl
    let G : Nat → Hp → Prop := fun c H' => ∃ ks : List (Addr × List Int), ks.length ≤ c ∧ TL K H' el ks ∧ (∀ p ∈ ks, ∃ r : T3, p.2 = tI r ∧ r.1 < n ∧ r.2.1 < n ∧ r.2.2 < n) ∧ Fr (S1 b) H H' ∧ Bag H' b ∧ Tp K H' p (ivs th) ∧ Fr (fun a => a = b ∨ a = el) H4 H'
    refine ⟨_, rfl, by omega, by omega, for_range (lo := 0) (n := mm) (fun i σ H' => ∃ (v6 v7 v8 v9 v10 v11 : Option V), σ = [some (.ref b), some (iv n), some (iv (2 + d)), some (.ref pt), some (.ref p), some (.ref el), v6, v7, v8, v9, none, none] ∧ G i H') ?_ ?_ ?_⟩
    · exact ⟨_, _, _, _, none, none, rfl, [], Nat.zero_le _, ⟨f45.keep _ _ eel neb, by simp⟩, by simp, f04.trans f45, hb5, tth.fr f45, f45.mono fun a z => .inl z⟩
    · rintro i σ H6 hi ⟨v6, v7, v8, v9, v10, v11, rfl, ks, k1, ⟨k2, k3⟩, k4, f06, hb6, tp6, f46⟩
      refine ⟨_, rfl, _, rfl, b, n, rfl, hb6, h0, by omega, fun x H7 hx f7 hb7 => ⟨_, rfl, _, rfl, b, n, rfl, hb7, h0, by omega, fun y H8 hy f8 hb8 => ⟨by show 2 ≤ sizeLine; decide, fun t ht => ⟨t, _, rfl, SqT.of upd_same, rfl, _, _, rfl, _, _, rfl, rfl, ?_⟩⟩⟩⟩
      have n9 : Fr S0 H8 (upd H8 t (.tup [iv x, iv y])) := (Fr.refl _ _).new ht
      have f69 : Fr (S1 b) H6 (upd H8 t (.tup [iv x, iv y])) := (f7.trans f8).new ht
      have hb9 := hb8.fr n9 (fun z => z)
      generalize upd H8 t (.tup [iv x, iv y]) = H9 at f69 hb9
      clear n9 ht
      refine ⟨_, rfl, _, rfl, by omega, by omega, fun dd hdd => lc_range (lo := 0) (n := n) (fun j H' => Fr S0 H9 H' ∧ ∃ ns : List Nat, H' dd = some (.lst (ivs ns)) ∧ ns.length ≤ j ∧ ∀ z ∈ ns, z < n) ?_ ?_ ?_⟩
      · exact ⟨(Fr.refl _ _).new hdd, [], upd_same, Nat.le_refl _, by simp⟩
      · rintro j H' hj ⟨f10, ns, g1, g2, g3⟩
        have ee : ((0 : Int) + (j : Int)) = (j : Int) := by omega
        rw [ee]
        have f4' : Fr (fun a => a = b ∨ a = el) H4 H' := (f46.trans (f69.mono fun a z => .inl z)).trans (f10.mono fun a z => z.elim)
        have tp' := (tp6.fr f69).fr f10
        have bx := bth _ (getD_mem (l := th) (k := x) (by omega))
        have by_ := bth _ (getD_mem (l := th) (k := y) (by omega))
        obtain ⟨rq, c1, c2⟩ := ct _ (by rw [L.len]; exact bx)
        obtain ⟨d1, d2, d3⟩ := L.rowOf bx
        refine ⟨rfl, _, rfl, _, rfl, p, _, _, _, rfl, rfl, tp'.sq, atI_nat (ivs_at (by omega)), ?_⟩
        refine ⟨_, rfl, _, rfl, _, rfl, p, _, _, _, rfl, rfl, tp'.sq, atI_nat (ivs_at (by omega)), pt, _, _, _, rfl, rfl, (tt.fr f4').sq, atI_nat c1, ?_⟩
        refine ⟨_, rfl, _, rfl, p, _, _, _, rfl, rfl, tp'.sq, atI_nat (ivs_at (by omega)), rq, _, _, _, rfl, rfl, (c2.fr f4').sq, atI_nat (ivs_at (by rw [d1]; exact by_)), rfl, _, rfl, ?_⟩
        refine ite2 (fun _ => ?_) (fun _ => ?_)
        · exact ⟨_, rfl, _, g1, by rw [ivs_len]; exact sz (by omega), f10.mut hdd, ns ++ [j], by rw [upd_same, ivs_app]; rfl, by simp; omega, fun z hz => by
            rcases List.mem_append.mp hz with h | h
            · exact g3 z h
            · simp at h; omega⟩
        · exact ⟨f10, ns, g1, by omega, g3⟩
      · rintro H10 ⟨f10, ns, g1, g2, g3⟩
        have f6x : Fr (S1 b) H6 H10 := f69.trans (f10.mono fun a z => z.elim)
        have hb10 := hb9.fr f10 (fun z => z)
        have k2' := f6x.keep _ _ k2 neb
        refine ⟨_, rfl, .inl ⟨rfl, _, SqL.of k2'⟩, _, rfl, _, rfl, _, rfl, _, rfl, _, rfl, _, rfl, b, n, rfl, hb10, h0, by omega, fun z H11 hz f11 hb11 => ⟨by show 1 ≤ sizeLine; decide, fun l hl => ?_⟩⟩
        have ndb : dd ≠ b := hb9.ne hdd
        have n12 : Fr S0 H11 (upd H11 l (.lst [iv z])) := (Fr.refl _ _).new hl
        have l12 : upd H11 l (.lst [iv z]) l = some (.lst [iv z]) := upd_same
        have hb12 := hb11.fr n12 (fun z => z)
        have f612 : Fr (S1 b) H6 (upd H11 l (.lst [iv z])) := (f6x.trans f11).new hl
        have g12 : upd H11 l (.lst [iv z]) dd = some (.lst (ivs ns)) := n12.keep _ _ (f11.keep _ _ g1 ndb) (fun z => z)
        have nlb : l ≠ b := hb11.ne hl
        generalize upd H11 l (.lst [iv z]) = H12 at n12 l12 hb12 f612 g12
        clear n12 hl
        refine cutE (te := tOrV _ _) (fun v H' => ∃ c : Bool, v = .bl c ∧ Fr (S1 b) H12 H' ∧ Bag H' b ∧ (ns = [] → c = true)) (fun Q' q' => ?_) ?_
        · refine ⟨_, rfl, Nat.zero_le _, fun q hq => ?_⟩
          have n13 : Fr S0 H12 (upd H12 q (.lst [])) := (Fr.refl _ _).new hq
          refine ⟨_, _, dp_ints (n13.keep _ _ g12 (fun z => z)), dp_ints (ns := []) upd_same, shaped_ints _, shaped_nil, _, rfl, ?_⟩
          rw [show (([] : List Nat).map fun x : Nat => PyData.int (x : Int)) = [] from rfl, eqv_nil]
          cases ns with
          | nil =>
            refine iteT ?_
            exact q' _ _ ⟨true, rfl, n13.mono fun a z => z.elim, hb12.fr n13 (fun z => z), fun _ => rfl⟩
          | cons a as =>
            refine iteF ?_
            refine ⟨_, rfl, b, 6, rfl, hb12.fr n13 (fun z => z), by decide, by decide, fun e H' he fe hbe => ⟨rfl, ?_⟩⟩
            exact q' _ _ ⟨_, rfl, (n13.mono fun a z => z.elim).trans fe, hbe, fun h => by cases h⟩
        · rintro v H13 ⟨c, rfl, f13, hb13, hc⟩
          have l13 := f13.keep _ _ l12 nlb
          have g13 := f13.keep _ _ g12 ndb
          refine .inr ⟨c, rfl, l, (if c then 1 else 0), [iv z], rfl, rfl, l13, by cases c <;> decide, by cases c <;> decide, by cases c <;> (show _ ≤ sizeLine; exact szl (by simp)), fun p2 hp2 => ?_⟩
          have n14 : Fr S0 H13 (upd H13 p2 (.lst (List.replicate (if c then 1 else 0 : Int).toNat [iv z]).flatten)) := (Fr.refl _ _).new hp2
          obtain ⟨zs, hzs1, hzs2, hzs3⟩ : ∃ zs : List Nat, (List.replicate (if c then 1 else 0 : Int).toNat [iv z]).flatten = ivs zs ∧ zs.length ≤ 1 ∧ (∀ x ∈ zs, x < n) ∧ 0 < (ns ++ zs).length := by
            cases c with
            | true => exact ⟨[z], rfl, Nat.le_refl _, by simpa using hz, by simp⟩
            | false =>
              refine ⟨[], rfl, by decide, by simp, ?_⟩
              cases ns with
              | nil => exact absurd (hc rfl) (by simp)
              | cons a as => simp
          refine ⟨dd, p2, ivs ns, ivs zs, rfl, rfl, n14.keep _ _ g13 (fun z => z), by rw [upd_same, hzs1], by rw [ivs_len, ivs_len]; exact szl (by omega), fun u hu => ?_⟩
          have n15 := n14.new (o := .lst (ivs ns ++ ivs zs)) hu
          refine ⟨b, u, ivs ns ++ ivs zs, rfl, hb13.fr n15 (fun z => z), (hb13.fr n14 (fun z => z)).ne hu, upd_same, ?_, ?_, fun j v H16 hj f16 hb16 => ?_⟩
          · rw [← ivs_app, ivs_len]; exact hzs3.2
          · rw [← ivs_app, ivs_len, List.length_append]; omega
          · rw [← ivs_app] at hj
            obtain ⟨kk, ek, rfl⟩ := iv_at hj
            have hkk : kk < n := by
              rcases List.mem_append.mp (List.mem_of_getElem? ek) with h | h
              · exact g3 kk h
              · exact hzs3.1 kk h
            refine ⟨by show 3 ≤ sizeLine; decide, fun t ht => ?_⟩
            have f616 : Fr (S1 b) H6 H16 := ((f612.trans f13).trans (n15.mono fun a z => z.elim)).trans f16
            have k2'' := (f616.new (o := .tup [iv x, iv y, iv kk]) ht).keep _ _ k2 neb
            refine ⟨el, _, _, rfl, rfl, k2'', by rw [List.length_map]; exact sz (by omega), ?_⟩
            have g : Fr (S1 el) (upd H16 t (.tup [iv x, iv y, iv kk])) (upd (upd H16 t (.tup [iv x, iv y, iv kk])) el (.lst ((ks.map fun p => V.ref p.1) ++ [.ref t]))) := (Fr.refl _ _).set rfl (lst_ne_tup k2'')
            refine ⟨_, _, _, _, none, none, rfl, ks ++ [(t, tI (x, y, kk))], by simp; omega, ⟨by rw [upd_same]; simp, ?_⟩, ?_, ((f06.trans f616).new ht).mut hel0, ?_, ?_, ?_⟩
            · intro q hq
              rcases List.mem_append.mp hq with h | h
              · exact ((((k3 q h).fr f616).fr ((Fr.refl S0 _).new ht))).fr g
              · simp at h; subst h
                exact .of (g.tup _ _ upd_same)
            · intro q hq
              rcases List.mem_append.mp hq with h | h
              · exact k4 q h
              · simp at h; subst h; exact ⟨_, rfl, hx, hy, hkk⟩
            · exact (hb16.fr ((Fr.refl S0 _).new ht) (fun z => z)).fr g (fun z => neb z.symm)
            · exact ((tp6.fr f616).fr ((Fr.refl S0 _).new ht)).fr g
            · exact (f46.trans ((f616.new ht).mono fun a z => .inl z)).trans (g.mono fun a z => .inr z)
    · rintro σ H6 ⟨v6, v7, v8, v9, v10, v11, rfl, ks, k1, ⟨k2, k3⟩, k4, f06, hb6, tp6, f46⟩
      refine ⟨Nat.zero_le _, fun ul hul => ?_⟩
      have n7 : Fr S0 H6 (upd H6 ul (.lst [])) := (Fr.refl _ _).new hul
      have ulb : ul ≠ b := hb6.ne hul
      have ule : ul ≠ el := (ne_of_none k2 hul).symm
      have hul0 : H ul = none := hb6.freeB f06 hul
      refine ⟨_, rfl, b, 5, rfl, hb6.fr n7 (fun z => z), by decide, by decide, fun e H7 he f7 hb7 => ?_⟩
      have f67 : Fr (S1 b) H6 H7 := (n7.mono fun a z => z.elim).trans f7
      have eu7 : H7 ul = some (.lst []) := f7.keep _ _ upd_same ulb
      clear n7 f7 hul
      refine ⟨_, rfl, by omega, by omega, for_range (lo := 0) (n := e) (fun i σ H' => ∃ (v6 v7 v8 v9 v10 : Option V) (ls : List (Addr × List Int)), σ = [some (.ref b), some (iv n), some (iv (2 + d)), some (.ref pt), some (.ref p), some (.ref el), v6, v7, v8, v9, none, some (.ref ul)] ∧
        ls.length ≤ i ∧ TL K H' ul ls ∧ (∀ p ∈ ls, ∃ r : Nat × Nat, p.2 = pI r ∧ r.1 < r.2 ∧ r.2 < n) ∧ TL K H' el ks ∧ Fr (S1 b) H H' ∧ Bag H' b ∧ Tp K H' p (ivs th)) ?_ ?_ ?_⟩
      · exact ⟨_, _, _, _, none, [], rfl, Nat.zero_le _, ⟨eu7, by simp⟩, by simp, ⟨f67.keep _ _ k2 neb, fun q hq => (k3 q hq).fr f67⟩, f06.trans f67, hb7, tp6.fr f67⟩
      · rintro i σ H8 hi ⟨v6, v7, v8, v9, v10, ls, rfl, l1, ⟨l2, l3⟩, l4, ⟨k2, k3⟩, f08, hb8, tp8⟩
        refine ⟨_, rfl, _, rfl, b, n, rfl, hb8, h0, by omega, fun x H9 hx f9 hb9 => ⟨_, rfl, _, rfl, b, n, rfl, hb9, h0, by omega, fun y H10 hy f10 hb10 => ⟨by show 2 ≤ sizeLine; decide, fun t ht => ⟨t, _, rfl, SqT.of upd_same, rfl, _, _, rfl, _, _, rfl, rfl, ?_⟩⟩⟩⟩
        have n11 : Fr S0 H10 (upd H10 t (.tup [iv x, iv y])) := (Fr.refl _ _).new ht
        have f811 : Fr (S1 b) H8 (upd H10 t (.tup [iv x, iv y])) := (f9.trans f10).new ht
        have hb11 := hb10.fr n11 (fun z => z)
        generalize upd H10 t (.tup [iv x, iv y]) = H11 at f811 hb11
        clear n11 ht
        have tp11 := tp8.fr f811
        have k2' := f811.keep _ _ k2 neb
        have l2' := f811.keep _ _ l2 ulb
        refine ⟨_, rfl, _, rfl, p, _, _, _, rfl, rfl, tp11.sq, atI_nat (ivs_at (by omega)), ?_⟩
        refine ⟨_, rfl, _, rfl, p, _, _, _, rfl, rfl, tp11.sq, atI_nat (ivs_at (by omega)), rfl, _, rfl, ?_⟩
        by_cases hxy : x = y
        · subst hxy
          rw [show (!decide (iv (th.getD x 0) = iv (th.getD x 0))) = false from by simp]
          refine iteF ?_
          exact ⟨_, _, _, _, none, ls, rfl, by omega, ⟨l2', fun q hq => (l3 q hq).fr f811⟩, l4, ⟨k2', fun q hq => (k3 q hq).fr f811⟩, f08.trans f811, hb11, tp11⟩
        · refine ite2 (fun _ => ?_) (fun _ => ?_)
          · refine ⟨_, rfl, .inl ⟨rfl, _, SqL.of l2'⟩, _, rfl, _, rfl, _, _, rfl, _, rfl, _, rfl, _, _, rfl, by show 2 ≤ sizeLine; decide, fun t ht => ?_⟩
            have emin : (if (y : Int) < (x : Int) then (y : Int) else (x : Int)) = ((min x y : Nat) : Int) := by split <;> omega
            have emax : (if (y : Int) > (x : Int) then (y : Int) else (x : Int)) = ((max x y : Nat) : Int) := by split <;> omega
            have n12 : Fr S0 H11 (upd H11 t (.tup [.int (if (y : Int) < (x : Int) then (y : Int) else (x : Int)), .int (if (y : Int) > (x : Int) then (y : Int) else (x : Int))])) := (Fr.refl S0 H11).new ht
            have l2'' := n12.keep _ _ l2' (fun z => z)
            refine ⟨ul, _, _, rfl, rfl, l2'', by rw [List.length_map]; exact sz (by omega), ?_⟩
            have g := (Fr.refl (S1 ul) _).set (p := ul) (o := .lst ((ls.map fun p => V.ref p.1) ++ [.ref t])) rfl (lst_ne_tup l2'')
            refine ⟨_, _, _, _, none, ls ++ [(t, pI (min x y, max x y))], rfl, by simp; omega, ⟨by rw [upd_same]; simp, ?_⟩, ?_, ⟨?_, ?_⟩, ((f08.trans f811).new ht).mut hul0, ?_, ?_⟩
            · intro q hq
              rcases List.mem_append.mp hq with h | h
              · exact (((l3 q h).fr f811).fr n12).fr g
              · simp at h; subst h
                refine .of (g.tup _ _ ?_)
                rw [upd_same, emin, emax]; rfl
            · intro q hq
              rcases List.mem_append.mp hq with h | h
              · exact l4 q h
              · simp at h; subst h; exact ⟨_, rfl, by show min x y < max x y; omega, by show max x y < n; omega⟩
            · exact g.keep _ _ (n12.keep _ _ k2' (fun z => z)) (fun z => ule z.symm)
            · exact fun q hq => (((k3 q hq).fr f811).fr n12).fr g
            · exact (hb11.fr n12 (fun z => z)).fr g (fun z => ulb z.symm)
            · exact (tp11.fr n12).fr g
          · exact ⟨_, _, _, _, none, ls, rfl, by omega, ⟨l2', fun q hq => (l3 q hq).fr f811⟩, l4, ⟨k2', fun q hq => (k3 q hq).fr f811⟩, f08.trans f811, hb11, tp11⟩
      · rintro σ H8 ⟨v6, v7, v8, v9, v10, ls, rfl, l1, ⟨l2, l3⟩, l4, ⟨k2, k3⟩, f08, hb8, tp8⟩
        refine ⟨_, rfl, _, rfl, el, ks, rfl, SqL.of k2, fun q hq => (k3 q hq).sq, by omega, fun a1 L1 ha1 hL1 _ => ?_⟩
        have s1 : Fr S0 H8 (upd H8 a1 (SetTO P w a1 L1)) := (Fr.refl _ _).new ha1
        refine ⟨a1, L1, 3, 5, rfl, upd_same, fun q hq => ((k3 q (hL1 q hq)).fr s1).sq, by decide, fun q hq => ?_, fun L2 p2 pm2 _ _ _ hp2 => ?_⟩
        · obtain ⟨r, e1, e2, e3, e4⟩ := k4 q (hL1 q hq)
          rw [e1]
          refine ⟨rfl, fun m hm => ?_⟩
          simp only [tI, List.mem_cons, List.not_mem_nil, or_false] at hm
          rcases hm with rfl | rfl | rfl <;> omega
        have s2 := s1.new (o := .lst (L2.map fun q => V.ref q.1)) hp2
        have mem2 : ∀ q ∈ L2, q ∈ ks := fun q hq => hL1 q (pm2.subset hq)
        refine ⟨p2, _, rfl, .inl ⟨SqL.of upd_same, fun tp htp => ?_⟩⟩
        have s3 := s2.new (o := .tup (L2.map fun q => V.ref q.1)) htp
        obtain ⟨es0, ees, hes⟩ := back_tI (L := L2) (G := fun r => r.1 < n ∧ r.2.1 < n ∧ r.2.2 < n) fun q hq => k4 q (mem2 q hq)
        have d3 : ∀ {H' : Hp}, Fr S0 H8 H' → DTs K H' (L2.map fun q => V.ref q.1) (es0.map t3D) := fun f => dts_tI (fun q hq => (k3 q (mem2 q hq)).fr f) ees
        have sx : HT.sIx (L2.map fun q => V.ref q.1).length (L2.map fun q => V.ref q.1).length (some 10) = min 10 (L2.map fun q => V.ref q.1).length := HT.sIx_nat _ _ 10
        have les : (es0.take 10).length ≤ 10 := by rw [List.length_take]; omega
        have hes' : Rows n (es0.take 10) := fun r hr => hes r (List.mem_of_mem_take hr)
        -- what follows the entries
        have next : ∀ (te : Addr) (H9 : Hp), Fr S0 H8 H9 → DT K H9 (.ref te) (.tuple ((es0.take 10).map t3D)) → ∀ Q' : List V → Hp → Prop, (∀ tu H10 (us : List (Nat × Nat)), us.length ≤ 4 → (∀ p ∈ us, p.1 < p.2 ∧ p.2 < n) → Fr S0 H9 H10 → DT K H10 (.ref tu) (.tuple (us.map p2D)) → Q' [.ref tu] H10) →
            tCons (tCB (fun xs H Q => ∃ p ys, xs = [.ref p] ∧ ((SqL K H p ys ∧ ∀ l, H l = none → Q (.ref l) (upd H l (.tup ys))) ∨ (SqT K H p ys ∧ Q (.ref p) H))) (tCons (tCB (rSortedT K P w) (tCons (tCB (rSetOfT K P w) (tCons (tVar 11) tNil)) tNil)) tNil)) tNil
              [some (.ref b), some (iv n), some (iv (2 + d)), some (.ref pt), some (.ref p), some (.ref el), v6, v7, v8, v9, none, some (.ref ul)] H9 Q' := by
          intro te H9 f9 _ Q' q'
          refine ⟨_, rfl, ul, ls, rfl, SqL.of (f9.keep _ _ l2 (fun z => z)), fun q hq => ((l3 q hq).fr f9).sq, by omega, fun a1 L1 ha1 hL1 _ => ?_⟩
          have s1 : Fr S0 H9 (upd H9 a1 (SetTO P w a1 L1)) := (Fr.refl _ _).new ha1
          refine ⟨a1, L1, 2, 5, rfl, upd_same, fun q hq => (((l3 q (hL1 q hq)).fr f9).fr s1).sq, by decide, fun q hq => ?_, fun L2 p2 pm2 nd2 _ _ hp2 => ?_⟩
          · obtain ⟨r, e1, e2, e3⟩ := l4 q (hL1 q hq)
            rw [e1]
            refine ⟨rfl, fun m hm => ?_⟩
            simp only [pI, List.mem_cons, List.not_mem_nil, or_false] at hm
            rcases hm with rfl | rfl <;> omega
          have s2 := s1.new (o := .lst (L2.map fun q => V.ref q.1)) hp2
          have mem2 : ∀ q ∈ L2, q ∈ ls := fun q hq => hL1 q (pm2.subset hq)
          refine ⟨p2, _, rfl, .inl ⟨SqL.of upd_same, fun tp htp => ?_⟩⟩
          have s3 := s2.new (o := .tup (L2.map fun q => V.ref q.1)) htp
          obtain ⟨us0, ees, hes⟩ := back_pI (L := L2) (G := fun r => r.1 < r.2 ∧ r.2 < n) fun q hq => l4 q (mem2 q hq)
          refine q' tp _ us0 ?_ hes s3 (.tup (.of upd_same) (dts_pI (fun q hq => ((l3 q (mem2 q hq)).fr f9).fr s3) ees))
          have h1 : us0.length = L2.length := by have := congrArg List.length ees; simpa using this.symm
          have h2 := List.Nodup.length_le_of_subset nd2 (l₂ := ls.map (·.2)) fun x hx => by
            obtain ⟨q, hq, rfl⟩ := List.mem_map.mp hx
            exact List.mem_map.mpr ⟨q, mem2 q hq, rfl⟩
          rw [List.length_map, List.length_map] at h2
          omega
        have fin : ∀ (te : Addr) (H9 : Hp), Fr S0 H8 H9 → DT K H9 (.ref te) (.tuple ((es0.take 10).map t3D)) → ∀ tu H10 (us : List (Nat × Nat)), us.length ≤ 4 → (∀ p ∈ us, p.1 < p.2 ∧ p.2 < n) → Fr S0 H9 H10 → DT K H10 (.ref tu) (.tuple (us.map p2D)) →
            ∀ q, H10 q = none → Q (.ref q) (upd H10 q (.tup [iv n, .ref te, .ref tu])) := by
          intro te H9 f9 d9 tu H10 us hu1 hu2 f10 d10 q hq
          have f11 : Fr S0 H10 (upd H10 q (.tup [iv n, .ref te, .ref tu])) := (Fr.refl _ _).new hq
          have f811 : Fr S0 H8 (upd H10 q (.tup [iv n, .ref te, .ref tu])) := (f9.trans f10).trans f11
          exact k (es0.take 10) us _ _ ⟨h0, h5, hes', hu2, les, by omega⟩ hu1 (.tup (.of upd_same) (.cons (.int _) (.cons ((d9.fr f10).fr f11) (.one (d10.fr f11))))) (f08.trans (f811.mono fun a z => z.elim)) (hb8.fr f811 (fun z => z))
        refine ⟨_, rfl, tp, _, rfl, SqT.of upd_same, fun hw => ?_, fun _ tp2 htp2 => ?_⟩
        · have whole : es0.take 10 = es0 := by
            apply List.take_of_length_le
            rw [sx] at hw
            have h1 : es0.length = L2.length := by have := congrArg List.length ees; simpa using this.symm
            have h2 := hw.2
            rw [List.length_map] at h2
            omega
          have d9 := DT.tup (K := K) (a := tp) (Tp.of upd_same) (d3 s3)
          rw [← whole] at d9
          refine next tp _ s3 d9 _ fun tu H10 us hu1 hu2 f10 d10 => ⟨by show 3 ≤ sizeLine; decide, fin tp _ s3 d9 tu H10 us hu1 hu2 f10 d10⟩
        · have s4 := s3.new (o := .tup (cutV (L2.map fun q => V.ref q.1) none (some 10))) htp2
          have e9 : cutV (L2.map fun q => V.ref q.1) none (some 10) = (L2.map fun q => V.ref q.1).take 10 := by
              unfold cutV
              rw [sx, HT.sIx_none, List.drop_zero, Nat.sub_zero]
              by_cases h : 10 ≤ (L2.map fun q => V.ref q.1).length
              · rw [Nat.min_eq_left h]
              · rw [Nat.min_eq_right (by omega), List.take_length, List.take_of_length_le (by omega)]
          have t9 := (d3 s4).take 10
          rw [← e9, ← List.map_take] at t9
          have d9 := DT.tup (K := K) (a := tp2) (Tp.of upd_same) t9
          refine next tp2 _ s4 d9 _ fun tu H10 us hu1 hu2 f10 d10 => ⟨by show 3 ≤ sizeLine; decide, fin tp2 _ s4 d9 tu H10 us hu1 hu2 f10 d10⟩
end
end K12
set_option linter.all false
set_option maxRecDepth 100000
set_option maxHeartbeats 1600000
/-! K12w14: the law's good facts. -/
namespace K12
open PySem PySem.Spec PyProof.Rows L2
theorem cut_drop1 (xs : List V) : cutV xs (some 1) none = xs.drop 1 := by
  unfold cutV
  rw [show (1 : Int) = ((1 : Nat) : Int) from rfl, HT.sIx_nat, HT.sIx_none]
  by_cases h : 1 ≤ xs.length
  · rw [Nat.min_eq_left h, List.take_of_length_le (by rw [List.length_drop]; omega)]
  · have : xs = [] := List.eq_nil_of_length_eq_zero (by omega)
    subst this; rfl
section
variable {P : Program} {w : World} {K : PySem.W.Frag} {mg : Str → Option Value} {base : Heap}
def spGood (K : PySem.W.Frag) : Sp := fun vs H Q _ => ∃ (b : Addr) (n : Nat), vs = [.ref b, iv n] ∧ Bag H b ∧ 0 < n ∧ n ≤ 5 ∧
  ∀ (es : List T3) (us : List (Nat × Nat)) v H', FactsOk n es us → NoClash n es us → DT K H' v (factsD n es us) → Fr (S1 b) H H' → Bag H' b → Q v H'
abbrev sGood : Stmt := top 65
abbrev psGood : List Str := ["_law_bag_here", "_law_names"]
abbrev nGood : List Str := ["_law_bag_here", "_law_names", "_law_facts_here", "_law_turn"]
theorem scGood : FnScope nGood psGood (defScope sGood) := ⟨rfl, rfl, rfl, by decide +kernel, rfl, by decide +kernel, by decide +kernel⟩
theorem ok_good (D : Df K mg "_law_good_facts" sGood psGood) (T : Bi mg) (cF : Cl P w K mg base "_law_facts" psFacts 4 (spFacts K)) (cC : Cl P w K mg base "_law_clash" psClash 4 (spClash K)) : Cl P w K mg base "_law_good_facts" psGood 5 (spGood K) := by
  refine D.ok scGood (fun vs H Q E h => ?_) (fun f cdv A outer s H vs Q E hr h => ?_)
  · obtain ⟨b, n, rfl, _⟩ := h
    rfl
  · obtain ⟨b, n, rfl, hb, h0, h5, k⟩ := h
    refine ⟨_, pss_cons (ps_set (i := 2) scGood.nd rfl (Or.inl rfl) (pe_cl cF hr (pa_cons (pv 0) (pa_cons (pv 1) pa_nil)))) (pss_cons (ps_for PassesOwn.never rfl (pi_range1 rfl T.range (pa_cons pe_int pa_nil)) (pg_name (i := 3) scGood.nd rfl (Or.inl rfl)) (pss_cons (ps_if (pt_cmpR op_isN (pe_cl cC hr (pa_cons (pv 2) pa_nil)) pe_non (nomark _)) (pss_one ps_break) pss_nil) (pss_one (ps_set (i := 2) scGood.nd rfl (Or.inl rfl) (pe_tup (pa_cons (pv 1) (pa_cons (pe_ix ix_tup (pv 2) pe_int (fun _ _ => rfl)) (pa_cons (pe_slice sl_tupA (pe_ix ix_tup (pv 2) pe_int (fun _ _ => rfl)) (po_some pe_int) po_none) pa_nil)))))))) (pss_one (ps_ret (pv 2)))), ?_⟩
    refine ⟨_, rfl, _, rfl, b, n, rfl, hb, h0, h5, fun es us v H1 FO hu dv f1 hb1 => ?_⟩
    refine ⟨_, rfl, by decide, by decide, for_range (lo := 0) (n := 20) (fun i σ H' => ∃ (us : List (Nat × Nat)) (v : V) (v3 : Option V), σ = [some (.ref b), some (iv n), some v, v3] ∧ FactsOk n es us ∧ us.length + i ≤ 4 ∧ DT K H' v (factsD n es us) ∧ Fr (S1 b) H H' ∧ Bag H' b) ?_ ?_ ?_⟩
    · exact ⟨us, v, none, rfl, FO, by omega, dv, f1, hb1⟩
    · rintro i σ H' hi ⟨us, v, v3, rfl, FO, hu, dv, f2, hb2⟩
      refine ⟨_, rfl, v, n, es, us, rfl, dv, FO, fun r H3 r1 r2 f3 => ⟨rfl, _, rfl, ?_⟩⟩
      have f23 : Fr (S1 b) H H3 := f2.trans (f3.mono fun a z => z.elim)
      have hb3 := hb2.fr f3 (fun z => z)
      refine ite2 (fun e => ?_) (fun e => ?_)
      · have er : r = .non := of_decide_eq_true e
        exact ⟨_, rfl, k es us v H3 FO (r1 er) (dv.fr f3) f23 hb3⟩
      · have er : r ≠ .non := fun q => e (decide_eq_true q)
        have un := r2 er
        obtain ⟨pf, pe, pu, xs, ys, rfl, tf, te, re, tu, ru⟩ := facts_inv (dv.fr f3)
        have ly : ys.length = us.length := by rw [ru.len, List.length_map]
        have lu : 0 < us.length := List.length_pos_iff.mpr un
        refine ⟨_, rfl, _, rfl, pf, _, 1, _, rfl, rfl, tf.sq, rfl, _, rfl, pf, _, 2, _, rfl, rfl, tf.sq, rfl, _, rfl, pu, ys, rfl, tu.sq, fun hw => ?_, fun _ p2 hp2 => ?_⟩
        · have h1 := hw.1
          rw [show (1 : Int) = ((1 : Nat) : Int) from rfl, HT.sIx_nat] at h1
          omega
        · have f4 : Fr S0 H3 (upd H3 p2 (.tup (cutV ys (some 1) none))) := (Fr.refl _ _).new hp2
          refine ⟨by show 3 ≤ sizeLine; decide, fun t ht => ?_⟩
          have f5 : Fr S0 H3 _ := f4.new (o := .tup [iv n, .ref pe, .ref p2]) ht
          have np : p2 ≠ t := ne_of_none (show upd H3 p2 (.tup (cutV ys (some 1) none)) p2 = _ from upd_same) ht
          refine ⟨us.drop 1, .ref t, _, rfl, ⟨FO.pos, FO.le, FO.R, fun p hp => FO.U p (List.mem_of_mem_drop hp), FO.len, by rw [List.length_drop]; have := FO.lenU; omega⟩, by rw [List.length_drop]; omega, .tup (.of upd_same) (.cons (.int _) (.cons (.tup (te.fr f5) (re.fr f5)) (.one (.tup (.of (xs := ys.drop 1) ?_) ?_)))), f23.trans (f5.mono fun a z => z.elim), hb3.fr f5 (fun z => z)⟩
          · rw [upd_ne np, upd_same, cut_drop1]
          · rw [List.map_drop]; exact (ru.fr f5).drop 1
    · rintro σ H' ⟨us, v, v3, rfl, FO, hu, dv, f2, hb2⟩
      omega
end
end K12
set_option linter.all false
set_option maxRecDepth 100000
set_option maxHeartbeats 1600000
/-! K12w15: the closing: root, join, told. -/
namespace K12
open PySem PySem.Spec PyProof.Rows L2
/-! ### a method without arguments -/
section
variable {X : Cx}
theorem pe_mt0 {C : Addr} {m : Str} {ps : List Str} {k : Nat} {sp : Sp} {o : Expr} {apos pos : Pos} {ta : TE} {pl : Sem Bool} (c : Mt X.prog X.w X.K X.mg X.base C m ps k sp) (T : Cls X.K C) (hr : Room k X.A) (he : PE X o ta)
    (ht : eval (.Call (.Attribute o m apos) [] [] pos) X.env = (do
      let ov ← eval o X.env
      standAt apos.atName
      let (f, first) ← holding [ov] (getMethod ov m pl)
      callWith pos f first (backTo pos (starEach [] X.env)) (backToKw pos (keywordEach [] X.env))) := by rfl) :
    PE X (.Call (.Attribute o m apos) [] [] pos) (tMeth C m sp [] E0 ta tNil) := by
  obtain ⟨f, fd, m, b, F⟩ := c
  exact pe_meth0 he T m F hr b .nil pass0 ht
end
theorem Mt.mono {P : Program} {w : World} {K : PySem.W.Frag} {mg : Str → Option Value} {base : Heap} {C : Addr} {x : Str} {ps : List Str} {j k : Nat} {sp : Sp} (c : Mt P w K mg base C x ps j sp) (h : j ≤ k) : Mt P w K mg base C x ps k sp := by
  obtain ⟨f, fd, m, b, F⟩ := c
  exact ⟨f, fd, m, b, F.mono h⟩
/-! ### the attributes -/
theorem ker : ¬ (("elder" : Str) = "rows") := by decide +kernel
def flds (e r : Addr) : List (Str × V) := putF "rows" (.ref r) (putF "elder" (.ref e) [])
theorem flds_eq (e r : Addr) : flds e r = ([("elder", V.ref e), ("rows", V.ref r)] : List (Str × V)) := by
  show (if ("elder" : Str) = "rows" then [(("elder" : Str), V.ref r)] else (("elder" : Str), V.ref e) :: putF "rows" (V.ref r) []) = ([("elder", V.ref e), ("rows", V.ref r)] : List (Str × V))
  rw [if_neg ker]
  all_goals rfl
theorem flds_elder (e r : Addr) : (flds e r).lookup ("elder" : Str) = some (.ref e) := by
  unfold flds
  rw [lookup_putF, if_neg ker, lookup_putF, if_pos rfl]
theorem flds_rows (e r : Addr) : (flds e r).lookup ("rows" : Str) = some (.ref r) := by
  unfold flds
  rw [lookup_putF, if_pos rfl]
theorem flds_no (e r : Addr) {m : Str} (h1 : ¬ m = "rows") (h2 : ¬ m = "elder") : (flds e r).lookup m = none := by
  unfold flds
  rw [lookup_putF, if_neg h1, lookup_putF, if_neg h2]
  all_goals rfl
theorem flds_put (e r r' : Addr) : putF "rows" (.ref r') (flds e r) = flds e r' := by
  rw [flds_eq, flds_eq]
  show (if ("elder" : Str) = "rows" then _ else (("elder" : Str), V.ref e) :: (if ("rows" : Str) = "rows" then [(("rows" : Str), V.ref r')] else _)) = ([("elder", V.ref e), ("rows", V.ref r')] : List (Str × V))
  rw [if_neg ker, if_pos rfl]
theorem flds_len (e r : Addr) : (flds e r).length < 1000 := by rw [flds_eq]; show 2 < 1000; decide
/-- a closing stands at c, its elders at e, its rows at r -/
structure CS (K : PySem.W.Frag) (C : Addr) (H : Hp) (c e r : Addr) (el : List Nat) (rows : List T3) : Prop where
  ob : ∃ dx, H c = some (.ins C dx (flds e r))
  he : H e = some (.lst (ivs el))
  hr : ∃ xs, H r = some (.lst xs) ∧ DTs K H xs (rows.map t3D)
  ne : e ≠ r
structure Clg (K : PySem.W.Frag) (C : Addr) : Prop where
  cl : Cls K C
  nE : NoAttr K C "elder"
  nR : NoAttr K C "rows"
/-- what a closing's methods may touch -/
abbrev SC (c e r : Addr) : Addr → Prop := fun a => a = c ∨ a = e ∨ a = r
section
variable {K : PySem.W.Frag} {C : Addr} {H H' : Hp} {c e r : Addr} {el : List Nat} {rows : List T3} {S : Addr → Prop}
theorem CS.fr (h : CS K C H c e r el rows) (f : Fr S H H') (n1 : ¬ S c) (n2 : ¬ S e) (n3 : ¬ S r) : CS K C H' c e r el rows := by
  obtain ⟨⟨dx, h1⟩, h2, ⟨xs, h3, h4⟩, h5⟩ := h
  exact ⟨⟨dx, f.keep _ _ h1 n1⟩, f.keep _ _ h2 n2, ⟨xs, f.keep _ _ h3 n3, h4.fr f⟩, h5⟩
theorem CS.fr0 (h : CS K C H c e r el rows) (f : Fr S0 H H') : CS K C H' c e r el rows := h.fr f (fun z => z) (fun z => z) (fun z => z)
theorem CS.ce (h : CS K C H c e r el rows) : c ≠ e := by
  obtain ⟨⟨dx, h1⟩, h2, _⟩ := h
  intro q; rw [q, h2] at h1; cases h1
theorem CS.cr (h : CS K C H c e r el rows) : c ≠ r := by
  obtain ⟨⟨dx, h1⟩, h2, ⟨xs, h3, _⟩, _⟩ := h
  intro q; rw [q, h3] at h1; cases h1
theorem CS.free (h : CS K C H' c e r el rows) (f : Fr (SC c e r) H H') {p : Addr} (hp : H' p = none) : H p = none := by
  obtain ⟨⟨dx, h1⟩, h2, ⟨xs, h3, _⟩, _⟩ := h
  refine f.freeT (fun a q => ?_) hp
  rcases q with rfl | rfl | rfl
  · exact ⟨_, h1⟩
  · exact ⟨_, h2⟩
  · exact ⟨_, h3⟩
/-- the elders change -/
theorem CS.setE (h : CS K C H c e r el rows) {el' : List Nat} : CS K C (upd H e (.lst (ivs el'))) c e r el' rows := by
  have hce := h.ce
  obtain ⟨⟨dx, h1⟩, h2, ⟨xs, h3, h4⟩, h5⟩ := h
  have g : Fr (S1 e) H (upd H e (.lst (ivs el'))) := (Fr.refl _ _).set rfl (lst_ne_tup h2)
  exact ⟨⟨dx, by rw [upd_ne hce]; exact h1⟩, upd_same, ⟨xs, by rw [upd_ne h5.symm]; exact h3, h4.fr g⟩, h5⟩
end
theorem up_getD {e : List Nat} {y : Nat} (h : y < e.length) : e.getD y 0 = up e y := by
  unfold up
  rw [List.getD_eq_getElem?_getD, List.getD_eq_getElem?_getD, List.getElem?_eq_getElem h]; rfl
def optV : Option Nat → V | none => .non | some t => iv t
section
variable {P : Program} {w : World} {K : PySem.W.Frag} {mg : Str → Option Value} {base : Heap}
abbrev clg : Stmt := top 23
/-! ### root -/
def spRoot (K : PySem.W.Frag) (C : Addr) : Sp := fun vs H Q _ => ∃ (c e r : Addr) (el : List Nat) (rows : List T3) (x : Nat), vs = [.ref c, iv x] ∧ CS K C H c e r el rows ∧ Forest el ∧ x < el.length ∧ Q (iv (root el x)) H
abbrev sRoot : Stmt := inClass clg 1
theorem scRoot : FnScope ["self", "thing"] ["self", "thing"] (defScope sRoot) := ⟨rfl, rfl, rfl, by decide +kernel, rfl, by decide +kernel, by decide +kernel⟩
theorem ok_root {C : Addr} (D : Dm K C "root" "Closing.root" sRoot ["self", "thing"]) (T : Bi mg) (L : Clg K C) : Mt P w K mg base C "root" ["self", "thing"] 1 (spRoot K C) := by
  refine D.ok scRoot (fun vs H Q E h => ?_) (fun f cdv A outer s H vs Q E hr h => ?_)
  · obtain ⟨c, e, r, el, rows, x, rfl, _⟩ := h
    rfl
  · obtain ⟨c, e, r, el, rows, x, rfl, hc, F, hx, k⟩ := h
    refine ⟨_, pss_cons (ps_while PassesOwn.never (pt_cmpR op_ne (pe_ix ix_list (pe_fld (pv 0) rfl) (pv 1) (fun _ _ => rfl)) (pv 1) (nomark _)) (pss_one (ps_set (i := 1) scRoot.nd rfl (Or.inl rfl) (pe_ix ix_list (pe_fld (pv 0) rfl) (pv 1) (fun _ _ => rfl))))) (pss_one (ps_ret (pv 1))), ?_⟩
    obtain ⟨⟨dx, h1⟩, h2, _⟩ := id hc
    refine ⟨fun m σ H' => ∃ y, y = m ∧ σ = [some (.ref c), some (iv y)] ∧ H' = H ∧ root el y = root el x ∧ y < el.length, ⟨x, x, rfl, rfl, rfl, rfl, hx⟩, ?_⟩
    rintro m σ H' ⟨y, rfl, rfl, rfl, hy, hyl⟩
    have gy := up_getD hyl
    refine ⟨_, rfl, c, C, dx, _, _, rfl, h1, L.cl, L.nE, flds_elder _ _, _, rfl, e, _, _, _, rfl, rfl, SqL.of h2, atI_nat (ivs_at hyl), _, rfl, rfl, _, rfl, ?_⟩
    by_cases hu : up el y < y
    · have ed : (!decide (iv (el.getD y 0) = iv y)) = true := by
        rw [ivF (by omega)]; rfl
      rw [ed]
      refine iteT ⟨fun σ' H'' => ∃ y', y' < y ∧ σ' = [some (.ref c), some (iv y')] ∧ H'' = H' ∧ root el y' = root el x ∧ y' < el.length, ?_, ?_⟩
      · rintro σ' H' ⟨y', e1, rfl, rfl, e4, e5⟩
        exact ⟨y', e1, y', rfl, rfl, rfl, e4, e5⟩
      · refine ⟨_, rfl, c, C, dx, _, _, rfl, h1, L.cl, L.nE, flds_elder _ _, _, rfl, e, _, _, _, rfl, rfl, SqL.of h2, atI_nat (ivs_at hyl), ?_⟩
        refine ⟨el.getD y 0, by omega, rfl, rfl, ?_, by omega⟩
        rw [gy, root_up F, hy]
    · have hup := up_le F y
      have ed : (!decide (iv (el.getD y 0) = iv y)) = false := by
        rw [ivT (by omega)]; rfl
      rw [ed]
      refine iteF ⟨_, rfl, ?_⟩
      have : root el x = y := by rw [← hy]; exact root_ge hu
      rw [← this]; exact k
/-! ### join -/
def spJoin (K : PySem.W.Frag) (C : Addr) : Sp := fun vs H Q _ => ∃ (c e r : Addr) (el : List Nat) (rows : List T3) (a b : Nat), vs = [.ref c, iv a, iv b] ∧ CS K C H c e r el rows ∧ Forest el ∧ a < el.length ∧ b < el.length ∧
  ∀ H', CS K C H' c e r (joinE el a b) rows → Fr (S1 e) H H' → Q (.bl (joinB el a b)) H'
abbrev sJoin : Stmt := inClass clg 2
abbrev nJoin : List Str := ["self", "one", "other", "low", "high"]
theorem scJoin : FnScope nJoin ["self", "one", "other"] (defScope sJoin) := ⟨rfl, rfl, rfl, by decide +kernel, rfl, by decide +kernel, by decide +kernel⟩
theorem perm2 {a b : Int} {l : List Int} (h : l.Perm [a, b]) (s : l.Pairwise (· ≤ ·)) : l = [min a b, max a b] := by
  have hl := h.length_eq
  match l, hl with
  | [x, y], _ =>
    have hs : x ≤ y := by
      have := (List.pairwise_cons.mp s).1 y (by simp)
      exact this
    have hx : x ∈ [a, b] := h.subset (by simp)
    have hy : y ∈ [a, b] := h.subset (by simp)
    have ha : a ∈ [x, y] := h.symm.subset (by simp)
    have hb : b ∈ [x, y] := h.symm.subset (by simp)
    simp only [List.mem_cons, List.not_mem_nil, or_false] at hx hy ha hb
    have e1 : x = min a b := by omega
    have e2 : y = max a b := by omega
    rw [e1, e2]
theorem ok_join {C : Addr} (D : Dm K C "join" "Closing.join" sJoin ["self", "one", "other"]) (T : Bi mg) (L : Clg K C) (mR : Mt P w K mg base C "root" ["self", "thing"] 1 (spRoot K C)) : Mt P w K mg base C "join" ["self", "one", "other"] 2 (spJoin K C) := by
  refine D.ok scJoin (fun vs H Q E h => ?_) (fun f cdv A outer s H vs Q E hr h => ?_)
  · obtain ⟨c, e, r, el, rows, a, b, rfl, _⟩ := h
    rfl
  · obtain ⟨c, e, r, el, rows, a, b, rfl, hc, F, ha, hb, k⟩ := h
    refine ⟨_, pss_cons (ps_asg (pe_callB cr_sorted (by rfl) T.sorted PyProof.Rows.boot_sorted (pa_cons (pe_lst (pa_cons (pe_mt mR L.cl hr (pv 0) (pa_cons (pv 1) pa_nil)) (pa_cons (pe_mt mR L.cl hr (pv 0) (pa_cons (pv 2) pa_nil)) pa_nil))) pa_nil)) (pg_lst (by rfl) (pgs_cons (pg_name (i := 3) scJoin.nd rfl (Or.inl rfl)) (pgs_cons (pg_name (i := 4) scJoin.nd rfl (Or.inl rfl)) pgs_nil)))) (pss_cons (ps_asg (pv 3) (pg_sub (pe_fld (pv 0) rfl) (pv 4) set_list)) (pss_one (ps_ret (pe_cmpR op_lt (pv 3) (pv 4) (nomark _))))), ?_⟩
    obtain ⟨⟨dx, h1⟩, h2, _⟩ := id hc
    have nor : (flds e r).lookup ("root" : Str) = none := flds_no _ _ (by decide +kernel) (by decide +kernel)
    refine ⟨_, rfl, c, dx, _, rfl, h1, nor, _, rfl, c, e, r, el, rows, a, rfl, hc, F, ha, ?_⟩
    refine ⟨_, rfl, c, dx, _, rfl, h1, nor, _, rfl, c, e, r, el, rows, b, rfl, hc, F, hb, ?_⟩
    refine ⟨by show 2 ≤ sizeLine; decide, fun l hl => ?_⟩
    have n1 : Fr S0 H (upd H l (.lst [iv (root el a), iv (root el b)])) := (Fr.refl _ _).new hl
    refine ⟨l, [((root el a : Nat) : Int), ((root el b : Nat) : Int)], rfl, SqL.of upd_same, by show 2 < 64; decide, fun ns p pm ps hp => ?_⟩
    have ens := perm2 pm ps
    have emin : min ((root el a : Nat) : Int) ((root el b : Nat) : Int) = ((min (root el a) (root el b) : Nat) : Int) := by omega
    have emax : max ((root el a : Nat) : Int) ((root el b : Nat) : Int) = ((max (root el a) (root el b) : Nat) : Int) := by omega
    rw [emin, emax] at ens
    subst ens
    have n2 := n1.new (o := .lst ([((min (root el a) (root el b) : Nat) : Int), ((max (root el a) (root el b) : Nat) : Int)].map V.int)) hp
    have hc2 := hc.fr0 n2
    refine ⟨p, _, rfl, SqL.of upd_same, rfl, _, _, rfl, _, _, rfl, rfl, ?_⟩
    generalize upd (upd H l _) p _ = H2 at n2 hc2
    obtain ⟨⟨dx2, g1⟩, g2, _⟩ := id hc2
    have la := root_lt_len ha
    have lb := root_lt_len hb
    refine ⟨_, rfl, _, rfl, c, C, dx2, _, _, rfl, g1, L.cl, L.nE, flds_elder _ _, _, rfl, e, _, _, _, rfl, rfl, g2, Evl.ixN_nat (j := max (root el a) (root el b)) (by rw [ivs_len]; omega), ?_⟩
    rw [ivs_set]
    refine ⟨_, rfl, _, rfl, _, _, rfl, rfl, ?_⟩
    have eb : decide (((min (root el a) (root el b) : Nat) : Int) < ((max (root el a) (root el b) : Nat) : Int)) = joinB el a b := by
      unfold joinB
      by_cases h : min (root el a) (root el b) < max (root el a) (root el b)
      · rw [decide_eq_true h, decide_eq_true (by omega)]
      · rw [decide_eq_false h, decide_eq_false (by omega)]
    show Q (.bl (decide (((min (root el a) (root el b) : Nat) : Int) < ((max (root el a) (root el b) : Nat) : Int)))) _
    rw [eb]
    exact k _ hc2.setE ((n2.mono fun a z => z.elim).set rfl (lst_ne_tup g2))
/-! ### told -/
def spTold (K : PySem.W.Frag) (C : Addr) : Sp := fun vs H Q _ => ∃ (c e r : Addr) (el : List Nat) (rows : List T3) (pl : V) (u : W) (a b : Nat), vs = [.ref c, pl, iv a, iv b] ∧ CS K C H c e r el rows ∧ DT K H pl (placeD u) ∧ Q (optV (told rows u a b)) H
abbrev sTold : Stmt := inClass clg 6
abbrev nTold : List Str := ["self", "places", "one", "other", "row"]
abbrev psTold : List Str := ["self", "places", "one", "other"]
theorem scTold : FnScope nTold psTold (defScope sTold) := ⟨rfl, rfl, rfl, by decide +kernel, rfl, by decide +kernel, by decide +kernel⟩
theorem told_take {rows : List T3} {u : W} {a b i : Nat} {r : T3} (h : rows[i]? = some r) (h0 : told (rows.take i) u a b = none) : told (rows.take (i + 1)) u a b = if pk u r = a ∧ qk u r = b then some (rk u r) else none := by
  unfold told at *
  rw [List.take_succ, h, List.find?_append]
  cases q : (rows.take i).find? fun r => decide (pk u r = a ∧ qk u r = b) with
  | some z => rw [q] at h0; cases h0
  | none =>
    by_cases c : pk u r = a ∧ qk u r = b
    · simp [c]
    · simp [c]
theorem told_pre {rows : List T3} {u : W} {a b i t : Nat} (h : told (rows.take i) u a b = some t) : told rows u a b = some t := by
  unfold told at *
  cases q : (rows.take i).find? fun r => decide (pk u r = a ∧ qk u r = b) with
  | none => rw [q] at h; cases h
  | some z =>
    rw [q] at h
    have : rows = rows.take i ++ rows.drop i := (List.take_append_drop i rows).symm
    rw [this, List.find?_append, q]
    exact h
theorem ok_told {C : Addr} (D : Dm K C "told" "Closing.told" sTold psTold) (T : Bi mg) (L : Clg K C) : Mt P w K mg base C "told" psTold 1 (spTold K C) := by
  refine D.ok scTold (fun vs H Q E h => ?_) (fun f cdv A outer s H vs Q E hr h => ?_)
  · obtain ⟨c, e, r, el, rows, pl, u, a, b, rfl, _⟩ := h
    rfl
  · obtain ⟨c, e, r, el, rows, pl, u, a, b, rfl, hc, hp, k⟩ := h
    refine ⟨_, pss_cons (ps_for PassesOwn.never rfl (pi_list (pe_fld (pv 0) rfl)) (pg_name (i := 4) scTold.nd rfl (Or.inl rfl)) (pss_one (ps_if (PW.pt (pw_and (pt_cmpR op_eq (pe_ix ix_tup (pv 4) (pe_ix ix_tup (pv 1) pe_int (fun _ _ => rfl)) (fun _ _ => rfl)) (pv 2) (nomark _)) (pw_and1 (pt_cmpR op_eq (pe_ix ix_tup (pv 4) (pe_ix ix_tup (pv 1) pe_int (fun _ _ => rfl)) (fun _ _ => rfl)) (pv 3) (nomark _))))) (pss_one (ps_ret (pe_ix ix_tup (pv 4) (pe_ix ix_tup (pv 1) pe_int (fun _ _ => rfl)) (fun _ _ => rfl)))) pss_nil))) (pss_one (ps_ret pe_non)), ?_⟩
    obtain ⟨⟨dx, h1⟩, h2, ⟨xs, h3, h4⟩, _⟩ := id hc
    obtain ⟨q, rfl, tq⟩ := row_inv hp
    have lx : xs.length = rows.length := by rw [h4.len, List.length_map]
    refine ⟨_, rfl, c, C, dx, _, _, rfl, h1, L.cl, L.nR, flds_rows _ _, r, rfl, ⟨_, SqL.of h3⟩, for_list (K := K) (a := r) (xs := xs) (fun i σ H' => H' = H ∧ (∃ v4, σ = [some (.ref c), some (.ref q), some (iv a), some (iv b), v4]) ∧ told (rows.take i) u a b = none) ?_ ?_ ?_ ?_⟩
    · exact ⟨rfl, ⟨none, rfl⟩, rfl⟩
    · rintro i σ H' _ ⟨rfl, _⟩
      exact SqL.of h3
    · rintro i x σ H' hx ⟨rfl, ⟨v4, rfl⟩, h0⟩
      obtain ⟨rr, q2, er, rfl, tr⟩ := t3_at h4 hx
      have tk := told_take er h0
      refine ⟨_, rfl, _, rfl, q, _, _, _, rfl, rfl, tq.sq, atI_nat (j := 0) rfl, q2, _, _, _, rfl, rfl, tr.sq, atI_nat (placeP u rr), _, rfl, rfl, _, rfl, ?_⟩
      by_cases ha : pk u rr = a
      · rw [ivT ha]
        refine iteT ?_
        refine ⟨_, rfl, _, rfl, q, _, _, _, rfl, rfl, tq.sq, atI_nat (j := 1) rfl, q2, _, _, _, rfl, rfl, tr.sq, atI_nat (placeQ u rr), _, rfl, rfl, _, rfl, ?_⟩
        by_cases hb : qk u rr = b
        · rw [ivT hb]
          refine iteT ?_
          refine ⟨_, rfl, _, rfl, q, _, _, _, rfl, rfl, tq.sq, atI_nat (j := 2) rfl, q2, _, _, _, rfl, rfl, tr.sq, atI_nat (placeR u rr), ?_⟩
          rw [if_pos ⟨ha, hb⟩] at tk
          rw [told_pre tk] at k
          exact k
        · rw [ivF hb]
          refine iteF ⟨rfl, ⟨_, rfl⟩, ?_⟩
          rw [tk, if_neg fun z => hb z.2]
      · rw [ivF ha]
        refine iteF (iteF ⟨rfl, ⟨_, rfl⟩, ?_⟩)
        rw [tk, if_neg fun z => ha z.1]
    · rintro σ H' ⟨rfl, _, h0⟩
      rw [lx, List.take_length] at h0
      rw [h0] at k
      exact k
end
end K12
set_option linter.all false
set_option maxRecDepth 100000
set_option maxHeartbeats 1600000
/-! K12w16: the closing: rooted, is_joined. -/
namespace K12
open PySem PySem.Spec PyProof.Rows L2
theorem code3 (a b c : Int) : TS.code 1000 [a, b, c] = a * 1000000 + (b * 1000 + c) := by
  show a * 1000 ^ 2 + (b * 1000 ^ 1 + (c * 1000 ^ 0 + 0)) = _
  omega
theorem code_lt3 {a b : T3} (ha : a.1 < 1000 ∧ a.2.1 < 1000 ∧ a.2.2 < 1000) (hb : b.1 < 1000 ∧ b.2.1 < 1000 ∧ b.2.2 < 1000) (h : TS.code 1000 (tI a) ≤ TS.code 1000 (tI b)) (ne : a ≠ b) : lt3 a b := by
  unfold tI at h
  rw [code3, code3] at h
  rcases lt3_tri a b with q | q | q
  · exact q
  · exact absurd q ne
  · unfold lt3 at q ⊢
    omega
theorem tI_inj {a b : T3} (h : tI a = tI b) : a = b := by
  unfold tI at h
  simp only [List.cons.injEq, and_true] at h
  obtain ⟨h1, h2, h3⟩ := h
  exact Prod.ext (by omega) (Prod.ext (by omega) (by omega))
/-- what is sorted by its codes and has nothing twice ascends -/
theorem asc_of : ∀ {L : List (Addr × List Int)} {es : List T3}, L.map (·.2) = es.map tI → (∀ r ∈ es, r.1 < 1000 ∧ r.2.1 < 1000 ∧ r.2.2 < 1000) → (L.map (·.2)).Nodup → L.Pairwise (fun q r => TS.code 1000 q.2 ≤ TS.code 1000 r.2) → Asc es := by
  intro L es e hb nd pw
  have pw2 : (L.map (·.2)).Pairwise (fun q r => TS.code 1000 q ≤ TS.code 1000 r) := List.pairwise_map.mpr pw
  rw [e] at nd pw2
  have nd2 := List.pairwise_map.mp nd
  have pw3 := List.pairwise_map.mp pw2
  have both := nd2.and pw3
  refine List.Pairwise.imp_of_mem (fun {a b} ha hb' h => ?_) both
  exact code_lt3 (hb a ha) (hb b hb') h.2 fun q => h.1 (by rw [q])
section
variable {P : Program} {w : World} {K : PySem.W.Frag} {mg : Str → Option Value} {base : Heap}
def spRooted (K : PySem.W.Frag) (C : Addr) : Sp := fun vs H Q _ => ∃ (c e r : Addr) (el : List Nat) (rows : List T3), vs = [.ref c] ∧ CS K C H c e r el rows ∧ Forest el ∧ Rows el.length rows ∧ el.length ≤ 1000 ∧ rows.length < 64 ∧
  ∀ p xs H', H p = none → H' p = some (.lst xs) → DTs K H' xs ((rooted el rows).map t3D) → Fr S0 H H' → Q (.ref p) H'
abbrev sRooted : Stmt := inClass clg 3
abbrev nRooted : List Str := ["self", "row", "thing"]
theorem scRooted : FnScope nRooted ["self"] (defScope sRooted) := ⟨rfl, rfl, rfl, by decide +kernel, rfl, by decide +kernel, by decide +kernel⟩
abbrev bRooted : Scope := { kind := .function, names := [(".0", .local), ("row", .local), ("tuple", .globalImplicit), ("self", .cell)], isGenerator := false, isCoroutine := false, more := [] }
theorem ok_rooted {C : Addr} (D : Dm K C "rooted" "Closing.rooted" sRooted ["self"]) (T : Bi mg) (L : Clg K C) (mR : Mt P w K mg base C "root" ["self", "thing"] 1 (spRoot K C)) : Mt P w K mg base C "rooted" ["self"] 2 (spRooted K C) := by
  refine D.ok scRooted (fun vs H Q E h => ?_) (fun f cdv A outer s H vs Q E hr h => ?_)
  · obtain ⟨c, e, r, el, rows, rfl, _⟩ := h
    rfl
  · obtain ⟨c, e, r, el, rows, rfl, hc, F, R, hel, hlen, k⟩ := h
    refine ⟨_, pss_one (ps_ret (pe_callB (cr_sortedT rfl) (by rfl) T.sorted PyProof.Rows.boot_sorted (pa_cons (pe_callTy (cr_setOfT rfl hr.units) (by rfl) T.set PyProof.Rows.boot_set (pa_cons (pe_lc (own := [("row", 1)]) (g := gName 1) (tt := tYes) rfl scRooted.nd (pi_list (pe_fld (pv 0) rfl)) (blkOk_by (N := nRooted) (sc := defScope sRooted) (by decide +kernel)) (fun _ _ _ _ _ => pg_name (i := 1) scRooted.nd rfl (Or.inl rfl)) (fun _ _ _ _ _ => pts_nil) (fun _ _ _ _ _ => pe_callTy (call_tuple_ofk K) (by rfl) T.tuple PyProof.Rows.boot_tuple (pa_cons (pe_lc (own := [("thing", 2)]) (g := gName 2) (tt := tYes) rfl scRooted.nd (pi_tupk K (pv 1)) (blkOk_by (N := nRooted) (sc := bRooted) (by decide +kernel)) (fun _ _ _ _ _ => pg_name (i := 2) scRooted.nd rfl (Or.inl rfl)) (fun _ _ _ _ _ => pts_nil) (fun _ _ _ _ _ => pe_mt mR L.cl hr (pv 0) (pa_cons (pv 2) pa_nil))) pa_nil))) pa_nil)) pa_nil))), ?_⟩
    obtain ⟨⟨dx, h1⟩, h2, ⟨xs, h3, h4⟩, _⟩ := id hc
    have nor : (flds e r).lookup ("root" : Str) = none := flds_no _ _ (by decide +kernel) (by decide +kernel)
    have lx : xs.length = rows.length := by rw [h4.len, List.length_map]
    refine ⟨_, rfl, c, C, dx, _, _, rfl, h1, L.cl, L.nR, flds_rows _ _, r, rfl, ⟨_, SqL.of h3⟩, fun d hd => lc_list (K := K) (a := r) (xs := xs) (fun i H' => Fr S0 H H' ∧ ∃ ks, TL K H' d ks ∧ ks.map (·.2) = ((rows.take i).map (r3 el)).map tI) ?_ ?_ ?_ ?_⟩
    · exact ⟨(Fr.refl _ _).new hd, [], ⟨upd_same, by simp⟩, rfl⟩
    · rintro i H' _ ⟨f1, _⟩
      exact SqL.of (f1.keep _ _ h3 (fun z => z))
    · rintro i x H' hx ⟨f1, ks, ⟨k1, k2⟩, k3⟩
      obtain ⟨rr, q2, er, rfl, tr⟩ := t3_at (h4.fr f1) hx
      have hrl := R rr (List.mem_of_getElem? er)
      have hi : i < rows.length := (List.getElem?_eq_some_iff.mp er).1
      have hc1 := hc.fr0 f1
      have lk : ks.length = i := by have := congrArg List.length k3; simp at this; omega
      refine ⟨rfl, ?_⟩
      dsimp only [tYes]
      refine iteT ?_
      refine ⟨_, rfl, q2, rfl, ⟨_, tr.sq⟩, fun d2 hd2 => lc_tup (K := K) (a := q2) (xs := [iv rr.1, iv rr.2.1, iv rr.2.2]) (fun j H2 => H2 = upd H' d2 (.lst (([iv (root el rr.1), iv (root el rr.2.1), iv (root el rr.2.2)] : List V).take j))) ?_ ?_ ?_ ?_⟩
      · rfl
      · rintro j H2 _ rfl
        exact (tr.fr ((Fr.refl S0 _).new hd2)).sq
      · rintro j x H2 hx2 rfl
        have f2 : Fr S0 H' (upd H' d2 (.lst (([iv (root el rr.1), iv (root el rr.2.1), iv (root el rr.2.2)] : List V).take j))) := (Fr.refl _ _).new hd2
        have hc2 := hc1.fr0 f2
        obtain ⟨⟨dx2, g1⟩, _⟩ := id hc2
        refine ⟨rfl, ?_⟩
        dsimp only [tYes]
        refine iteT ?_
        obtain ⟨t, rfl, ht, hj3, htk⟩ : ∃ t : Nat, x = iv t ∧ t < el.length ∧ j < 3 ∧ (([iv (root el rr.1), iv (root el rr.2.1), iv (root el rr.2.2)] : List V).take j) ++ [iv (root el t)] = ([iv (root el rr.1), iv (root el rr.2.1), iv (root el rr.2.2)] : List V).take (j + 1) := by
          match j, hx2 with
          | 0, hx2 => exact ⟨rr.1, (Option.some.inj hx2).symm, hrl.1, by decide, rfl⟩
          | 1, hx2 => exact ⟨rr.2.1, (Option.some.inj hx2).symm, hrl.2.1, by decide, rfl⟩
          | 2, hx2 => exact ⟨rr.2.2, (Option.some.inj hx2).symm, hrl.2.2, by decide, rfl⟩
          | j + 3, hx2 => simp at hx2
        refine ⟨_, rfl, c, dx2, _, rfl, g1, nor, _, rfl, c, e, r, el, rows, t, rfl, hc2, F, ht, _, upd_same, by rw [List.length_take]; exact sz (by omega), ?_⟩
        rw [upd_upd, htk]
      · rintro H2 rfl
        refine ⟨d2, _, rfl, .inl ⟨SqL.of upd_same, fun l hl => ?_⟩⟩
        have n2 : Fr S0 H' (upd (upd H' d2 (.lst [iv (root el rr.1), iv (root el rr.2.1), iv (root el rr.2.2)])) l (.tup [iv (root el rr.1), iv (root el rr.2.1), iv (root el rr.2.2)])) := ((Fr.refl _ _).new hd2).new hl
        have k1' := n2.keep _ _ k1 (fun z => z)
        refine ⟨_, k1', by rw [List.length_map, lk]; exact sz (by omega), (f1.trans n2).mut hd, ks ++ [(l, tI (r3 el rr))], ⟨by rw [upd_same]; simp, ?_⟩, ?_⟩
        · have g : Fr (S1 d) (upd (upd H' d2 (.lst [iv (root el rr.1), iv (root el rr.2.1), iv (root el rr.2.2)])) l (.tup [iv (root el rr.1), iv (root el rr.2.1), iv (root el rr.2.2)])) (upd (upd (upd H' d2 (.lst [iv (root el rr.1), iv (root el rr.2.1), iv (root el rr.2.2)])) l (.tup [iv (root el rr.1), iv (root el rr.2.1), iv (root el rr.2.2)])) d (.lst ((ks.map fun p => V.ref p.1) ++ [.ref l]))) := (Fr.refl _ _).set rfl (lst_ne_tup k1')
          intro q hq
          rcases List.mem_append.mp hq with h | h
          · exact ((k2 q h).fr n2).fr g
          · simp at h; subst h
            exact .of (g.tup _ _ upd_same)
        · rw [List.take_succ, er]; simp [k3]
    · rintro H' ⟨f1, ks, ⟨k1, k2⟩, k3⟩
      rw [lx, List.take_length] at k3
      have lk : ks.length = rows.length := by have := congrArg List.length k3; simpa using this
      have bnd : ∀ q ∈ ks, ∃ t : T3, q.2 = tI t ∧ ((t.1 < 1000 ∧ t.2.1 < 1000 ∧ t.2.2 < 1000) ∧ t ∈ rows.map (r3 el)) := by
        intro q hq
        have : q.2 ∈ ((rows.map (r3 el)).map tI) := by rw [← k3]; exact List.mem_map.mpr ⟨q, hq, rfl⟩
        obtain ⟨t, ht, e1⟩ := List.mem_map.mp this
        refine ⟨t, e1.symm, ?_, ht⟩
        obtain ⟨r0, hr0, rfl⟩ := List.mem_map.mp ht
        obtain ⟨a1, a2, a3⟩ := R r0 hr0
        have := root_le (e := el) r0.1
        have := root_le (e := el) r0.2.1
        have := root_le (e := el) r0.2.2
        exact ⟨by show root el r0.1 < 1000; omega, by show root el r0.2.1 < 1000; omega, by show root el r0.2.2 < 1000; omega⟩
      refine ⟨d, ks, rfl, SqL.of k1, fun q hq => (k2 q hq).sq, by omega, fun a1 L1 ha1 hL1 hL2 => ?_⟩
      have s1 : Fr S0 H' (upd H' a1 (SetTO P w a1 L1)) := (Fr.refl _ _).new ha1
      refine ⟨a1, L1, 3, 1000, rfl, upd_same, fun q hq => ((k2 q (hL1 q hq)).fr s1).sq, by decide, fun q hq => ?_, fun L2 p2 pm2 nd2 _ pw2 hp2 => ?_⟩
      · obtain ⟨t, e1, ⟨b1, b2, b3⟩, _⟩ := bnd q (hL1 q hq)
        rw [e1]
        refine ⟨rfl, fun m hm => ?_⟩
        simp only [tI, List.mem_cons, List.not_mem_nil, or_false] at hm
        rcases hm with rfl | rfl | rfl <;> omega
      have s2 := s1.new (o := .lst (L2.map fun q => V.ref q.1)) hp2
      have mem2 : ∀ q ∈ L2, q ∈ ks := fun q hq => hL1 q (pm2.subset hq)
      obtain ⟨es, ees, hes⟩ := back_tI (L := L2) (G := fun t => (t.1 < 1000 ∧ t.2.1 < 1000 ∧ t.2.2 < 1000) ∧ t ∈ rows.map (r3 el)) fun q hq => bnd q (mem2 q hq)
      have asc := asc_of ees (fun r hr => (hes r hr).1) nd2 pw2
      have e9 : es = rooted el rows := by
        refine asc_one asc (asc_srt3 _) fun x => ?_
        show x ∈ es ↔ x ∈ srt3 (rows.map (r3 el))
        rw [mem_srt3]
        refine ⟨fun hx => (hes x hx).2, fun hx => ?_⟩
        have h1 : tI x ∈ ks.map (·.2) := by rw [k3]; exact List.mem_map.mpr ⟨x, hx, rfl⟩
        obtain ⟨q, hq, e1⟩ := List.mem_map.mp h1
        have h2 := hL2 q hq
        have h3 : q.2 ∈ L2.map (·.2) := (pm2.symm.map (·.2)).subset h2
        rw [ees, e1] at h3
        obtain ⟨y, hy, e2⟩ := List.mem_map.mp h3
        rw [tI_inj e2] at hy
        exact hy
      subst e9
      refine k p2 _ _ ((f1.trans s1).free hp2) upd_same (dts_tI (fun q hq => (k2 q (mem2 q hq)).fr s2) ees) (f1.trans s2)
end
end K12
set_option linter.all false
set_option maxRecDepth 100000
set_option maxHeartbeats 1600000
/-! K12w17: the closing: is_joined. -/
namespace K12
open PySem PySem.Spec PyProof.Rows L2
abbrev kk2 (p : Nat × Nat) : List L2.Key := [Sum.inl ((p.1 : Nat) : Int), Sum.inl ((p.2 : Nat) : Int)]
def fdV (fd : List ((Nat × Nat) × Nat)) : List (List L2.Key × V) := fd.map fun p => (kk2 p.1, iv p.2)
theorem kk2_inj {p q : Nat × Nat} (h : kk2 p = kk2 q) : p = q := by
  simp only [kk2, List.cons.injEq, Sum.inl.injEq, and_true] at h
  exact Prod.ext (by omega) (by omega)
theorem fd_val : ∀ (fd : List ((Nat × Nat) × Nat)) (p : Nat × Nat), valV (fdV fd) (kk2 p) = (fd.lookup p).map iv
  | [], p => rfl
  | (q, v) :: fd, p => by
    by_cases h : q = p
    · subst h
      rw [show fdV ((q, v) :: fd) = (kk2 q, iv v) :: fdV fd from rfl, valV_pos rfl]
      simp
    · rw [show fdV ((q, v) :: fd) = (kk2 q, iv v) :: fdV fd from rfl, valV_neg (fun z => h (kk2_inj z)), fd_val fd p, List.lookup_cons]
      have : (p == q) = false := by rw [beq_eq_false_iff_ne]; exact fun z => h z.symm
      rw [this]
theorem jfold_len {u : W} : ∀ (l : List T3) (s : J), (l.foldl (jStep u) s).fd.length ≤ s.fd.length + l.length
  | [], s => Nat.le_refl _
  | r :: l, s => by
    have h := jfold_len (u := u) l (jStep u s r)
    have h2 : (jStep u s r).fd.length ≤ s.fd.length + 1 := by
      unfold jStep
      split <;> simp
    simp only [List.foldl_cons, List.length_cons]
    omega
section
variable {P : Program} {w : World} {K : PySem.W.Frag} {mg : Str → Option Value} {base : Heap}
def spIsJ (K : PySem.W.Frag) (C : Addr) : Sp := fun vs H Q _ => ∃ (c e r : Addr) (el : List Nat) (rows : List T3) (pl : V) (u : W), vs = [.ref c, pl] ∧ CS K C H c e r el rows ∧ DT K H pl (placeD u) ∧ Forest el ∧ Rows el.length rows ∧ el.length ≤ 1000 ∧ rows.length < 64 ∧
  ∀ H', CS K C H' c e r (pass u rows el).e rows → Fr (S1 e) H H' → Q (.bl (pass u rows el).nw) H'
abbrev sIsJ : Stmt := inClass clg 4
abbrev nIsJ : List Str := ["self", "places", "found", "is_new", "row", "key"]
theorem scIsJ : FnScope nIsJ ["self", "places"] (defScope sIsJ) := ⟨rfl, rfl, rfl, by decide +kernel, rfl, by decide +kernel, by decide +kernel⟩
theorem ok_isJ {C : Addr} (D : Dm K C "is_joined" "Closing.is_joined" sIsJ ["self", "places"]) (T : Bi mg) (L : Clg K C) (mR : Mt P w K mg base C "root" ["self", "thing"] 2 (spRoot K C)) (mJ : Mt P w K mg base C "join" ["self", "one", "other"] 2 (spJoin K C)) :
    Mt P w K mg base C "is_joined" ["self", "places"] 3 (spIsJ K C) := by
  refine D.ok scIsJ (fun vs H Q E h => ?_) (fun f cdv A outer s H vs Q E hr h => ?_)
  · obtain ⟨c, e, r, el, rows, pl, u, rfl, _⟩ := h
    rfl
  · obtain ⟨c, e, r, el, rows, pl, u, rfl, hc, hp, F, R, hel, hlen, k⟩ := h
    have hu := hu_of hr
    refine ⟨_, pss_cons (ps_par (by rfl) scIsJ.nd (i := 2) (j := 3) rfl rfl (by decide) rfl rfl (pa_cons pe_dnewT (pa_cons pe_bl pa_nil)) (by rfl)) (pss_cons (ps_for PassesOwn.never rfl (pi_list (pe_fld (pv 0) rfl)) (pg_name (i := 4) scIsJ.nd rfl (Or.inl rfl)) (pss_cons (ps_set (i := 5) scIsJ.nd rfl (Or.inl rfl) (pe_tup (pa_cons (pe_mt mR L.cl hr (pv 0) (pa_cons (pe_ix ix_tup (pv 4) (pe_ix ix_tup (pv 1) pe_int (fun _ _ => rfl)) (fun _ _ => rfl)) pa_nil)) (pa_cons (pe_mt mR L.cl hr (pv 0) (pa_cons (pe_ix ix_tup (pv 4) (pe_ix ix_tup (pv 1) pe_int (fun _ _ => rfl)) (fun _ _ => rfl)) pa_nil)) pa_nil)))) (pss_one (ps_if (pt_cmp (pc_dnotin hu (pv 5) (pv 2))) (pss_one (ps_dput hu (pv 2) (pv 5) (pe_ix ix_tup (pv 4) (pe_ix ix_tup (pv 1) pe_int (fun _ _ => rfl)) (fun _ _ => rfl)) rfl)) (pss_one (ps_if (pt_val (pe_mt mJ L.cl hr (pv 0) (pa_cons (pe_dget hu (pv 2) (pv 5) (fun _ _ => rfl)) (pa_cons (pe_ix ix_tup (pv 4) (pe_ix ix_tup (pv 1) pe_int (fun _ _ => rfl)) (fun _ _ => rfl)) pa_nil)))) (pss_one (ps_set (i := 3) scIsJ.nd rfl (Or.inl rfl) pe_bl)) pss_nil)))))) (pss_one (ps_ret (pv 3)))), ?_⟩
    obtain ⟨⟨dx, h1⟩, h2, ⟨xs, h3, h4⟩, hne⟩ := id hc
    obtain ⟨q, rfl, tq⟩ := row_inv hp
    have nor : (flds e r).lookup ("root" : Str) = none := flds_no _ _ (by decide +kernel) (by decide +kernel)
    have noj : (flds e r).lookup ("join" : Str) = none := flds_no _ _ (by decide +kernel) (by decide +kernel)
    have lx : xs.length = rows.length := by rw [h4.len, List.length_map]
    intro fd hfd
    have n1 : Fr S0 H (upd H fd (.dT [])) := (Fr.refl _ _).new hfd
    refine ⟨_, _, rfl, _, rfl, c, C, dx, _, _, rfl, n1.keep _ _ h1 (fun z => z), L.cl, L.nR, flds_rows _ _, r, rfl, ⟨_, SqL.of (n1.keep _ _ h3 (fun z => z))⟩, for_list (K := K) (a := r) (xs := xs) (fun i σ H' => ∃ (s : J) (v4 v5 : Option V), s = (rows.take i).foldl (jStep u) ⟨el, [], false⟩ ∧ σ = [some (.ref c), some (.ref q), some (.ref fd), some (.bl s.nw), v4, v5] ∧
      H' fd = some (.dT (fdV s.fd)) ∧ CS K C H' c e r s.e rows ∧ H' r = some (.lst xs) ∧ Fr (S1 e) H H') ?_ ?_ ?_ ?_⟩
    · exact ⟨⟨el, [], false⟩, none, none, rfl, rfl, upd_same, hc.fr0 n1, n1.keep _ _ h3 (fun z => z), n1.mono fun a z => z.elim⟩
    · rintro i σ H' _ ⟨s, v4, v5, _, _, _, _, h, _⟩
      exact SqL.of h
    · rintro i x σ H' hx ⟨s, v4, v5, es, rfl, efd, hc', er', f1⟩
      obtain ⟨rr, q2, er, rfl, tr⟩ := t3_at (h4.fr f1) hx
      have hm := List.mem_of_getElem? er
      obtain ⟨b1, b2, b3⟩ := R.lt hm u
      have hi : i < rows.length := (List.getElem?_eq_some_iff.mp er).1
      have JI : JInv u el s := by
        have := pass_inv (w := u) (rows := rows.take i) F fun z hz => R z (List.mem_of_mem_take hz)
        rw [es]; exact this
      have lfd : s.fd.length ≤ i := by
        have := jfold_len (u := u) (rows.take i) ⟨el, [], false⟩
        rw [← es, List.length_take] at this
        simp at this; omega
      have nxt : (rows.take (i + 1)).foldl (jStep u) ⟨el, [], false⟩ = jStep u s rr := by
        rw [List.take_succ, er, List.foldl_append, es]; rfl
      rw [nxt]
      have lel : s.e.length = el.length := JI.len
      have tq' := tq.fr f1
      obtain ⟨⟨dx', g1⟩, _⟩ := id hc'
      refine ⟨_, rfl, c, dx', _, rfl, g1, nor, _, rfl, _, rfl, q, _, _, _, rfl, rfl, tq'.sq, atI_nat (j := 0) rfl, q2, _, _, _, rfl, rfl, tr.sq, atI_nat (placeP u rr), c, e, r, s.e, rows, pk u rr, rfl, hc', JI.F, by omega, ?_⟩
      refine ⟨_, rfl, c, dx', _, rfl, g1, nor, _, rfl, _, rfl, q, _, _, _, rfl, rfl, tq'.sq, atI_nat (j := 1) rfl, q2, _, _, _, rfl, rfl, tr.sq, atI_nat (placeQ u rr), c, e, r, s.e, rows, qk u rr, rfl, hc', JI.F, by omega, ?_⟩
      refine ⟨by show 2 ≤ sizeLine; decide, fun t ht => ?_⟩
      have n2 : Fr S0 H' (upd H' t (.tup [iv (root s.e (pk u rr)), iv (root s.e (qk u rr))])) := (Fr.refl _ _).new ht
      have et : upd H' t (.tup [iv (root s.e (pk u rr)), iv (root s.e (qk u rr))]) t = some (.tup ((kk2 (root s.e (pk u rr), root s.e (qk u rr))).map kV)) := upd_same
      have efd2 := n2.keep _ _ efd (fun z => z)
      have hc2 := hc'.fr0 n2
      have er2 := n2.keep _ _ er' (fun z => z)
      have tr2 := tr.fr n2
      have tq2 := tq'.fr n2
      have f2 : Fr (S1 e) H (upd H' t (.tup [iv (root s.e (pk u rr)), iv (root s.e (qk u rr))])) := f1.trans (n2.mono fun a z => z.elim)
      generalize upd H' t (.tup [iv (root s.e (pk u rr)), iv (root s.e (qk u rr))]) = H2 at n2 et efd2 hc2 er2 tr2 tq2 f2
      have dg := DGet.t efd2 et
      rw [fd_val] at dg
      refine ⟨_, rfl, _, rfl, fd, _, rfl, dg, _, rfl, ?_⟩
      cases hlk : s.fd.lookup (root s.e (pk u rr), root s.e (qk u rr)) with
      | none =>
        have js : jStep u s rr = { s with fd := s.fd ++ [((root s.e (pk u rr), root s.e (qk u rr)), rk u rr)] } := by unfold jStep; rw [hlk]
        refine iteT ?_
        refine ⟨_, rfl, _, rfl, q, _, _, _, rfl, rfl, tq2.sq, atI_nat (j := 2) rfl, q2, _, _, _, rfl, rfl, tr2.sq, atI_nat (placeR u rr), _, rfl, _, rfl, fd, _, rfl, DPut.t efd2 et (by unfold fdV; rw [List.length_map]; exact sz (by omega)), ?_⟩
        have g : Fr (S1 fd) H2 (upd H2 fd (.dT (putK (fdV s.fd) (kk2 (root s.e (pk u rr), root s.e (qk u rr))) (iv (rk u rr))))) := (Fr.refl _ _).set rfl (by rw [efd2]; intro ys z; cases z)
        have nfc : ¬ S1 fd c := fun z => by rw [show c = fd from z] at h1; rw [h1] at hfd; cases hfd
        have nfe : ¬ S1 fd e := fun z => by rw [show e = fd from z] at h2; rw [h2] at hfd; cases hfd
        have nfr : ¬ S1 fd r := fun z => by rw [show r = fd from z] at h3; rw [h3] at hfd; cases hfd
        refine ⟨_, some (.ref q2), some (.ref t), rfl, ?_, ?_, ?_, g.keep _ _ er2 nfr, f2.mut hfd⟩
        · rw [js]; rfl
        · rw [js, upd_same, putK_new _ (by rw [fd_val, hlk]; rfl)]
          unfold fdV; rw [List.map_append]; rfl
        · rw [js]; exact hc2.fr g nfc nfe nfr
      | some v =>
        have js : jStep u s rr = { s with e := joinE s.e v (rk u rr), nw := s.nw || joinB s.e v (rk u rr) } := by unfold jStep; rw [hlk]
        have vl : v < el.length := JI.fd _ _ (lookup_mem hlk)
        rw [hlk] at dg
        refine iteF ?_
        obtain ⟨⟨dx2, g2⟩, _⟩ := id hc2
        refine ⟨_, rfl, c, dx2, _, rfl, g2, noj, _, rfl, _, rfl, fd, _, rfl, dg, _, rfl, _, rfl, q, _, _, _, rfl, rfl, tq2.sq, atI_nat (j := 2) rfl, q2, _, _, _, rfl, rfl, tr2.sq, atI_nat (placeR u rr), c, e, r, s.e, rows, v, rk u rr, rfl, hc2, JI.F, by omega, by omega, fun H5 hc5 f5 => ⟨_, rfl, ?_⟩⟩
        have nfe : ¬ S1 e fd := fun z => by rw [show fd = e from z, h2] at hfd; cases hfd
        have nre : ¬ S1 e r := fun z => hne z.symm
        have efd5 := f5.keep _ _ efd2 nfe
        have er5 := f5.keep _ _ er2 nre
        have st : joinB s.e v (rk u rr) = true → (jStep u s rr).nw = true := fun h => by rw [js, h]; simp
        have sf : joinB s.e v (rk u rr) = false → (jStep u s rr).nw = s.nw := fun h => by rw [js, h]; simp
        refine ite2 (fun hb => ?_) (fun hb => ?_)
        · refine ⟨_, some (.ref q2), some (.ref t), rfl, ?_, ?_, ?_, er5, f2.trans f5⟩
          · rw [st hb]; rfl
          · rw [js]; exact efd5
          · rw [js]; exact hc5
        · refine ⟨_, some (.ref q2), some (.ref t), rfl, ?_, ?_, ?_, er5, f2.trans f5⟩
          · rw [sf (by simpa using hb)]; rfl
          · rw [js]; exact efd5
          · rw [js]; exact hc5
    · rintro σ H' ⟨s, v4, v5, es, rfl, efd, hc', er', f1⟩
      rw [lx, List.take_length] at es
      have ep : s = pass u rows el := es
      subst ep
      exact ⟨_, rfl, k H' hc' f1⟩
end
end K12
set_option linter.all false
set_option maxRecDepth 100000
set_option maxHeartbeats 1600000
/-! K12w18: for x in a dict of the module. -/
namespace K12
open PySem PySem.Spec PyProof.Rows L2
/-- a dict of the module, its keys in their order -/
def KKeys (K : PySem.W.Frag) (d : Addr) (ks : List Str) : Prop := (d == sysModules) = false ∧ ∃ es n, K.lookup d = some ⟨.type "dict", none, .dict es n, #[]⟩ ∧ es.size = ks.length ∧ ∀ (i : Nat) (x : Str), ks[i]? = some x → ∃ (en : DictEntry) (t : Tok), es[i]? = some en ∧ en.key = .str x t
def ItkK (ks : List Str) : It := ⟨fun i H => i < ks.length, fun i H v H' => H' = H ∧ ∃ x, ks[i]? = some x ∧ v = .str x, fun i H => ks.length ≤ i⟩
theorem turn_kk {P : Program} {w : World} {K : PySem.W.Frag} {tg : Expr} {ks : List Str} {d it : Addr} {es : Array DictEntry} {n : Nat} (hs : (d == sysModules) = false) (hl : K.lookup d = some ⟨.type "dict", none, .dict es n, #[]⟩) (hsz : es.size = ks.length)
    (hk : ∀ (i : Nat) (x : Str), ks[i]? = some x → ∃ (en : DictEntry) (t : Tok), es[i]? = some en ∧ en.key = .str x t) : Turn P w K tg (ItkK ks) [it] it (fun i h => h.IsKeyIter it d i ks.length n) where
  mem := by simp
  obj := fun i h st b hb => by
    have e : b = it := by simpa using hb
    subst e
    obtain ⟨oi, e, c, dd⟩ := st
    exact ⟨oi, e, fun v z => by rw [dd] at z; cases z⟩
  keep := fun i h h' st k => st.at fun oi e => k it (by simp) oi e
  item := by
    intro X hP hw hK hc i pins s σ H E I hf st hg
    subst hP hw hK
    obtain ⟨f0, f1, f2, f3, f4, f5⟩ := hf it (by simp)
    obtain ⟨en, t, hen, hkey⟩ := hk i ks[i] (List.getElem?_eq_getElem hg)
    refine next_key_item st (I.kIn _ _ hl) rfl hsz hen fun h' st' sb => ?_
    have I1 : Inv X pins σ H { s with heap := h' } := I.turned (t' := s.toks) (fun b ob hb e => (sb.2 b hb).trans e) f0 f1 f3 f4 f5
    obtain ⟨oi, e, c, dd⟩ := id st'
    exact ⟨en.key, rfl, go_of (s := { s with heap := h' }) e c dd (by decide) ⟨.str ks[i], H, I1, by rw [hkey]; exact ⟨t, rfl⟩, ⟨rfl, ks[i], List.getElem?_eq_getElem hg, rfl⟩, st', fun b hb => (hf b hb).1⟩⟩
  done := by
    intro X hP hw hK hc i pins s σ H E I hf st hg
    subst hP hw hK
    obtain ⟨f0, f1, f2, f3, f4, f5⟩ := hf it (by simp)
    exact next_key_end (I.ok.hd hc) st (I.kIn _ _ hl) rfl hsz hg fun h' eb => ⟨rfl, I.turned (t' := s.toks) (fun b ob hb e => eb b ob hb e) f0 f1 f3 f4 f5⟩
  self := fun A i s Q E st h => wpAny_pyIter_keyiter st h
def iKK (K : PySem.W.Frag) (td : TE) : TI := fun σ H R => td σ H fun x H1 => ∃ d ks, x = .ref d ∧ KKeys K d ks ∧ R (ItkK ks) H1
theorem pi_kk {X : Cx} {tg e : Expr} {td : TE} (he : PE X e td) : PI X tg e (iKK X.K td) := by
  refine ⟨fun pins s σ H R I h => ?_⟩
  refine thn (he.run pins s σ H _ I h) fun u s1 ⟨x, H1, I1, rx, d, ks, ex, ⟨hs, es, n, hl, hsz, hk⟩, q⟩ => ?_
  subst ex
  obtain rfl : u = Value.ref d := rx
  refine iter_keys hs (I1.kIn _ _ hl) ⟨rfl, rfl, rfl⟩ rfl (pi_one (tk := s1.toks) I1 _ (turn_kk hs hl hsz hk) ⟨_, Heap.get?_push_size _ rfl, rfl, by rw [hsz]; rfl⟩ q)
theorem walk_kk {ks : List Str} : Walk (ItkK ks) ks.length (fun _ => True) (fun i H v H' => H' = H ∧ ∃ x, ks[i]? = some x ∧ v = .str x) :=
  ⟨fun i H hi _ => hi, fun H _ => Nat.le_refl _, fun i H x H' hi _ y => y⟩
end K12
set_option linter.all false
set_option maxRecDepth 100000
set_option maxHeartbeats 1600000
/-! K12w19: the closing: settle. -/
namespace K12
open PySem PySem.Spec PyProof.Rows L2
section
variable {X : Cx} (K : PySem.W.Frag) (w : World)
theorem ix_kdictk (h : X.K = K := by rfl) (h2 : X.w = w := by rfl) : IxR X (rIxD K w) := h ▸ h2 ▸ ix_kdict
end
/-- the module's PLACES -/
structure Plc (K : PySem.W.Frag) (w : World) (mg : Str → Option Value) : Prop where
  ex : ∃ d, mg "PLACES" = some (.ref d) ∧ KKeys K d [wS .wi, wS .be, wS .ah] ∧ ∀ u : W, ∃ v, KDct K w d (wS u) v ∧ ∀ H, DT K H v (placeD u)
theorem ins3_len (a : T3) : ∀ l : List T3, (ins3 a l).length ≤ l.length + 1
  | [] => Nat.le_refl _
  | b :: l => by
    have := ins3_len a l
    unfold ins3
    split
    · simp
    · split
      · simp
      · simp; exact this
theorem srt3_len : ∀ l : List T3, (srt3 l).length ≤ l.length
  | [] => Nat.le_refl _
  | a :: l => by
    have h1 := ins3_len a (srt3 l)
    have h2 := srt3_len l
    show (ins3 a (srt3 l)).length ≤ l.length + 1
    omega
theorem rooted_len (e : List Nat) (rows : List T3) : (rooted e rows).length ≤ rows.length := by
  have := srt3_len (rows.map (r3 e))
  rwa [List.length_map] at this
def elN (rows : List T3) (el : List Nat) : Nat → List Nat
  | 0 => el
  | i + 1 => (pass (ws3.getD i .wi) rows (elN rows el i)).e
def nwN (rows : List T3) (el : List Nat) (i : Nat) : Bool := (pass (ws3.getD i .wi) rows (elN rows el i)).nw
theorem elN_ok {rows : List T3} {el : List Nat} (F : Forest el) (R : Rows el.length rows) : ∀ i, Forest (elN rows el i) ∧ (elN rows el i).length = el.length
  | 0 => ⟨F, rfl⟩
  | i + 1 => by
    obtain ⟨h1, h2⟩ := elN_ok F R i
    have := pass_inv (w := ws3.getD i .wi) (rows := rows) h1 (by rw [h2]; exact R)
    exact ⟨this.F, this.len.trans h2⟩
theorem elN3 (rows : List T3) (el : List Nat) : elN rows el 3 = (pass3 rows el).1 := rfl
theorem nwN3 (rows : List T3) (el : List Nat) : (([nwN rows el 0, nwN rows el 1, nwN rows el 2] : List Bool).any id) = (pass3 rows el).2 := by
  simp only [List.any_cons, List.any_nil, Bool.or_false, id]
  rfl
section
variable {K : PySem.W.Frag} {C : Addr} {H H' : Hp} {c e r : Addr} {el : List Nat} {rows : List T3} {S : Addr → Prop}
/-- the rows are another list -/
theorem CS.setR (h : CS K C H c e r el rows) {dx p : Addr} {xs : List V} {rows' : List T3} (hp : H p = some (.lst xs)) (hx : DTs K H xs (rows'.map t3D)) (ne : e ≠ p) : CS K C (upd H c (.ins C dx (flds e p))) c e p el rows' := by
  have hce := h.ce
  obtain ⟨⟨dx0, h1⟩, h2, _⟩ := h
  have ncp : p ≠ c := fun q => by rw [q, h1] at hp; cases hp
  have g : Fr (S1 c) H (upd H c (.ins C dx (flds e p))) := (Fr.refl _ _).set rfl (by rw [h1]; intro ys q; cases q)
  exact ⟨⟨dx, upd_same⟩, by rw [upd_ne hce.symm]; exact h2, ⟨xs, by rw [upd_ne ncp]; exact hp, hx.fr g⟩, ne⟩
end
section
variable {P : Program} {w : World} {K : PySem.W.Frag} {mg : Str → Option Value} {base : Heap}
/-- what settling may touch -/
abbrev SE (c e : Addr) : Addr → Prop := fun a => a = c ∨ a = e
def spSettle (K : PySem.W.Frag) (C : Addr) : Sp := fun vs H Q _ => ∃ (c e r : Addr) (el : List Nat) (rows : List T3) (k : Nat), vs = [.ref c] ∧ CS K C H c e r el rows ∧ Forest el ∧ Rows el.length rows ∧ el.length ≤ 1000 ∧ rows.length < 64 ∧ nRoots el < k ∧
  ∀ r' H', H r' = none → CS K C H' c e r' (settle k el rows).1 (settle k el rows).2 → Fr (SE c e) H H' → Q .non H'
abbrev sSettle : Stmt := inClass clg 5
abbrev nSettle : List Str := ["self", "word"]
theorem scSettle : FnScope nSettle ["self"] (defScope sSettle) := ⟨rfl, rfl, rfl, by decide +kernel, rfl, by decide +kernel, by decide +kernel⟩
theorem ok_settle {C : Addr} (D : Dm K C "settle" "Closing.settle" sSettle ["self"]) (T : Bi mg) (L : Clg K C) (PL : Plc K w mg) (mO : Mt P w K mg base C "rooted" ["self"] 3 (spRooted K C)) (mI : Mt P w K mg base C "is_joined" ["self", "places"] 3 (spIsJ K C)) :
    Mt P w K mg base C "settle" ["self"] 4 (spSettle K C) := by
  refine D.ok scSettle (fun vs H Q E h => ?_) (fun f cdv A outer s H vs Q E hr h => ?_)
  · obtain ⟨c, e, r, el, rows, k, rfl, _⟩ := h
    rfl
  · obtain ⟨c, e, r, el, rows, kf, rfl, hc, F, R, hel, hlen, hk, k⟩ := h
    obtain ⟨pd, mgd, pk1, pk2⟩ := PL.ex
    refine ⟨_, pss_cons (ps_while PassesOwn.never (pt_val (pe_callB (cr_any rfl) (by rfl) T.any (by decide +kernel) (pa_cons (pe_lc (own := [("word", 1)]) (g := gName 1) (tt := tYes) rfl scSettle.nd (pi_kk (pe_glob (v := .ref pd) rfl mgd rfl)) (blkOk_by (N := nSettle) (sc := defScope sSettle) (by decide +kernel)) (fun _ _ _ _ _ => pg_name (i := 1) scSettle.nd rfl (Or.inl rfl)) (fun _ _ _ _ _ => pts_nil) (fun _ _ _ _ _ => pe_mt mI L.cl hr (pv 0) (pa_cons (pe_ix (ix_kdictk K w) (pe_glob (v := .ref pd) rfl mgd rfl) (pv 1) (fun _ _ => rfl)) pa_nil))) pa_nil))) (pss_one (ps_fld (pv 0) (pe_mt0 mO L.cl hr (pv 0)) rfl))) (pss_one (ps_fld (pv 0) (pe_mt0 mO L.cl hr (pv 0)) rfl)), ?_⟩
    have noi : ∀ e r, (flds e r).lookup ("is_joined" : Str) = none := fun e r => flds_no _ _ (by decide +kernel) (by decide +kernel)
    have noo : ∀ e r, (flds e r).lookup ("rooted" : Str) = none := fun e r => flds_no _ _ (by decide +kernel) (by decide +kernel)
    refine ⟨fun m σ H' => ∃ el1 rows1 r1 v1, σ = [some (.ref c), v1] ∧ nRoots el1 < m ∧ settle m el1 rows1 = settle kf el rows ∧ CS K C H' c e r1 el1 rows1 ∧ Forest el1 ∧ Rows el1.length rows1 ∧ el1.length ≤ 1000 ∧ rows1.length < 64 ∧ Fr (SE c e) H H' ∧ (r1 = r ∨ H r1 = none), ⟨kf, el, rows, r, none, rfl, hk, rfl, hc, F, R, hel, hlen, Fr.refl _ _, .inl rfl⟩, ?_⟩
    rintro m σ H1 ⟨el1, rows1, r1, v1, rfl, hm, hset, hc1, F1, R1, hel1, hlen1, f1, hr1⟩
    refine ⟨pd, _, rfl, pk1, fun dl hdl => lc_it walk_kk (fun i H2 => Fr (S1 e) H1 H2 ∧ H2 dl = some (.lst ((List.range i).map fun j => V.bl (nwN rows1 el1 j))) ∧ CS K C H2 c e r1 (elN rows1 el1 i) rows1) ?_ ?_ ?_ ?_⟩
    · exact ⟨(Fr.refl _ _).new hdl, upd_same, hc1.fr0 ((Fr.refl _ _).new hdl)⟩
    · intros; trivial
    · rintro i x H2 H3 hi ⟨f2, e2, c2⟩ ⟨rfl, z, hz, rfl⟩
      have hi3 : i < 3 := hi
      have hi1 : ([wS .wi, wS .be, wS .ah] : List Str)[i]? = some (wS (ws3.getD i .wi)) := by
        match i, hi3 with
        | 0, _ => rfl
        | 1, _ => rfl
        | 2, _ => rfl
      rw [hi1] at hz
      cases Option.some.inj hz
      generalize hu : ws3.getD i .wi = u
      obtain ⟨v, kv1, kv2⟩ := pk2 u
      obtain ⟨F2, l2⟩ := elN_ok F1 R1 i
      obtain ⟨⟨dx, g1⟩, _⟩ := id c2
      refine ⟨rfl, ?_⟩
      dsimp only [tYes]
      refine iteT ?_
      refine ⟨_, rfl, c, dx, _, rfl, g1, noi _ _, _, rfl, pd, wS u, v, rfl, rfl, kv1, c, e, r1, elN rows1 el1 i, rows1, v, u, rfl, c2, kv2 _, F2, by rw [l2]; exact R1, by omega, hlen1, fun H4 c4 f4 => ?_⟩
      have ndl : ¬ S1 e dl := fun z => by rw [show dl = e from z, hc1.he] at hdl; cases hdl
      have e4 := f4.keep _ _ e2 ndl
      have g : Fr (S1 dl) H4 (upd H4 dl (.lst (((List.range i).map fun j => V.bl (nwN rows1 el1 j)) ++ [.bl (pass u rows1 (elN rows1 el1 i)).nw]))) := (Fr.refl _ _).set rfl (lst_ne_tup e4)
      refine ⟨_, e4, by rw [List.length_map, List.length_range]; exact sz (by omega), (f2.trans f4).mut hdl, ?_, ?_⟩
      · rw [upd_same, List.range_succ, List.map_append]
        show _ = some (HO.lst (_ ++ [V.bl (pass (ws3.getD i .wi) rows1 (elN rows1 el1 i)).nw]))
        rw [hu]
      · show CS K C _ c e r1 (pass (ws3.getD i .wi) rows1 (elN rows1 el1 i)).e rows1
        rw [hu]
        have nl : ∀ {a : Addr} {o : HO}, H1 a = some o → ¬ S1 dl a := fun h z => by rw [show _ = dl from z, hdl] at h; cases h
        obtain ⟨⟨dx1, q1⟩, q2, ⟨ys, q3, _⟩, _⟩ := hc1
        exact c4.fr g (nl q1) (nl q2) (nl q3)
    · rintro H2 ⟨f2, e2, c2⟩
      refine ⟨dl, [nwN rows1 el1 0, nwN rows1 el1 1, nwN rows1 el1 2], rfl, SqL.of e2, _, rfl, ?_⟩
      rw [nwN3]
      have P3' := p3_of F1 R1
      have c2' : CS K C H2 c e r1 (pass3 rows1 el1).1 rows1 := c2
      obtain ⟨⟨dx2, q2⟩, _⟩ := id c2'
      obtain ⟨m', rfl⟩ : ∃ m', m = m' + 1 := ⟨m - 1, by omega⟩
      have f02 : Fr (SE c e) H H2 := f1.trans (f2.mono fun a z => .inr z)
      -- self.rows = self.rooted()
      have R2 : Rows (pass3 rows1 el1).1.length rows1 := by rw [P3'.len]; exact R1
      refine ite2 (fun hb => ?_) (fun hb => ?_)
      · refine ⟨fun σ' H' => ∃ r3, σ' = [some (.ref c), v1] ∧ CS K C H' c e r3 (pass3 rows1 el1).1 (rooted (pass3 rows1 el1).1 rows1) ∧ Fr (SE c e) H H' ∧ H r3 = none, ?_, ?_⟩
        · rintro σ' H' ⟨r3, rfl, cs, fr, hr3⟩
          refine ⟨m', Nat.lt_succ_self _, _, _, r3, v1, rfl, ?_, ?_, cs, P3'.F, rooted_rows R2, by rw [P3'.len]; exact hel1, Nat.lt_of_le_of_lt (rooted_len _ _) hlen1, fr, .inr hr3⟩
          · have := P3'.yes hb; omega
          · rw [← hset]
            show _ = settle (m' + 1) el1 rows1
            rw [settle, if_pos hb]
        · refine ⟨_, rfl, c, dx2, _, rfl, q2, noo _ _, c, e, r1, _, rows1, rfl, c2', P3'.F, R2, by rw [P3'.len]; exact hel1, hlen1, fun p ys H5 hp ep tp f5 => ?_⟩
          have c5 := c2'.fr0 f5
          obtain ⟨⟨dx5, q5⟩, _⟩ := id c5
          have nep : e ≠ p := fun z => by rw [← z, c2'.he] at hp; cases hp
          refine ⟨_, rfl, c, C, dx5, _, rfl, q5, L.cl, L.nR, flds_len _ _, ?_⟩
          rw [flds_put]
          have hp0 : H p = none := by
            refine f02.freeT (fun a q => ?_) hp
            rcases q with rfl | rfl
            · exact ⟨_, q2⟩
            · exact ⟨_, c2'.he⟩
          exact ⟨p, rfl, c5.setR ep tp nep, (f02.trans (f5.mono fun a z => z.elim)).set (.inl rfl) (by rw [q5]; intro z z1; cases z1), hp0⟩
      · have hb' : (pass3 rows1 el1).2 = false := by simpa using hb
        obtain ⟨pe, _⟩ := P3'.no hb'
        refine ⟨_, rfl, c, dx2, _, rfl, q2, noo _ _, c, e, r1, _, rows1, rfl, c2', P3'.F, R2, by rw [P3'.len]; exact hel1, hlen1, fun p ys H5 hp ep tp f5 => ?_⟩
        have c5 := c2'.fr0 f5
        obtain ⟨⟨dx5, q5⟩, _⟩ := id c5
        have nep : e ≠ p := fun z => by rw [← z, c2'.he] at hp; cases hp
        refine ⟨_, rfl, c, C, dx5, _, rfl, q5, L.cl, L.nR, flds_len _ _, ?_⟩
        rw [flds_put]
        have hp0 : H p = none := by
          refine f02.freeT (fun a q => ?_) hp
          rcases q with rfl | rfl
          · exact ⟨_, q2⟩
          · exact ⟨_, c2'.he⟩
        refine k p _ hp0 ?_ ((f02.trans (f5.mono fun a z => z.elim)).set (.inl rfl) (by rw [q5]; intro z z1; cases z1))
        rw [← hset]
        show CS K C _ c e p (settle (m' + 1) el1 rows1).1 (settle (m' + 1) el1 rows1).2
        rw [settle, if_neg (by rw [hb']; decide)]
        exact c5.setR ep tp nep
end
end K12
set_option linter.all false
set_option maxRecDepth 100000
set_option maxHeartbeats 1600000
/-! K12w20: the closing: made, numbered, closing_of, torn_by, clash, closed. -/
namespace K12
open PySem PySem.Spec PyProof.Rows L2
/-- a class whose instances are made so -/
def Ini (P : Program) (w : World) (K : PySem.W.Frag) (mg : Str → Option Value) (base : Heap) (C : Addr) (x : Str) (ps : List Str) (k : Nat) (sp : Sp) : Prop :=
  ∃ f fd, L2.Mk K C f ∧ mg x = some (.ref C) ∧ Binds K fd ps [] ∧ FnOk P w K mg base CX0 k f fd ps sp
structure Di (K : PySem.W.Frag) (mg : Str → Option Value) (C : Addr) (x qual : Str) (st : Stmt) (ps : List Str) : Prop where
  ex : ∃ f fd, Fun K "__init__" qual st f fd ∧ L2.Mk K C f ∧ mg x = some (.ref C) ∧ Binds K fd ps []
theorem Di.ok {P : Program} {w : World} {K : PySem.W.Frag} {mg : Str → Option Value} {base : Heap} {C : Addr} {x qual : Str} {st : Stmt} {ps N : List Str} {k : Nat} {sp : Sp} (D : Di K mg C x qual st ps) (S : FnScope N ps (defScope st)) (len : ∀ vs H Q E, sp vs H Q E → vs.length = ps.length)
    (hbody : ∀ (f : Addr) (cdv : Value) (A : Around) (outer : List Env) (s : Shared) (H : Hp) (vs : List V) (Q : VK) (E : XK), Room k (A.deeper (envOfC qual (defScope st) s.heap.objs.size f cdv)) → sp vs H Q E →
      ∃ t, PSs (cxOf CX0 P w K mg base N qual (defScope st) f cdv A outer s H E).nox (defBody st) t ∧ t { nx := fun _ H' => Q .non H', rt := Q } (start N vs) H) : Ini P w K mg base C x ps (k + 1) sp := by
  obtain ⟨f, fd, F, m, g, b⟩ := D.ex
  exact ⟨f, fd, m, g, b, F.ok S len (hbody f)⟩
theorem pe_mk {X : Cx} {C : Addr} {x : Str} {ps : List Str} {k : Nat} {sp : Sp} {e : Expr} {es : List Expr} {p pos : Pos} {t : TA} (c : Ini X.prog X.w X.K X.mg X.base C x ps k sp) (hr : Room (k + 1) X.A) (ha : PA X (e :: es) t)
    (hg : Gl X x := by rfl) (hdb : (x == ("__debug__" : Str)) = false := by decide) (he : starEach (e :: es) X.env = (false, eval e X.env) :: starEach es X.env := by rfl) (hpl : (backTo pos (starEach es X.env)).any (·.1) = false := by rfl) :
    PE X (.Call (.Name x p) (e :: es) [] pos) (tMake C sp [] E0 t) := by
  obtain ⟨f, fd, M, g, b, F⟩ := c
  exact pe_make M F hr hg g b .nil pass0 ha hdb he hpl
section
variable {P : Program} {w : World} {K : PySem.W.Frag} {mg : Str → Option Value} {base : Heap}
/-! ### __init__ -/
def spCI (K : PySem.W.Frag) (C : Addr) : Sp := fun vs H Q _ => ∃ (c dx : Addr) (pe : Addr) (n : Nat) (xs : List V) (es : List T3), vs = [.ref c, iv n, .ref pe] ∧ H c = some (.ins C dx []) ∧ Tp K H pe xs ∧ DTs K H xs (es.map t3D) ∧ Rows n es ∧ n ≤ 1000 ∧ es.length < 64 ∧
  ∀ e r H', H e = none → H r = none → CS K C H' c e r (closeOf n es).1 (closeOf n es).2 → Fr (S1 c) H H' → Q .non H'
abbrev sCI : Stmt := inClass clg 0
abbrev psCI : List Str := ["self", "many", "entries"]
theorem scCI : FnScope psCI psCI (defScope sCI) := ⟨rfl, rfl, rfl, by decide +kernel, rfl, by decide +kernel, by decide +kernel⟩
theorem nRoots_range (n : Nat) : nRoots (List.range n) < n + 1 := by
  have := nRoots_le (List.range n)
  simp at this; omega
theorem ok_CI {C : Addr} (D : Di K mg C "Closing" "Closing.__init__" sCI psCI) (T : Bi mg) (L : Clg K C) (mS : Mt P w K mg base C "settle" ["self"] 4 (spSettle K C)) : Ini P w K mg base C "Closing" psCI 5 (spCI K C) := by
  refine D.ok scCI (fun vs H Q E h => ?_) (fun f cdv A outer s H vs Q E hr h => ?_)
  · obtain ⟨c, dx, pe, n, xs, es, rfl, _⟩ := h
    rfl
  · obtain ⟨c, dx, pe, n, xs, es, rfl, hc, tp, dt, R, hn, hlen, k⟩ := h
    refine ⟨_, pss_cons (ps_fld (pv 0) (pe_listRg (by rfl) (by rfl) T.list (prg_1 (by rfl) T.range (pv 1))) rfl) (pss_cons (ps_fld (pv 0) (pe_callTy call_list_of (by rfl) T.list PyProof.Rows.boot_list (pa_cons (pv 2) pa_nil)) rfl) (pss_one (ps_expr (pe_mt0 mS L.cl hr (pv 0))))), ?_⟩
    refine ⟨_, rfl, _, rfl, RgOk.of_le (by omega) (by omega) (by omega) (by omega), fun e he => ?_⟩
    have n1 : Fr S0 H (upd H e (.lst (rgV 0 (n : Int)))) := (Fr.refl _ _).new he
    have nce : c ≠ e := ne_of_none hc he
    refine ⟨_, rfl, c, C, dx, [], rfl, n1.keep _ _ hc (fun z => z), L.cl, L.nE, by show 0 < 1000; decide, ?_⟩
    have f2 : Fr (S1 c) H (upd (upd H e (.lst (rgV 0 (n : Int)))) c (.ins C dx (putF "elder" (.ref e) []))) := (n1.mono fun a z => z.elim).set rfl (by rw [n1.keep _ _ hc (fun z => z)]; intro z q; cases q)
    have e2 : upd (upd H e (.lst (rgV 0 (n : Int)))) c (.ins C dx (putF "elder" (.ref e) [])) e = some (.lst (ivs (List.range n))) := by rw [upd_ne nce.symm, upd_same, rgV_ivs]
    have c2 : upd (upd H e (.lst (rgV 0 (n : Int)))) c (.ins C dx (putF "elder" (.ref e) [])) c = some (.ins C dx (putF "elder" (.ref e) [])) := upd_same
    generalize upd (upd H e (.lst (rgV 0 (n : Int)))) c (.ins C dx (putF "elder" (.ref e) [])) = H2 at f2 e2 c2
    refine ⟨_, rfl, pe, xs, rfl, .inr (tp.fr f2).sq, fun r hr' => ?_⟩
    have n3 : Fr S0 H2 (upd H2 r (.lst xs)) := (Fr.refl _ _).new hr'
    have nce' : c ≠ r := ne_of_none c2 hr'
    have ner : e ≠ r := ne_of_none e2 hr'
    refine ⟨_, rfl, c, C, dx, _, rfl, n3.keep _ _ c2 (fun z => z), L.cl, L.nR, by show 1 < 1000; decide, ?_⟩
    have g : Fr (S1 c) (upd H2 r (.lst xs)) (upd (upd H2 r (.lst xs)) c (.ins C dx (flds e r))) := (Fr.refl _ _).set rfl (by rw [n3.keep _ _ c2 (fun z => z)]; intro z q; cases q)
    have cs : CS K C (upd (upd H2 r (.lst xs)) c (.ins C dx (flds e r))) c e r (List.range n) es := by
      refine ⟨⟨dx, upd_same⟩, ?_, ⟨xs, ?_, ?_⟩, ner⟩
      · exact g.keep _ _ (n3.keep _ _ e2 (fun z => z)) nce.symm
      · exact g.keep _ _ upd_same nce'.symm
      · exact ((dt.fr f2).fr n3).fr g
    have f4 : Fr (S1 c) H (upd (upd H2 r (.lst xs)) c (.ins C dx (flds e r))) := (f2.trans (n3.mono fun a z => z.elim)).trans g
    have hr0 : H r = none := f2.freeT (fun a q => by rw [show a = c from q]; exact ⟨_, c2⟩) hr'
    have nos : (flds e r).lookup ("settle" : Str) = none := flds_no _ _ (by decide +kernel) (by decide +kernel)
    refine ⟨_, rfl, c, dx, _, rfl, upd_same, nos, c, e, r, List.range n, es, n + 1, rfl, cs, range_forest n, by rw [List.length_range]; exact R, by rw [List.length_range]; exact hn, hlen, nRoots_range n, fun r' H' hr2 cs' f5 => ?_⟩
    have hcc := upd_same (H := upd H2 r (.lst xs)) (a := c) (o := .ins C dx (flds e r))
    refine k e r' H' he ?_ cs' (f4.step f5 fun a z => ?_)
    · exact f4.freeT (fun a q => by rw [show a = c from q]; exact ⟨_, upd_same⟩) hr2
    · rcases z with rfl | rfl
      · exact .inr rfl
      · exact .inl he
/-! ### numbered -/
def spNumbered (K : PySem.W.Frag) (C : Addr) : Sp := fun vs H Q _ => ∃ (c e r : Addr) (el : List Nat) (rows : List T3), vs = [.ref c] ∧ CS K C H c e r el rows ∧ el.length ≤ 1000 ∧
  ∀ p H', H p = none → H' p = some (.lst (ivs (numbered el))) → Fr S0 H H' → Q (.ref p) H'
abbrev sNumbered : Stmt := inClass clg 10
abbrev nNumbered : List Str := ["self", "thing"]
theorem scNumbered : FnScope nNumbered ["self"] (defScope sNumbered) := ⟨rfl, rfl, rfl, by decide +kernel, rfl, by decide +kernel, by decide +kernel⟩
theorem ok_numbered {C : Addr} (D : Dm K C "numbered" "Closing.numbered" sNumbered ["self"]) (T : Bi mg) (L : Clg K C) : Mt P w K mg base C "numbered" ["self"] 1 (spNumbered K C) := by
  refine D.ok scNumbered (fun vs H Q E h => ?_) (fun f cdv A outer s H vs Q E hr h => ?_)
  · obtain ⟨c, e, r, el, rows, rfl, _⟩ := h
    rfl
  · obtain ⟨c, e, r, el, rows, rfl, hc, hel, k⟩ := h
    refine ⟨_, pss_one (ps_ret (pe_lc (own := [("thing", 1)]) (g := gName 1) (tt := _) rfl scNumbered.nd (pi_range1 rfl T.range (pa_cons (pe_callB call_len_seq (by rfl) T.len PySem.boot_len (pa_cons (pe_fld (pv 0) rfl) pa_nil)) pa_nil)) (blkOk_by (N := nNumbered) (sc := defScope sNumbered) (by decide +kernel)) (fun _ _ _ _ _ => pg_name (i := 1) scNumbered.nd rfl (Or.inl rfl)) (fun _ _ _ _ _ => pts_one (pt_cmpR op_eq (pe_ix (ix_listk K) (pe_fldk K (pv 0) rfl) (pv 1) (fun _ _ => rfl)) (pv 1) (nomark _))) (fun _ _ _ _ _ => pv 1))), ?_⟩
    obtain ⟨⟨dx, h1⟩, h2, _⟩ := id hc
    have ll : (ivs el).length = el.length := ivs_len el
    refine ⟨_, rfl, c, C, dx, _, _, rfl, h1, L.cl, L.nE, flds_elder _ _, e, _, rfl, .inl (SqL.of h2), _, rfl, by rw [ll]; omega, by rw [ll]; omega, fun d hd => lc_range (lo := 0) (n := (((ivs el).length : Nat) : Int).toNat) (fun i H' => Fr S0 H H' ∧ H' d = some (.lst (ivs ((List.range i).filter fun t => up el t == t)))) ?_ ?_ ?_⟩
    · exact ⟨(Fr.refl _ _).new hd, upd_same⟩
    · rintro i H' hi ⟨f1, e1⟩
      have hi' : i < el.length := by rw [ll] at hi; omega
      have ee : ((0 : Int) + (i : Int)) = (i : Int) := by omega
      rw [ee]
      have gy := up_getD hi'
      refine ⟨rfl, _, rfl, c, C, dx, _, _, rfl, f1.keep _ _ h1 (fun z => z), L.cl, L.nE, flds_elder _ _, _, rfl, e, _, _, _, rfl, rfl, SqL.of (f1.keep _ _ h2 (fun z => z)), atI_nat (ivs_at hi'), _, rfl, rfl, _, rfl, ?_⟩
      rw [List.range_succ, List.filter_append]
      by_cases hh : up el i = i
      · rw [ivT (by omega)]
        refine iteT ⟨_, rfl, _, e1, ?_, f1.mut hd, ?_⟩
        · rw [ivs_len]
          have := List.length_filter_le (fun t => up el t == t) (List.range i)
          rw [List.length_range] at this
          exact sz (by omega)
        · rw [upd_same, ivs_app]; simp [hh]
      · rw [ivF (by omega)]
        refine iteF ⟨f1, ?_⟩
        rw [e1]; simp [hh]
    · rintro H' ⟨f1, e1⟩
      refine k d H' hd ?_ f1
      rw [e1]
      have : (((ivs el).length : Nat) : Int).toNat = el.length := by rw [ll]; omega
      rw [this]; rfl
end
end K12
set_option linter.all false
set_option maxRecDepth 100000
set_option maxHeartbeats 1600000
/-! K12w21: closing_of, torn_by, clash, closed. -/
namespace K12
open PySem PySem.Spec PyProof.Rows L2
section
variable {P : Program} {w : World} {K : PySem.W.Frag} {mg : Str → Option Value} {base : Heap}
/-- facts in, a closing of them out -/
def spOf (K : PySem.W.Frag) (C : Addr) : Sp := fun vs H Q _ => ∃ (vf : V) (n : Nat) (es : List T3) (us : List (Nat × Nat)), vs = [vf] ∧ DT K H vf (factsD n es us) ∧ FactsOk n es us ∧ NoClash n es us ∧
  ∀ c e r H', H c = none → H e = none → H r = none → CS K C H' c e r (closeOf n es).1 (closeOf n es).2 → Fr S0 H H' → Q (.ref c) H'
theorem Fr.back {H H' : Hp} {c : Addr} (f : Fr (S1 c) H H') (h : H c = none) : Fr S0 H H' := ⟨fun a o e _ => f.keep a o e (fun q => by rw [show a = c from q, h] at e; cases e), f.tup⟩
abbrev sOf : Stmt := top 26
abbrev psF : List Str := ["facts"]
theorem scOf : FnScope psF psF (defScope sOf) := ⟨rfl, rfl, rfl, by decide +kernel, rfl, by decide +kernel, by decide +kernel⟩
theorem ok_of {C : Addr} (D : Df K mg "closing_of" sOf psF) (T : Bi mg) (cC : Ini P w K mg base C "Closing" psCI 5 (spCI K C)) : Cl P w K mg base "closing_of" psF 7 (spOf K C) := by
  refine D.ok scOf (fun vs H Q E h => ?_) (fun f cdv A outer s H vs Q E hr h => ?_)
  · obtain ⟨vf, n, es, us, rfl, _⟩ := h
    rfl
  · obtain ⟨vf, n, es, us, rfl, hf, FO, NC, k⟩ := h
    refine ⟨_, pss_one (ps_ret (pe_mk cC hr (pa_cons (pe_ix ix_tup (pv 0) pe_int (fun _ _ => rfl)) (pa_cons (pe_ix ix_tup (pv 0) pe_int (fun _ _ => rfl)) pa_nil)))), ?_⟩
    obtain ⟨pf, pe, pu, xs, ys, rfl, tf, te, re, tu, ru⟩ := facts_inv hf
    refine ⟨_, rfl, pf, _, 0, _, rfl, rfl, tf.sq, rfl, _, rfl, pf, _, 1, _, rfl, rfl, tf.sq, rfl, fun c dx hc hdx ne => ?_⟩
    have n1 : Fr S0 H (upd (upd H dx (.own c)) c (.ins C dx [])) := by
      refine ((Fr.refl _ _).new hdx).new ?_
      rw [upd_ne ne.symm]; exact hc
    have := FO.le
    have := FO.len
    refine ⟨c, dx, pe, n, xs, es, rfl, upd_same, te.fr n1, re.fr n1, FO.R, by omega, by omega, fun e r H' he hr' cs f => ⟨rfl, ?_⟩⟩
    exact k c e r H' hc (n1.free he) (n1.free hr') cs (Fr.back ((n1.mono fun a z => z.elim).trans f) hc)
/-! ### are_one -/
def spOne (K : PySem.W.Frag) (C : Addr) : Sp := fun vs H Q _ => ∃ (c e r : Addr) (el : List Nat) (rows : List T3) (vp : V) (p : Nat × Nat), vs = [.ref c, vp] ∧ CS K C H c e r el rows ∧ DT K H vp (p2D p) ∧ Forest el ∧ p.1 < el.length ∧ p.2 < el.length ∧ Q (.bl (decide (root el p.1 = root el p.2))) H
abbrev sOne : Stmt := top 28
abbrev psOne : List Str := ["closing", "pair"]
theorem scOne : FnScope psOne psOne (defScope sOne) := ⟨rfl, rfl, rfl, by decide +kernel, rfl, by decide +kernel, by decide +kernel⟩
theorem iv_dec {a b : Nat} : decide (iv a = iv b) = decide (a = b) := by
  by_cases h : a = b
  · rw [ivT h, decide_eq_true h]
  · rw [ivF h, decide_eq_false h]
theorem ok_one {C : Addr} (D : Df K mg "are_one" sOne psOne) (T : Bi mg) (L : Clg K C) (mR : Mt P w K mg base C "root" ["self", "thing"] 1 (spRoot K C)) : Cl P w K mg base "are_one" psOne 2 (spOne K C) := by
  refine D.ok scOne (fun vs H Q E h => ?_) (fun f cdv A outer s H vs Q E hr h => ?_)
  · obtain ⟨c, e, r, el, rows, vp, p, rfl, _⟩ := h
    rfl
  · obtain ⟨c, e, r, el, rows, vp, p, rfl, hc, hp, F, h1, h2, k⟩ := h
    refine ⟨_, pss_one (ps_ret (pe_cmpR op_eq (pe_mt mR L.cl hr (pv 0) (pa_cons (pe_ix ix_tup (pv 1) pe_int (fun _ _ => rfl)) pa_nil)) (pe_mt mR L.cl hr (pv 0) (pa_cons (pe_ix ix_tup (pv 1) pe_int (fun _ _ => rfl)) pa_nil)) (nomark _))), ?_⟩
    obtain ⟨q, rfl, tq⟩ := row_inv hp
    obtain ⟨⟨dx, g1⟩, _⟩ := id hc
    have nor : (flds e r).lookup ("root" : Str) = none := flds_no _ _ (by decide +kernel) (by decide +kernel)
    refine ⟨_, rfl, c, dx, _, rfl, g1, nor, _, rfl, q, _, _, _, rfl, rfl, tq.sq, atI_nat (j := 0) rfl, c, e, r, el, rows, p.1, rfl, hc, F, h1, ?_⟩
    refine ⟨_, rfl, c, dx, _, rfl, g1, nor, _, rfl, q, _, _, _, rfl, rfl, tq.sq, atI_nat (j := 1) rfl, c, e, r, el, rows, p.2, rfl, hc, F, h2, rfl, ?_⟩
    show Q (.bl (decide (iv (root el p.1) = iv (root el p.2)))) H
    rw [iv_dec]; exact k
/-! ### torn_by: none -/
def spTorn (K : PySem.W.Frag) (C : Addr) : Sp := fun vs H Q _ => ∃ (vf : V) (c e r : Addr) (n : Nat) (es : List T3) (us : List (Nat × Nat)), vs = [vf, .ref c] ∧ DT K H vf (factsD n es us) ∧ FactsOk n es us ∧ NoClash n es us ∧ CS K C H c e r (closeOf n es).1 (closeOf n es).2 ∧
  ∀ H', Fr S0 H H' → Q .non H'
abbrev sTorn : Stmt := top 29
abbrev psTorn : List Str := ["facts", "closing"]
abbrev nTorn : List Str := ["facts", "closing", "number", "pair"]
theorem scTorn : FnScope nTorn psTorn (defScope sTorn) := ⟨rfl, rfl, rfl, by decide +kernel, rfl, by decide +kernel, by decide +kernel⟩
theorem ok_torn {C : Addr} (D : Df K mg "torn_by" sTorn psTorn) (T : Bi mg) (cO : Cl P w K mg base "are_one" psOne 2 (spOne K C)) : Cl P w K mg base "torn_by" psTorn 3 (spTorn K C) := by
  refine D.ok scTorn (fun vs H Q E h => ?_) (fun f cdv A outer s H vs Q E hr h => ?_)
  · obtain ⟨vf, c, e, r, n, es, us, rfl, _⟩ := h
    rfl
  · obtain ⟨vf, c, e, r, n, es, us, rfl, hf, FO, NC, hc, k⟩ := h
    refine ⟨_, pss_cons (ps_for PassesOwn.never rfl (pi_enumT (by rfl) T.enumerate (pa_cons (pe_ix ix_tup (pv 0) pe_int (fun _ _ => rfl)) pa_nil)) (pg_tup (by rfl) (pgs_cons (pg_name (i := 2) scTorn.nd rfl (Or.inl rfl)) (pgs_cons (pg_name (i := 3) scTorn.nd rfl (Or.inl rfl)) pgs_nil))) (pss_one (ps_if (pt_val (pe_cl cO hr (pa_cons (pv 1) (pa_cons (pv 3) pa_nil)))) (pss_one (ps_ret (pv 2))) pss_nil))) (pss_one (ps_ret pe_non)), ?_⟩
    obtain ⟨pf, pe, pu, xs, ys, rfl, tf, te, re, tu, ru⟩ := facts_inv hf
    have ly : ys.length = us.length := by rw [ru.len, List.length_map]
    have G := closeOf_good FO.R
    have ln : (closeOf n es).1.length = n := closeOf_len FO.R
    refine ⟨_, rfl, pf, _, 2, _, rfl, rfl, tf.sq, rfl, pu, ys, rfl, tu.sq, for_it (walk_enumT (K := K) (a := pu) (xs := ys)) (fun i σ H' => (∃ v2 v3, σ = [some (.ref pf), some (.ref c), v2, v3]) ∧ Fr S0 H H') ?_ ?_ ?_ ?_⟩
    · exact ⟨⟨none, none, rfl⟩, Fr.refl _ _⟩
    · rintro i σ H' _ ⟨_, f1⟩
      exact (tu.fr f1).sq
    · rintro i x σ H1 H2 hi ⟨⟨v2, v3, rfl⟩, f1⟩ ⟨tt, y1, y2, rfl, ht, rfl, hy1, hy2⟩
      have f2 : Fr S0 H1 (upd H1 tt (.tup [y1, y2])) := (Fr.refl _ _).new ht
      have f12 := f1.trans f2
      obtain ⟨d, hd1, hd2⟩ := (ru.fr f12).at hy2
      obtain ⟨p, hp, rfl⟩ := map_at hd1
      have hm := List.mem_of_getElem? hp
      obtain ⟨u1, u2⟩ := FO.U p hm
      refine ⟨tt, _, rfl, SqT.of upd_same, rfl, _, _, rfl, _, _, rfl, rfl, ?_⟩
      refine ⟨_, rfl, _, rfl, c, e, r, _, _, y2, p, rfl, hc.fr0 f12, hd2, G.F, by rw [ln]; omega, by rw [ln]; exact u2, _, rfl, ?_⟩
      rw [decide_eq_false (NC p hm)]
      exact iteF ⟨⟨_, _, rfl⟩, f12⟩
    · rintro σ H' ⟨_, f1⟩
      exact k H' f1
/-! ### clash: none -/
def spCl (K : PySem.W.Frag) : Sp := fun vs H Q _ => ∃ (vf : V) (n : Nat) (es : List T3) (us : List (Nat × Nat)), vs = [vf] ∧ DT K H vf (factsD n es us) ∧ FactsOk n es us ∧ NoClash n es us ∧ ∀ H', Fr S0 H H' → Q .non H'
abbrev sCl : Stmt := top 30
abbrev nCl : List Str := ["facts", "numbers", "pair"]
theorem scCl : FnScope nCl psF (defScope sCl) := ⟨rfl, rfl, rfl, by decide +kernel, rfl, by decide +kernel, by decide +kernel⟩
theorem ok_cl {C : Addr} (D : Df K mg "clash" sCl psF) (T : Bi mg) (cF : Cl P w K mg base "closing_of" psF 7 (spOf K C)) (cT : Cl P w K mg base "torn_by" psTorn 7 (spTorn K C)) : Cl P w K mg base "clash" psF 8 (spCl K) := by
  refine D.ok scCl (fun vs H Q E h => ?_) (fun f cdv A outer s H vs Q E hr h => ?_)
  · obtain ⟨vf, n, es, us, rfl, _⟩ := h
    rfl
  · obtain ⟨vf, n, es, us, rfl, hf, FO, NC, k⟩ := h
    refine ⟨_, pss_cons (ps_if (pt_cmpR op_isN (pe_cl cT hr (pa_cons (pv 0) (pa_cons (pe_cl cF hr (pa_cons (pv 0) pa_nil)) pa_nil))) pe_non (nomark _)) (pss_one (ps_ret pe_non)) pss_nil) (pss_cons ps_never (pss_one (ps_ret pe_non))), ?_⟩
    refine ⟨_, rfl, _, rfl, vf, n, es, us, rfl, hf, FO, NC, fun c e r H1 hc he hr1 cs f1 => ?_⟩
    refine ⟨vf, c, e, r, n, es, us, rfl, hf.fr f1, FO, NC, cs, fun H2 f2 => ⟨rfl, _, rfl, ?_⟩⟩
    exact iteT (k H2 (f1.trans f2))
/-! ### closed -/
abbrev sClosed : Stmt := top 31
abbrev nClosed : List Str := ["facts", "found"]
theorem scClosed : FnScope nClosed psF (defScope sClosed) := ⟨rfl, rfl, rfl, by decide +kernel, rfl, by decide +kernel, by decide +kernel⟩
theorem ok_closed {C : Addr} (D : Df K mg "closed" sClosed psF) (T : Bi mg) (cF : Cl P w K mg base "closing_of" psF 8 (spOf K C)) (cK : Cl P w K mg base "clash" psF 8 (spCl K)) : Cl P w K mg base "closed" psF 9 (spOf K C) := by
  refine D.ok scClosed (fun vs H Q E h => ?_) (fun f cdv A outer s H vs Q E hr h => ?_)
  · obtain ⟨vf, n, es, us, rfl, _⟩ := h
    rfl
  · obtain ⟨vf, n, es, us, rfl, hf, FO, NC, k⟩ := h
    refine ⟨_, pss_cons (ps_set (i := 1) scClosed.nd rfl (Or.inl rfl) (pe_cl cK hr (pa_cons (pv 0) pa_nil))) (pss_cons (ps_if (pt_cmpR op_notN (pv 1) pe_non (nomark _)) (pss_one ps_never) pss_nil) (pss_one (ps_ret (pe_cl cF hr (pa_cons (pv 0) pa_nil))))), ?_⟩
    refine ⟨_, rfl, vf, n, es, us, rfl, hf, FO, NC, fun H1 f1 => ?_⟩
    refine ⟨_, rfl, rfl, _, rfl, iteF ?_⟩
    refine ⟨_, rfl, vf, n, es, us, rfl, hf.fr f1, FO, NC, fun c e r H2 hc he hr2 cs f2 => ?_⟩
    exact k c e r H2 (f1.free hc) (f1.free he) (f1.free hr2) cs (f1.trans f2)
end
end K12
set_option linter.all false
set_option maxRecDepth 100000
set_option maxHeartbeats 1600000
/-! K12w22: third, thing_of. -/
namespace K12
open PySem PySem.Spec PyProof.Rows L2
theorem third_rlen (e rows w a b) : (third e rows w a b).1.2.length ≤ rows.length + 1 := by
  unfold third; split <;> simp
theorem third_elen (e rows w a b) : (third e rows w a b).1.1.length ≤ e.length + 1 := by
  unfold third; split <;> simp
theorem thing_rlen : ∀ (f : Fm) (e : List Nat) (rows : List T3), (thing f e rows).1.2.length ≤ rows.length + f.size
  | .nm n, e, rows => by simp [thing]
  | .ap w f g, e, rows => by
    have h1 := thing_rlen f e rows
    have h2 := thing_rlen g (thing f e rows).1.1 (thing f e rows).1.2
    have h3 := third_rlen (thing g (thing f e rows).1.1 (thing f e rows).1.2).1.1 (thing g (thing f e rows).1.1 (thing f e rows).1.2).1.2 w (thing f e rows).2 (thing g (thing f e rows).1.1 (thing f e rows).1.2).2
    show (third _ _ _ _ _).1.2.length ≤ _
    simp only [Fm.size]
    omega
def mkL (t : T3) : List V := [iv t.1, iv t.2.1, iv t.2.2]
theorem set2 (u : W) (a b t : Nat) : (([iv t, iv t, iv t] : List V).set (placeN u).1 (iv a)).set (placeN u).2.1 (iv b) = mkL (mkRow u a b t) := by cases u <;> rfl
theorem placeN_lt (u : W) : (placeN u).1 < 3 ∧ (placeN u).2.1 < 3 := by cases u <;> decide
section
variable {P : Program} {w : World} {K : PySem.W.Frag} {mg : Str → Option Value} {base : Heap}
/-! ### third -/
def spThird (K : PySem.W.Frag) (C : Addr) : Sp := fun vs H Q _ => ∃ (c e r : Addr) (el : List Nat) (rows : List T3) (pl : V) (u : W) (a b : Nat), vs = [.ref c, pl, iv a, iv b] ∧ CS K C H c e r el rows ∧ DT K H pl (placeD u) ∧ el.length ≤ 1000 ∧ rows.length ≤ 1000 ∧
  ∀ H', CS K C H' c e r (third el rows u a b).1.1 (third el rows u a b).1.2 → Fr (SC c e r) H H' → Q (iv (third el rows u a b).2) H'
abbrev sThird : Stmt := inClass clg 7
abbrev nThird : List Str := ["self", "places", "one", "other", "found", "row"]
theorem scThird : FnScope nThird psTold (defScope sThird) := ⟨rfl, rfl, rfl, by decide +kernel, rfl, by decide +kernel, by decide +kernel⟩
theorem ok_third {C : Addr} (D : Dm K C "third" "Closing.third" sThird psTold) (T : Bi mg) (L : Clg K C) (mT : Mt P w K mg base C "told" psTold 1 (spTold K C)) : Mt P w K mg base C "third" psTold 2 (spThird K C) := by
  refine D.ok scThird (fun vs H Q E h => ?_) (fun f cdv A outer s H vs Q E hr h => ?_)
  · obtain ⟨c, e, r, el, rows, pl, u, a, b, rfl, _⟩ := h
    rfl
  · obtain ⟨c, e, r, el, rows, pl, u, a, b, rfl, hc, hp, hel, hrl, k⟩ := h
    refine ⟨_, pss_cons (ps_set (i := 4) scThird.nd rfl (Or.inl rfl) (pe_mt mT L.cl hr (pv 0) (pa_cons (pv 1) (pa_cons (pv 2) (pa_cons (pv 3) pa_nil))))) (pss_cons (ps_if (pt_cmpR op_isN (pv 4) pe_non (nomark _)) (pss_cons (ps_set (i := 4) scThird.nd rfl (Or.inl rfl) (pe_callB call_len_seq (by rfl) T.len PySem.boot_len (pa_cons (pe_fld (pv 0) rfl) pa_nil))) (pss_cons (ps_expr (pe_bm PySem.F.plainAttrs_list PySem.F.slot_list_append PySem.F.type_list_append mt_append (pe_fld (pv 0) rfl) (pa_cons (pv 4) pa_nil))) (pss_cons (ps_set (i := 5) scThird.nd rfl (Or.inl rfl) (pe_op op_rep (pe_lst (pa_cons (pv 4) pa_nil)) pe_int)) (pss_cons (ps_asg (pe_tup (pa_cons (pv 2) (pa_cons (pv 3) pa_nil))) (pg_tup (by rfl) (pgs_cons (pg_sub (pv 5) (pe_ix ix_tup (pv 1) pe_int (fun _ _ => rfl)) set_list) (pgs_cons (pg_sub (pv 5) (pe_ix ix_tup (pv 1) pe_int (fun _ _ => rfl)) set_list) pgs_nil)))) (pss_one (ps_expr (pe_bm PySem.F.plainAttrs_list PySem.F.slot_list_append PySem.F.type_list_append mt_append (pe_fld (pv 0) rfl) (pa_cons (pe_callTy call_tuple_of (by rfl) T.tuple PyProof.Rows.boot_tuple (pa_cons (pv 5) pa_nil)) pa_nil)))))))) pss_nil) (pss_one (ps_ret (pv 4)))), ?_⟩
    obtain ⟨⟨dx, h1⟩, h2, ⟨xs, h3, h4⟩, hne⟩ := id hc
    obtain ⟨q, rfl, tq⟩ := row_inv hp
    have not : (flds e r).lookup ("told" : Str) = none := flds_no _ _ (by decide +kernel) (by decide +kernel)
    refine ⟨_, rfl, c, dx, _, rfl, h1, not, _, rfl, _, rfl, _, rfl, c, e, r, el, rows, _, u, a, b, rfl, hc, hp, ?_⟩
    cases ht : told rows u a b with
    | some t =>
      have e1 : third el rows u a b = ((el, rows), t) := by unfold third; rw [ht]
      rw [e1] at k
      refine ⟨_, rfl, rfl, _, rfl, iteF ?_⟩
      exact ⟨_, rfl, k H hc (Fr.refl _ _)⟩
    | none =>
      have e1 : third el rows u a b = ((el ++ [el.length], rows ++ [mkRow u a b el.length]), el.length) := by unfold third; rw [ht]
      rw [e1] at k
      refine ⟨_, rfl, rfl, _, rfl, iteT ?_⟩
      have hce := hc.ce
      have hcr := hc.cr
      have lel : (ivs el).length = el.length := ivs_len el
      refine ⟨_, rfl, c, C, dx, _, _, rfl, h1, L.cl, L.nE, flds_elder _ _, e, _, rfl, .inl (SqL.of h2), ?_⟩
      rw [lel]
      refine ⟨_, rfl, c, C, dx, _, _, rfl, h1, L.cl, L.nE, flds_elder _ _, .inl ⟨rfl, _, SqL.of h2⟩, _, rfl, e, _, _, rfl, rfl, h2, by rw [lel]; exact sz (by omega), ?_⟩
      have g1 : Fr (SC c e r) H (upd H e (.lst (ivs el ++ [iv el.length]))) := (Fr.refl _ _).set (.inr (.inl rfl)) (lst_ne_tup h2)
      have c1 : CS K C (upd H e (.lst (ivs el ++ [iv el.length]))) c e r (el ++ [el.length]) rows := by
        have := hc.setE (el' := el ++ [el.length])
        rwa [ivs_app] at this
      have tq1 := tq.fr g1
      generalize upd H e (.lst (ivs el ++ [iv el.length])) = H1 at g1 c1 tq1
      refine ⟨_, rfl, by show 1 ≤ sizeLine; decide, fun l hl => ?_⟩
      have n2 : Fr S0 H1 (upd H1 l (.lst [iv el.length])) := (Fr.refl _ _).new hl
      refine ⟨l, 3, _, rfl, rfl, upd_same, by decide, by decide, by show 1 * 3 ≤ sizeLine; decide, fun rw_ hrw => ?_⟩
      have n3 : Fr S0 H1 (upd (upd H1 l (.lst [iv el.length])) rw_ (.lst [iv el.length, iv el.length, iv el.length])) := n2.new hrw
      have hrw1 : H1 rw_ = none := n2.free hrw
      have erw : upd (upd H1 l (.lst [iv el.length])) rw_ (.lst [iv el.length, iv el.length, iv el.length]) rw_ = some (.lst [iv el.length, iv el.length, iv el.length]) := upd_same
      have c3 := c1.fr0 n3
      have tq3 := tq1.fr n3
      have g3 : Fr (SC c e r) H _ := g1.trans (n3.mono fun a z => z.elim)
      show tSeq _ _ _ _ (upd (upd H1 l (.lst [iv el.length])) rw_ (.lst [iv el.length, iv el.length, iv el.length]))
      generalize upd (upd H1 l (.lst [iv el.length])) rw_ (.lst [iv el.length, iv el.length, iv el.length]) = H3 at n3 erw c3 tq3 g3
      refine ⟨_, rfl, _, rfl, by show 2 ≤ sizeLine; decide, fun t ht4 => ?_⟩
      have n4 : Fr S0 H3 (upd H3 t (.tup [iv a, iv b])) := (Fr.refl _ _).new ht4
      refine ⟨t, _, rfl, SqT.of upd_same, rfl, _, _, rfl, ?_⟩
      have erw4 := n4.keep _ _ erw (fun z => z)
      have tq4 := tq3.fr n4
      have c4 := c3.fr0 n4
      have g4 := g3.trans (n4.mono fun a z => z.elim)
      generalize upd H3 t (.tup [iv a, iv b]) = H4 at n4 erw4 tq4 c4 g4
      obtain ⟨p1, p2⟩ := placeN_lt u
      refine ⟨_, rfl, _, rfl, q, _, _, _, rfl, rfl, tq4.sq, atI_nat (j := 0) rfl, rw_, _, _, _, rfl, rfl, erw4, Evl.ixN_nat (j := (placeN u).1) p1, ?_⟩
      have s5 : Fr (S1 rw_) H4 (upd H4 rw_ (.lst (([iv el.length, iv el.length, iv el.length] : List V).set (placeN u).1 (iv a)))) := (Fr.refl _ _).set rfl (lst_ne_tup erw4)
      have tq5 := tq4.fr s5
      refine ⟨_, _, rfl, _, rfl, _, rfl, q, _, _, _, rfl, rfl, tq5.sq, atI_nat (j := 1) rfl, rw_, _, _, _, rfl, rfl, upd_same, Evl.ixN_nat (j := (placeN u).2.1) (by rw [List.length_set]; exact p2), rfl, ?_⟩
      rw [upd_upd, set2]
      have s6 : Fr (S1 rw_) H4 (upd H4 rw_ (.lst (mkL (mkRow u a b el.length)))) := (Fr.refl _ _).set rfl (lst_ne_tup erw4)
      have nx : ∀ {x : Addr} {o : HO}, H1 x = some o → ¬ S1 rw_ x := fun h z => by rw [show _ = rw_ from z, hrw1] at h; cases h
      have c6 : CS K C (upd H4 rw_ (.lst (mkL (mkRow u a b el.length)))) c e r (el ++ [el.length]) rows := by
        obtain ⟨⟨dx1, q1⟩, q2, ⟨ys, q3, _⟩, _⟩ := id c1
        exact c4.fr s6 (nx q1) (nx q2) (nx q3)
      have hrw0 : H rw_ = none := c1.free g1 hrw1
      have g6 : Fr (SC c e r) H (upd H4 rw_ (.lst (mkL (mkRow u a b el.length)))) := g4.mut hrw0
      have e6 : upd H4 rw_ (.lst (mkL (mkRow u a b el.length))) rw_ = some (.lst (mkL (mkRow u a b el.length))) := upd_same
      generalize upd H4 rw_ (.lst (mkL (mkRow u a b el.length))) = H6 at c6 g6 e6
      obtain ⟨⟨dx6, q1⟩, q2, ⟨ys, q3, q4⟩, q5⟩ := id c6
      have lys : ys.length = rows.length := by rw [q4.len, List.length_map]
      refine ⟨_, rfl, c, C, dx6, _, _, rfl, q1, L.cl, L.nR, flds_rows _ _, .inl ⟨rfl, _, SqL.of q3⟩, _, rfl, rw_, _, rfl, .inl ⟨SqL.of e6, fun t2 ht2 => ?_⟩⟩
      have n7 : Fr S0 H6 (upd H6 t2 (.tup (mkL (mkRow u a b el.length)))) := (Fr.refl _ _).new ht2
      have q3' := n7.keep _ _ q3 (fun z => z)
      refine ⟨r, _, _, rfl, rfl, q3', by rw [lys]; exact sz (by omega), ?_⟩
      have s8 : Fr (S1 r) (upd H6 t2 (.tup (mkL (mkRow u a b el.length)))) (upd (upd H6 t2 (.tup (mkL (mkRow u a b el.length)))) r (.lst (ys ++ [.ref t2]))) := (Fr.refl _ _).set rfl (lst_ne_tup q3')
      refine ⟨_, rfl, k _ ⟨⟨dx6, s8.keep _ _ (n7.keep _ _ q1 (fun z => z)) hcr⟩, s8.keep _ _ (n7.keep _ _ q2 (fun z => z)) hne, ⟨_, upd_same, ?_⟩, hne⟩ ((g6.trans (n7.mono fun a z => z.elim)).trans (s8.mono fun a z => .inr (.inr z)))⟩
      rw [List.map_append]
      exact ((q4.fr n7).fr s8).append (.one (dt_row (s8.tup _ _ upd_same)))
/-! ### is_name -/
def spIsName (K : PySem.W.Frag) : Sp := fun vs H Q _ => ∃ (v : V) (f : Fm), vs = [v] ∧ DT K H v (fmD f) ∧ Q (.bl f.isNm) H
abbrev sIsName : Stmt := top 20
abbrev psFm : List Str := ["formula"]
theorem scIsName : FnScope psFm psFm (defScope sIsName) := ⟨rfl, rfl, rfl, by decide +kernel, rfl, by decide +kernel, by decide +kernel⟩
theorem ok_isName (D : Df K mg "is_name" sIsName psFm) (T : Bi mg) : Cl P w K mg base "is_name" psFm 1 (spIsName K) := by
  refine D.ok scIsName (fun vs H Q E h => ?_) (fun f cdv A outer s H vs Q E hr h => ?_)
  · obtain ⟨v, f, rfl, _⟩ := h
    rfl
  · obtain ⟨v, f, rfl, hv, k⟩ := h
    refine ⟨_, pss_one (ps_ret (pe_callB call_isi (by rfl) T.isinstance PyProof.Rows.boot_isinstance (pa_cons (pv 0) (pa_cons (pe_bltn (v := .ty "int") (by rfl) T.int PyProof.Rows.boot_int rfl) pa_nil)))), ?_⟩
    obtain ⟨t, ty, kt⟩ := isi_int hv
    exact ⟨_, rfl, _, _, t, _, _, rfl, .ty _, ty, kt, k⟩
/-! ### thing_of -/
def spThing (K : PySem.W.Frag) (C : Addr) (d0 : Nat) : Sp := fun vs H Q _ => ∃ (c e r : Addr) (el : List Nat) (rows : List T3) (v : V) (f : Fm), vs = [.ref c, v] ∧ f.depth < d0 ∧ DT K H v (fmD f) ∧ CS K C H c e r el rows ∧ Good el rows ∧ f.bel el.length ∧ el.length + f.size ≤ 1000 ∧ rows.length + f.size ≤ 1000 ∧
  ∀ H', CS K C H' c e r (thing f el rows).1.1 (thing f el rows).1.2 → Fr (SC c e r) H H' → Q (iv (thing f el rows).2) H'
abbrev sThing : Stmt := inClass clg 8
abbrev nThing : List Str := ["self", "formula", "word", "one", "other", "first"]
abbrev psThing : List Str := ["self", "formula"]
theorem scThing : FnScope nThing psThing (defScope sThing) := ⟨rfl, rfl, rfl, by decide +kernel, rfl, by decide +kernel, by decide +kernel⟩
theorem ok_thing {C : Addr} (D : Dm K C "thing_of" "Closing.thing_of" sThing psThing) (T : Bi mg) (L : Clg K C) (PL : Plc K w mg) (mR : Mt P w K mg base C "root" ["self", "thing"] 1 (spRoot K C)) (mT : Mt P w K mg base C "third" psTold 2 (spThird K C))
    (cN : Cl P w K mg base "is_name" psFm 1 (spIsName K)) : ∀ d0, Mt P w K mg base C "thing_of" psThing (d0 + 3) (spThing K C d0) := by
  intro d0
  induction d0 with
  | zero =>
    refine D.ok scThing (fun vs H Q E h => ?_) (fun f cdv A outer s H vs Q E hr h => ?_)
    · obtain ⟨_, _, _, _, _, _, _, _, h, _⟩ := h; omega
    · obtain ⟨_, _, _, _, _, _, _, _, h, _⟩ := h; omega
  | succ d0 mF =>
    refine D.ok scThing (fun vs H Q E h => ?_) (fun f cdv A outer s H vs Q E hr h => ?_)
    · obtain ⟨c, e, r, el, rows, v, f, rfl, _⟩ := h
      rfl
    · obtain ⟨c, e, r, el, rows, v, f, rfl, hd, hv, hc, G, hb, hel, hrl, k⟩ := h
      have hr1 : Room 1 _ := hr.mono (by omega)
      have hr2 : Room 2 _ := hr.mono (by omega)
      obtain ⟨pd, mgd, pk1, pk2⟩ := PL.ex
      refine ⟨_, pss_cons (ps_if (pt_val (pe_cl cN hr1 (pa_cons (pv 1) pa_nil))) (pss_one (ps_ret (pe_mt mR L.cl hr1 (pv 0) (pa_cons (pv 1) pa_nil)))) pss_nil) (pss_cons (ps_asg (pv 1) (pg_tup (by rfl) (pgs_cons (pg_name (i := 2) scThing.nd rfl (Or.inl rfl)) (pgs_cons (pg_name (i := 3) scThing.nd rfl (Or.inl rfl)) (pgs_cons (pg_name (i := 4) scThing.nd rfl (Or.inl rfl)) pgs_nil))))) (pss_cons (ps_set (i := 5) scThing.nd rfl (Or.inl rfl) (pe_mt mF L.cl hr (pv 0) (pa_cons (pv 3) pa_nil))) (pss_one (ps_ret (pe_mt mT L.cl hr2 (pv 0) (pa_cons (pe_ix ix_kdict (pe_glob (v := .ref pd) rfl mgd rfl) (pv 2) (fun _ _ => rfl)) (pa_cons (pv 5) (pa_cons (pe_mt mF L.cl hr (pv 0) (pa_cons (pv 4) pa_nil)) pa_nil)))))))), ?_⟩
      obtain ⟨⟨dx, h1⟩, _⟩ := id hc
      have nor : ∀ e r, (flds e r).lookup ("root" : Str) = none := fun e r => flds_no _ _ (by decide +kernel) (by decide +kernel)
      have not : ∀ e r, (flds e r).lookup ("thing_of" : Str) = none := fun e r => flds_no _ _ (by decide +kernel) (by decide +kernel)
      have no3 : ∀ e r, (flds e r).lookup ("third" : Str) = none := fun e r => flds_no _ _ (by decide +kernel) (by decide +kernel)
      refine ⟨_, rfl, v, f, rfl, hv, _, rfl, ?_⟩
      cases f with
      | nm n =>
        have := hv.int_inv; subst this
        refine iteT ?_
        exact ⟨_, rfl, c, dx, _, rfl, h1, nor _ _, _, rfl, c, e, r, el, rows, n, rfl, hc, G.F, hb, k H hc (Fr.refl _ _)⟩
      | ap u fa fb =>
        refine iteF ?_
        obtain ⟨p, va, vb, rfl, ht, ha, hb'⟩ := fm_parts hv
        simp only [Fm.depth] at hd
        simp only [Fm.size] at hel hrl
        refine ⟨_, rfl, p, _, rfl, ht.sq, rfl, _, _, rfl, _, _, rfl, _, _, rfl, rfl, ?_⟩
        have A1 := thing_ok fa el rows G hb.1
        have l1 := thing_rlen fa el rows
        refine ⟨_, rfl, c, dx, _, rfl, h1, not _ _, _, rfl, c, e, r, el, rows, va, fa, rfl, by omega, ha, hc, G, hb.1, by omega, by omega, fun H2 c2 f2 => ?_⟩
        obtain ⟨pv, kv1, kv2⟩ := pk2 u
        obtain ⟨⟨dx2, h2⟩, _⟩ := id c2
        have A2 := thing_ok fb _ _ A1.good (Fm.bel_mono A1.ext.le hb.2)
        have l2 := thing_rlen fb (thing fa el rows).1.1 (thing fa el rows).1.2
        have z1 := A1.len
        have z2 := A2.len
        refine ⟨_, rfl, c, dx2, _, rfl, h2, no3 _ _, _, rfl, pd, wS u, pv, rfl, rfl, kv1, _, rfl, ?_⟩
        refine ⟨_, rfl, c, dx2, _, rfl, h2, not _ _, _, rfl, c, e, r, _, _, vb, fb, rfl, by omega, hb'.fr f2, c2, A1.good, Fm.bel_mono A1.ext.le hb.2, by omega, by omega, fun H3 c3 f3 => ?_⟩
        refine ⟨c, e, r, _, _, pv, u, _, _, rfl, c3, kv2 _, by omega, by omega, fun H4 c4 f4 => ?_⟩
        exact k H4 c4 ((f2.trans f3).trans f4)
end
end K12
set_option linter.all false
set_option maxRecDepth 100000
set_option maxHeartbeats 1600000
/-! K12w23: plain forms, one step. -/
namespace K12
open PySem PySem.Spec PyProof.Rows L2
def OD (K : PySem.W.Frag) (H : Hp) (v : V) : Option Fm → Prop | none => v = .non | some g => DT K H v (fmD g)
theorem OD.fr {K : PySem.W.Frag} {S : Addr → Prop} {H H' : Hp} {v : V} {o : Option Fm} (h : OD K H v o) (f : Fr S H H') : OD K H' v o := by
  cases o with
  | none => exact h
  | some g => exact DT.fr f h
theorem DT.notNon {K : PySem.W.Frag} {H : Hp} {v : V} {g : Fm} (h : DT K H v (fmD g)) : v ≠ .non := by
  cases g with
  | nm n => rw [h.int_inv]; intro q; cases q
  | ap w a b => obtain ⟨p, _, _, rfl, _⟩ := fm_parts h; intro q; cases q
/-- a made formula of this word -/
def made (u : W) : Fm → Bool | .nm _ => false | .ap v _ _ => decide (v = u)
/-- .. whose j-th part is y -/
def mt2 (u : W) (j : Nat) (y : Fm) : Fm → Bool | .nm _ => false | .ap v c d => decide (v = u) && decide ((if j = 1 then c else d) = y)
section
variable {P : Program} {w : World} {K : PySem.W.Frag} {mg : Str → Option Value} {base : Heap}
/-! ### is_made -/
def spMade (K : PySem.W.Frag) : Sp := fun vs H Q _ => ∃ (v : V) (f : Fm) (u : W), vs = [v, .str (wS u)] ∧ DT K H v (fmD f) ∧ Q (.bl (made u f)) H
abbrev sMade : Stmt := top 42
abbrev psMade : List Str := ["formula", "word"]
theorem scMade : FnScope psMade psMade (defScope sMade) := ⟨rfl, rfl, rfl, by decide +kernel, rfl, by decide +kernel, by decide +kernel⟩
theorem str_dec {a b : W} : decide (V.str (wS a) = V.str (wS b)) = decide (a = b) := by
  by_cases h : a = b
  · subst h; simp
  · rw [decide_eq_false h, decide_eq_false fun q => h (wS_inj (V.str.inj q))]
theorem ok_made (D : Df K mg "is_made" sMade psMade) (T : Bi mg) (cN : Cl P w K mg base "is_name" psFm 1 (spIsName K)) : Cl P w K mg base "is_made" psMade 2 (spMade K) := by
  refine D.ok scMade (fun vs H Q E h => ?_) (fun f cdv A outer s H vs Q E hr h => ?_)
  · obtain ⟨v, f, u, rfl, _⟩ := h
    rfl
  · obtain ⟨v, f, u, rfl, hv, k⟩ := h
    refine ⟨_, pss_one (ps_ret (pe_and (pe_not (pe_cl cN hr (pa_cons (pv 0) pa_nil))) (pe_one (pe_cmpR op_eq (pe_ix ix_tup (pv 0) pe_int (fun _ _ => rfl)) (pv 1) (nomark _))))), ?_⟩
    refine ⟨_, rfl, v, f, rfl, hv, _, rfl, ?_⟩
    cases f with
    | nm n => exact ⟨_, rfl, iteF k⟩
    | ap x a b =>
      obtain ⟨p, va, vb, rfl, ht, ha, hb⟩ := fm_parts hv
      refine ⟨_, rfl, iteT ?_⟩
      refine ⟨_, rfl, p, _, _, _, rfl, rfl, ht.sq, atI_nat (j := 0) rfl, _, rfl, rfl, ?_⟩
      show Q (.bl (decide (V.str (wS x) = V.str (wS u)))) H
      rw [str_dec]; exact k
/-- the test that a formula is made by a word and its j-th part is another one -/
theorem made_test {σ : L2.St} {H : Hp} {Q : Bool → Hp → Prop} {i k j : Nat} {u : W} {x y : Fm} {vx vy : V} (hi : σ[i]? = some (some vx)) (hk : σ[k]? = some (some vy)) (hx : DT K H vx (fmD x)) (hy : DT K H vy (fmD y)) (hj : j = 1 ∨ j = 2) (dx : x.depth ≤ 60) (dy : y.depth ≤ 60)
    (q : Q (mt2 u j y x) H) : tAnd (tB (tCall (spMade K) [] E0 (tCons (tVar i) (tCons (tC (.str (wS u))) tNil)))) (tTest (tOp (rEqD K) (tOp (rIxT K) (tVar i) (tC (.int (j : Nat)))) (tVar k))) σ H Q := by
  refine ⟨_, hi, vx, x, u, rfl, hx, _, rfl, ?_⟩
  cases x with
  | nm n => exact iteF q
  | ap v c d =>
    by_cases hv : v = u
    · subst hv
      rw [show made v (.ap v c d) = true from decide_eq_true rfl]
      refine iteT ?_
      obtain ⟨p, va, vb, rfl, ht, ha, hb⟩ := fm_parts hx
      simp only [Fm.depth] at dx
      rcases hj with rfl | rfl
      · refine ⟨_, hi, p, _, _, _, rfl, rfl, ht.sq, atI_nat (j := 1) rfl, _, hk, _, _, ha.dp, hy.dp, shaped_fm _ (by omega), shaped_fm _ dy, _, rfl, ?_⟩
        rw [eqv_fm]
        simpa [mt2] using q
      · refine ⟨_, hi, p, _, _, _, rfl, rfl, ht.sq, atI_nat (j := 2) rfl, _, hk, _, _, hb.dp, hy.dp, shaped_fm _ (by omega), shaped_fm _ dy, _, rfl, ?_⟩
        rw [eqv_fm]
        simpa [mt2] using q
    · rw [show made u (.ap v c d) = false from decide_eq_false hv]
      refine iteF ?_
      have : mt2 u j y (.ap v c d) = false := by simp [mt2, hv]
      rwa [this] at q
/-- a part of it -/
theorem part_of {x : Fm} {u : W} {j : Nat} {y : Fm} (h : mt2 u j y x = true) : ∃ c d, x = .ap u c d ∧ (if j = 1 then c else d) = y := by
  cases x with
  | nm n => cases h
  | ap v c d =>
    simp [mt2] at h
    obtain ⟨h1, h2⟩ := h
    subst h1
    exact ⟨c, d, rfl, h2⟩
/-! ### rule_told -/
def spRule (K : PySem.W.Frag) : Sp := fun vs H Q _ => ∃ (v : V) (u : W) (a b : Fm), vs = [v] ∧ DT K H v (fmD (.ap u a b)) ∧ a.depth ≤ 60 ∧ b.depth ≤ 60 ∧ ∀ v', OD K H v' (ruleTold u a b) → Q v' H
abbrev sRule : Stmt := top 43
abbrev nRule : List Str := ["formula", "word", "one", "other"]
theorem scRule : FnScope nRule psFm (defScope sRule) := ⟨rfl, rfl, rfl, by decide +kernel, rfl, by decide +kernel, by decide +kernel⟩
theorem rule_B {u : W} {a b : Fm} {x : Fm} (h : ruleB u a b = some x) : ruleTold u a b = some x := by unfold ruleTold; rw [h]
theorem rule_A {u : W} {a b : Fm} (h : ruleB u a b = none) : ruleTold u a b = ruleA u b a := by unfold ruleTold; rw [h]
theorem B_wi (a b : Fm) : (∃ d, b = .ap .be a d ∧ ruleB .wi a b = some d) ∨ (mt2 .be 1 a b = false ∧ ruleB .wi a b = none) := by
  cases b with
  | nm n => exact .inr ⟨rfl, rfl⟩
  | ap v c d => cases v <;> by_cases h : c = a <;> simp [mt2, ruleB, h]
theorem A_wi (a b : Fm) : (∃ d, a = .ap .ah b d ∧ ruleA .wi b a = some d) ∨ (mt2 .ah 1 b a = false ∧ ruleA .wi b a = none) := by
  cases a with
  | nm n => exact .inr ⟨rfl, rfl⟩
  | ap v c d => cases v <;> by_cases h : c = b <;> simp [mt2, ruleA, h]
theorem B_be (a b : Fm) : (∃ d, b = .ap .wi a d ∧ ruleB .be a b = some d) ∨ (mt2 .wi 1 a b = false ∧ ruleB .be a b = none) := by
  cases b with
  | nm n => exact .inr ⟨rfl, rfl⟩
  | ap v c d => cases v <;> by_cases h : c = a <;> simp [mt2, ruleB, h]
theorem A_be (a b : Fm) : (∃ c, a = .ap .ah c b ∧ ruleA .be b a = some c) ∨ (mt2 .ah 2 b a = false ∧ ruleA .be b a = none) := by
  cases a with
  | nm n => exact .inr ⟨rfl, rfl⟩
  | ap v c d => cases v <;> by_cases h : d = b <;> simp [mt2, ruleA, h]
theorem B_ah (a b : Fm) : (∃ c, b = .ap .wi c a ∧ ruleB .ah a b = some c) ∨ (mt2 .wi 2 a b = false ∧ ruleB .ah a b = none) := by
  cases b with
  | nm n => exact .inr ⟨rfl, rfl⟩
  | ap v c d => cases v <;> by_cases h : d = a <;> simp [mt2, ruleB, h]
theorem A_ah (a b : Fm) : (∃ c, a = .ap .be c b ∧ ruleA .ah b a = some c) ∨ (mt2 .be 2 b a = false ∧ ruleA .ah b a = none) := by
  cases a with
  | nm n => exact .inr ⟨rfl, rfl⟩
  | ap v c d => cases v <;> by_cases h : d = b <;> simp [mt2, ruleA, h]
theorem mt2_true {u : W} {c d : Fm} : mt2 u 1 c (.ap u c d) = true ∧ mt2 u 2 d (.ap u c d) = true := by simp [mt2]
theorem ok_rule (D : Df K mg "rule_told" sRule psFm) (T : Bi mg) (cM : Cl P w K mg base "is_made" psMade 2 (spMade K)) : Cl P w K mg base "rule_told" psFm 3 (spRule K) := by
  refine D.ok scRule (fun vs H Q E h => ?_) (fun f cdv A outer s H vs Q E hr h => ?_)
  · obtain ⟨v, u, a, b, rfl, _⟩ := h
    rfl
  · obtain ⟨v, u, a, b, rfl, hv, da, db, k⟩ := h
    refine ⟨_, pss_cons (ps_asg (pv 0) (pg_tup (by rfl) (pgs_cons (pg_name (i := 1) scRule.nd rfl (Or.inl rfl)) (pgs_cons (pg_name (i := 2) scRule.nd rfl (Or.inl rfl)) (pgs_cons (pg_name (i := 3) scRule.nd rfl (Or.inl rfl)) pgs_nil))))) (pss_cons (ps_if (pt_cmpR op_eq (pv 1) pe_str (nomark _)) (pss_cons (ps_if (PW.pt (pw_and (pt_val (pe_cl cM hr (pa_cons (pv 3) (pa_cons pe_str pa_nil)))) (pw_and1 (pt_cmpR (op_eqD hr.units) (pe_ix ix_tup (pv 3) pe_int (fun _ _ => rfl)) (pv 2) (nomark _))))) (pss_one (ps_ret (pe_ix ix_tup (pv 3) pe_int (fun _ _ => rfl)))) pss_nil) (pss_one (ps_ret (pe_ifExp (PW.pt (pw_and (pt_val (pe_cl cM hr (pa_cons (pv 2) (pa_cons pe_str pa_nil)))) (pw_and1 (pt_cmpR (op_eqD hr.units) (pe_ix ix_tup (pv 2) pe_int (fun _ _ => rfl)) (pv 3) (nomark _))))) (pe_ix ix_tup (pv 2) pe_int (fun _ _ => rfl)) pe_non)))) pss_nil) (pss_cons (ps_if (pt_cmpR op_eq (pv 1) pe_str (nomark _)) (pss_cons (ps_if (PW.pt (pw_and (pt_val (pe_cl cM hr (pa_cons (pv 3) (pa_cons pe_str pa_nil)))) (pw_and1 (pt_cmpR (op_eqD hr.units) (pe_ix ix_tup (pv 3) pe_int (fun _ _ => rfl)) (pv 2) (nomark _))))) (pss_one (ps_ret (pe_ix ix_tup (pv 3) pe_int (fun _ _ => rfl)))) pss_nil) (pss_one (ps_ret (pe_ifExp (PW.pt (pw_and (pt_val (pe_cl cM hr (pa_cons (pv 2) (pa_cons pe_str pa_nil)))) (pw_and1 (pt_cmpR (op_eqD hr.units) (pe_ix ix_tup (pv 2) pe_int (fun _ _ => rfl)) (pv 3) (nomark _))))) (pe_ix ix_tup (pv 2) pe_int (fun _ _ => rfl)) pe_non)))) pss_nil) (pss_cons (ps_if (PW.pt (pw_and (pt_val (pe_cl cM hr (pa_cons (pv 3) (pa_cons pe_str pa_nil)))) (pw_and1 (pt_cmpR (op_eqD hr.units) (pe_ix ix_tup (pv 3) pe_int (fun _ _ => rfl)) (pv 2) (nomark _))))) (pss_one (ps_ret (pe_ix ix_tup (pv 3) pe_int (fun _ _ => rfl)))) pss_nil) (pss_one (ps_ret (pe_ifExp (PW.pt (pw_and (pt_val (pe_cl cM hr (pa_cons (pv 2) (pa_cons pe_str pa_nil)))) (pw_and1 (pt_cmpR (op_eqD hr.units) (pe_ix ix_tup (pv 2) pe_int (fun _ _ => rfl)) (pv 3) (nomark _))))) (pe_ix ix_tup (pv 2) pe_int (fun _ _ => rfl)) pe_non)))))), ?_⟩
    obtain ⟨p, va, vb, rfl, ht, ha, hb⟩ := fm_parts hv
    refine ⟨_, rfl, p, _, rfl, ht.sq, rfl, _, _, rfl, _, _, rfl, _, _, rfl, rfl, ?_⟩
    refine ⟨_, rfl, rfl, _, rfl, ?_⟩
    cases u with
    | wi =>
      refine iteT ?_
      refine made_test (i := 3) (k := 2) (j := 1) (u := .be) rfl rfl hb ha (.inl rfl) db da ?_
      rcases B_wi a b with ⟨d, rfl, e1⟩ | ⟨e1, e2⟩
      · rw [mt2_true.1]
        refine iteT ?_
        obtain ⟨q, v1, v2, rfl, tq, h1, h2⟩ := fm_parts hb
        refine ⟨_, rfl, q, _, _, _, rfl, rfl, tq.sq, atI_nat (j := 2) rfl, k _ ?_⟩
        rw [rule_B e1]; exact h2
      · rw [e1]
        refine iteF ?_
        rw [rule_A e2] at k
        refine made_test (i := 2) (k := 3) (j := 1) (u := .ah) rfl rfl ha hb (.inl rfl) da db ?_
        rcases A_wi a b with ⟨d, rfl, e3⟩ | ⟨e3, e4⟩
        · rw [mt2_true.1]
          refine iteT ?_
          obtain ⟨q, v1, v2, rfl, tq, h1, h2⟩ := fm_parts ha
          refine ⟨_, rfl, q, _, _, _, rfl, rfl, tq.sq, atI_nat (j := 2) rfl, k _ ?_⟩
          rw [e3]; exact h2
        · rw [e3]
          refine iteF (k _ ?_)
          rw [e4]; rfl
    | be =>
      refine iteF ?_
      refine ⟨_, rfl, rfl, _, rfl, iteT ?_⟩
      refine made_test (i := 3) (k := 2) (j := 1) (u := .wi) rfl rfl hb ha (.inl rfl) db da ?_
      rcases B_be a b with ⟨d, rfl, e1⟩ | ⟨e1, e2⟩
      · rw [mt2_true.1]
        refine iteT ?_
        obtain ⟨q, v1, v2, rfl, tq, h1, h2⟩ := fm_parts hb
        refine ⟨_, rfl, q, _, _, _, rfl, rfl, tq.sq, atI_nat (j := 2) rfl, k _ ?_⟩
        rw [rule_B e1]; exact h2
      · rw [e1]
        refine iteF ?_
        rw [rule_A e2] at k
        refine made_test (i := 2) (k := 3) (j := 2) (u := .ah) rfl rfl ha hb (.inr rfl) da db ?_
        rcases A_be a b with ⟨d, rfl, e3⟩ | ⟨e3, e4⟩
        · rw [mt2_true.2]
          refine iteT ?_
          obtain ⟨q, v1, v2, rfl, tq, h1, h2⟩ := fm_parts ha
          refine ⟨_, rfl, q, _, _, _, rfl, rfl, tq.sq, atI_nat (j := 1) rfl, k _ ?_⟩
          rw [e3]; exact h1
        · rw [e3]
          refine iteF (k _ ?_)
          rw [e4]; rfl
    | ah =>
      refine iteF ?_
      refine ⟨_, rfl, rfl, _, rfl, iteF ?_⟩
      refine made_test (i := 3) (k := 2) (j := 2) (u := .wi) rfl rfl hb ha (.inr rfl) db da ?_
      rcases B_ah a b with ⟨d, rfl, e1⟩ | ⟨e1, e2⟩
      · rw [mt2_true.2]
        refine iteT ?_
        obtain ⟨q, v1, v2, rfl, tq, h1, h2⟩ := fm_parts hb
        refine ⟨_, rfl, q, _, _, _, rfl, rfl, tq.sq, atI_nat (j := 1) rfl, k _ ?_⟩
        rw [rule_B e1]; exact h1
      · rw [e1]
        refine iteF ?_
        rw [rule_A e2] at k
        refine made_test (i := 2) (k := 3) (j := 2) (u := .be) rfl rfl ha hb (.inr rfl) da db ?_
        rcases A_ah a b with ⟨d, rfl, e3⟩ | ⟨e3, e4⟩
        · rw [mt2_true.2]
          refine iteT ?_
          obtain ⟨q, v1, v2, rfl, tq, h1, h2⟩ := fm_parts ha
          refine ⟨_, rfl, q, _, _, _, rfl, rfl, tq.sq, atI_nat (j := 1) rfl, k _ ?_⟩
          rw [e3]; exact h1
        · rw [e3]
          refine iteF (k _ ?_)
          rw [e4]; rfl
/-! ### entry_told -/
def spEntry (K : PySem.W.Frag) (C : Addr) : Sp := fun vs H Q _ => ∃ (c e r : Addr) (el : List Nat) (rows : List T3) (v : V) (u : W) (a b : Fm), vs = [.ref c, v] ∧ CS K C H c e r el rows ∧ Forest el ∧ DT K H v (fmD (.ap u a b)) ∧ Fm.bel el.length (.ap u a b) ∧ Q (optV (entryTold el rows u a b)) H
abbrev sEntry : Stmt := top 41
abbrev psCF : List Str := ["closing", "formula"]
abbrev nEntry : List Str := ["closing", "formula", "word", "one", "other"]
theorem scEntry : FnScope nEntry psCF (defScope sEntry) := ⟨rfl, rfl, rfl, by decide +kernel, rfl, by decide +kernel, by decide +kernel⟩
theorem ok_entry {C : Addr} (D : Df K mg "entry_told" sEntry psCF) (T : Bi mg) (L : Clg K C) (PL : Plc K w mg) (mR : Mt P w K mg base C "root" ["self", "thing"] 1 (spRoot K C)) (mT : Mt P w K mg base C "told" psTold 1 (spTold K C)) (cN : Cl P w K mg base "is_name" psFm 1 (spIsName K)) :
    Cl P w K mg base "entry_told" psCF 2 (spEntry K C) := by
  refine D.ok scEntry (fun vs H Q E h => ?_) (fun f cdv A outer s H vs Q E hr h => ?_)
  · obtain ⟨c, e, r, el, rows, v, u, a, b, rfl, _⟩ := h
    rfl
  · obtain ⟨c, e, r, el, rows, v, u, a, b, rfl, hc, F, hv, hbel, k⟩ := h
    obtain ⟨pd, mgd, pk1, pk2⟩ := PL.ex
    refine ⟨_, pss_cons (ps_asg (pv 1) (pg_tup (by rfl) (pgs_cons (pg_name (i := 2) scEntry.nd rfl (Or.inl rfl)) (pgs_cons (pg_name (i := 3) scEntry.nd rfl (Or.inl rfl)) (pgs_cons (pg_name (i := 4) scEntry.nd rfl (Or.inl rfl)) pgs_nil))))) (pss_cons (ps_if (PW.pt (pw_or (pt_not (pt_val (pe_cl cN hr (pa_cons (pv 3) pa_nil)))) (pw_or1 (pt_not (pt_val (pe_cl cN hr (pa_cons (pv 4) pa_nil))))))) (pss_one (ps_ret pe_non)) pss_nil) (pss_one (ps_ret (pe_mt mT L.cl hr (pv 0) (pa_cons (pe_ix ix_kdict (pe_glob (v := .ref pd) rfl mgd rfl) (pv 2) (fun _ _ => rfl)) (pa_cons (pe_mt mR L.cl hr (pv 0) (pa_cons (pv 3) pa_nil)) (pa_cons (pe_mt mR L.cl hr (pv 0) (pa_cons (pv 4) pa_nil)) pa_nil))))))), ?_⟩
    obtain ⟨p, va, vb, rfl, ht, ha, hb⟩ := fm_parts hv
    obtain ⟨⟨dx, h1⟩, _⟩ := id hc
    have nor : (flds e r).lookup ("root" : Str) = none := flds_no _ _ (by decide +kernel) (by decide +kernel)
    have not : (flds e r).lookup ("told" : Str) = none := flds_no _ _ (by decide +kernel) (by decide +kernel)
    refine ⟨_, rfl, p, _, rfl, ht.sq, rfl, _, _, rfl, _, _, rfl, _, _, rfl, rfl, ?_⟩
    refine ⟨_, rfl, va, a, rfl, ha, _, rfl, ?_⟩
    cases a with
    | ap ua a1 a2 => exact iteT (iteT k)
    | nm na =>
      refine iteF ?_
      refine ⟨_, rfl, vb, b, rfl, hb, _, rfl, ?_⟩
      cases b with
      | ap ub b1 b2 => exact iteT k
      | nm nb =>
        refine iteF ?_
        have := ha.int_inv; subst this
        have := hb.int_inv; subst this
        obtain ⟨pv, kv1, kv2⟩ := pk2 u
        refine ⟨_, rfl, c, dx, _, rfl, h1, not, _, rfl, pd, wS u, pv, rfl, rfl, kv1, ?_⟩
        refine ⟨_, rfl, c, dx, _, rfl, h1, nor, _, rfl, c, e, r, el, rows, na, rfl, hc, F, hbel.1, ?_⟩
        refine ⟨_, rfl, c, dx, _, rfl, h1, nor, _, rfl, c, e, r, el, rows, nb, rfl, hc, F, hbel.2, ?_⟩
        exact ⟨c, e, r, el, rows, pv, u, _, _, rfl, hc, kv2 _, k⟩
/-! ### shorter -/
def spShorter (K : PySem.W.Frag) (C : Addr) : Sp := fun vs H Q _ => ∃ (c e r : Addr) (el : List Nat) (rows : List T3) (v : V) (f : Fm), vs = [.ref c, v] ∧ CS K C H c e r el rows ∧ Forest el ∧ DT K H v (fmD f) ∧ f.bel el.length ∧ f.depth ≤ 60 ∧ ∀ v', OD K H v' (shorter el rows f) → Q v' H
abbrev sShorter : Stmt := top 44
abbrev nShorter : List Str := ["closing", "formula", "found"]
theorem scShorter : FnScope nShorter psCF (defScope sShorter) := ⟨rfl, rfl, rfl, by decide +kernel, rfl, by decide +kernel, by decide +kernel⟩
theorem ok_shorter {C : Addr} (D : Df K mg "shorter" sShorter psCF) (T : Bi mg) (L : Clg K C) (mR : Mt P w K mg base C "root" ["self", "thing"] 1 (spRoot K C)) (cN : Cl P w K mg base "is_name" psFm 1 (spIsName K)) (cE : Cl P w K mg base "entry_told" psCF 2 (spEntry K C)) (cU : Cl P w K mg base "rule_told" psFm 3 (spRule K)) :
    Cl P w K mg base "shorter" psCF 4 (spShorter K C) := by
  refine D.ok scShorter (fun vs H Q E h => ?_) (fun f cdv A outer s H vs Q E hr h => ?_)
  · obtain ⟨c, e, r, el, rows, v, f, rfl, _⟩ := h
    rfl
  · obtain ⟨c, e, r, el, rows, v, f, rfl, hc, F, hv, hbel, hd, k⟩ := h
    have hr1 : Room 1 _ := hr.mono (by decide)
    have hr2 : Room 2 _ := hr.mono (by decide)
    refine ⟨_, pss_cons (ps_if (pt_val (pe_cl cN hr1 (pa_cons (pv 1) pa_nil))) (pss_one (ps_ret (pe_ifExp (pt_cmpR op_eq (pe_mt mR L.cl hr1 (pv 0) (pa_cons (pv 1) pa_nil)) (pv 1) (nomark _)) pe_non (pe_mt mR L.cl hr1 (pv 0) (pa_cons (pv 1) pa_nil))))) pss_nil) (pss_cons (ps_set (i := 2) scShorter.nd rfl (Or.inl rfl) (pe_cl cE hr2 (pa_cons (pv 0) (pa_cons (pv 1) pa_nil)))) (pss_one (ps_ret (pe_ifExp (pt_cmpR op_isN (pv 2) pe_non (nomark _)) (pe_cl cU hr (pa_cons (pv 1) pa_nil)) (pv 2))))), ?_⟩
    obtain ⟨⟨dx, h1⟩, _⟩ := id hc
    have nor : (flds e r).lookup ("root" : Str) = none := flds_no _ _ (by decide +kernel) (by decide +kernel)
    refine ⟨_, rfl, v, f, rfl, hv, _, rfl, ?_⟩
    cases f with
    | nm n =>
      have := hv.int_inv; subst this
      refine iteT ?_
      refine ⟨_, rfl, c, dx, _, rfl, h1, nor, _, rfl, c, e, r, el, rows, n, rfl, hc, F, hbel, _, rfl, rfl, _, rfl, ?_⟩
      by_cases hn : root el n = n
      · rw [ivT hn]
        refine iteT (k _ ?_)
        simp [shorter, hn, OD]
      · rw [ivF hn]
        refine iteF ⟨_, rfl, c, dx, _, rfl, h1, nor, _, rfl, c, e, r, el, rows, n, rfl, hc, F, hbel, k _ ?_⟩
        simp only [shorter, hn, if_false]
        exact .int _
    | ap u a b =>
      refine iteF ?_
      simp only [Fm.depth] at hd
      refine ⟨_, rfl, _, rfl, c, e, r, el, rows, v, u, a, b, rfl, hc, F, hv, hbel, ?_⟩
      cases ht : entryTold el rows u a b with
      | none =>
        refine ⟨_, rfl, rfl, _, rfl, iteT ?_⟩
        refine ⟨_, rfl, v, u, a, b, rfl, hv, by omega, by omega, fun v' h' => k v' ?_⟩
        simp only [shorter, topTold, ht]; exact h'
      | some t =>
        refine ⟨_, rfl, rfl, _, rfl, iteF ?_⟩
        refine ⟨_, rfl, k _ ?_⟩
        simp only [shorter, topTold, ht]; exact .int _
end
end K12
set_option linter.all false
set_option maxRecDepth 100000
set_option maxHeartbeats 1600000
/-! K12w24: first_step, steps, same. -/
namespace K12
open PySem PySem.Spec PyProof.Rows L2
theorem meas_size (e : List Nat) : ∀ f : Fm, meas e f ≤ 2 * f.size
  | .nm n => by unfold meas; split <;> simp [Fm.size]
  | .ap _ a b => by
    have h1 := meas_size e a
    have h2 := meas_size e b
    simp only [meas, Fm.size]; omega
section
variable {P : Program} {w : World} {K : PySem.W.Frag} {mg : Str → Option Value} {base : Heap}
def spFirst (K : PySem.W.Frag) (C : Addr) (d0 : Nat) : Sp := fun vs H Q _ => ∃ (c e r : Addr) (el : List Nat) (rows : List T3) (v : V) (f : Fm), vs = [.ref c, v] ∧ f.depth < d0 ∧ d0 ≤ 60 ∧ CS K C H c e r el rows ∧ Forest el ∧ DT K H v (fmD f) ∧ f.bel el.length ∧
  ∀ v' H', OD K H' v' (firstStep el rows f) → Fr S0 H H' → Q v' H'
abbrev sFirst : Stmt := top 45
abbrev nFirst : List Str := ["closing", "formula", "word", "one", "other", "found"]
theorem scFirst : FnScope nFirst psCF (defScope sFirst) := ⟨rfl, rfl, rfl, by decide +kernel, rfl, by decide +kernel, by decide +kernel⟩
theorem ok_first {C : Addr} (D : Df K mg "first_step" sFirst psCF) (T : Bi mg) (cN : Cl P w K mg base "is_name" psFm 1 (spIsName K)) (cS : Cl P w K mg base "shorter" psCF 4 (spShorter K C)) : ∀ d0, Cl P w K mg base "first_step" psCF (d0 + 5) (spFirst K C d0) := by
  intro d0
  induction d0 with
  | zero =>
    refine D.ok scFirst (fun vs H Q E h => ?_) (fun f cdv A outer s H vs Q E hr h => ?_)
    · obtain ⟨_, _, _, _, _, _, _, _, h, _⟩ := h; omega
    · obtain ⟨_, _, _, _, _, _, _, _, h, _⟩ := h; omega
  | succ d0 cF =>
    refine D.ok scFirst (fun vs H Q E h => ?_) (fun f cdv A outer s H vs Q E hr h => ?_)
    · obtain ⟨c, e, r, el, rows, v, f, rfl, _⟩ := h
      rfl
    · obtain ⟨c, e, r, el, rows, v, f, rfl, hd, h60, hc, F, hv, hbel, k⟩ := h
      have hr1 : Room 1 _ := hr.mono (by omega)
      have hr4 : Room 4 _ := hr.mono (by omega)
      refine ⟨_, pss_cons (ps_if (pt_not (pt_val (pe_cl cN hr1 (pa_cons (pv 1) pa_nil)))) (pss_cons (ps_asg (pv 1) (pg_tup (by rfl) (pgs_cons (pg_name (i := 2) scFirst.nd rfl (Or.inl rfl)) (pgs_cons (pg_name (i := 3) scFirst.nd rfl (Or.inl rfl)) (pgs_cons (pg_name (i := 4) scFirst.nd rfl (Or.inl rfl)) pgs_nil))))) (pss_cons (ps_set (i := 5) scFirst.nd rfl (Or.inl rfl) (pe_cl cF hr (pa_cons (pv 0) (pa_cons (pv 3) pa_nil)))) (pss_cons (ps_if (pt_cmpR op_notN (pv 5) pe_non (nomark _)) (pss_one (ps_ret (pe_tup (pa_cons (pv 2) (pa_cons (pv 5) (pa_cons (pv 4) pa_nil)))))) pss_nil) (pss_cons (ps_set (i := 5) scFirst.nd rfl (Or.inl rfl) (pe_cl cF hr (pa_cons (pv 0) (pa_cons (pv 4) pa_nil)))) (pss_one (ps_if (pt_cmpR op_notN (pv 5) pe_non (nomark _)) (pss_one (ps_ret (pe_tup (pa_cons (pv 2) (pa_cons (pv 3) (pa_cons (pv 5) pa_nil)))))) pss_nil)))))) pss_nil) (pss_one (ps_ret (pe_cl cS hr4 (pa_cons (pv 0) (pa_cons (pv 1) pa_nil))))), ?_⟩
      refine ⟨_, rfl, v, f, rfl, hv, _, rfl, ?_⟩
      cases f with
      | nm n =>
        refine iteF ?_
        exact ⟨_, rfl, _, rfl, c, e, r, el, rows, v, .nm n, rfl, hc, F, hv, hbel, by omega, fun v' h' => k v' H h' (Fr.refl _ _)⟩
      | ap u a b =>
        refine iteT ?_
        obtain ⟨p, va, vb, rfl, ht, ha, hb⟩ := fm_parts hv
        simp only [Fm.depth] at hd
        refine ⟨_, rfl, p, _, rfl, ht.sq, rfl, _, _, rfl, _, _, rfl, _, _, rfl, rfl, ?_⟩
        refine ⟨_, rfl, _, rfl, c, e, r, el, rows, va, a, rfl, by omega, by omega, hc, F, ha, hbel.1, fun v1 H1 o1 f1 => ?_⟩
        cases hs : firstStep el rows a with
        | some a' =>
          rw [hs] at o1
          have o1' : DT K H1 v1 (fmD a') := o1
          refine ⟨_, rfl, rfl, _, rfl, ?_⟩
          rw [show (!decide (v1 = V.non)) = true from by rw [decide_eq_false o1'.notNon]; rfl]
          refine iteT ?_
          refine ⟨_, rfl, _, rfl, _, rfl, by show 3 ≤ sizeLine; decide, fun t ht1 => ?_⟩
          have n2 : Fr S0 H1 (upd H1 t (.tup [.str (wS u), v1, vb])) := (Fr.refl _ _).new ht1
          refine k _ _ ?_ (f1.trans n2)
          simp only [firstStep, hs]
          exact .tup (.of upd_same) (.cons (.str _) (.cons (o1'.fr n2) (.one ((hb.fr f1).fr n2))))
        | none =>
          rw [hs] at o1
          have o1' : v1 = .non := o1
          subst o1'
          refine ⟨_, rfl, rfl, _, rfl, iteF ?_⟩
          have hc1 := hc.fr0 f1
          refine ⟨_, rfl, _, rfl, c, e, r, el, rows, vb, b, rfl, by omega, by omega, hc1, F, hb.fr f1, hbel.2, fun v2 H2 o2 f2 => ?_⟩
          have f12 := f1.trans f2
          cases hs2 : firstStep el rows b with
          | some b' =>
            rw [hs2] at o2
            have o2' : DT K H2 v2 (fmD b') := o2
            refine ⟨_, rfl, rfl, _, rfl, ?_⟩
            rw [show (!decide (v2 = V.non)) = true from by rw [decide_eq_false o2'.notNon]; rfl]
            refine iteT ?_
            refine ⟨_, rfl, _, rfl, _, rfl, by show 3 ≤ sizeLine; decide, fun t ht1 => ?_⟩
            have n2 : Fr S0 H2 (upd H2 t (.tup [.str (wS u), va, v2])) := (Fr.refl _ _).new ht1
            refine k _ _ ?_ (f12.trans n2)
            simp only [firstStep, hs, hs2]
            exact .tup (.of upd_same) (.cons (.str _) (.cons ((ha.fr f12).fr n2) (.one (o2'.fr n2))))
          | none =>
            rw [hs2] at o2
            have o2' : v2 = .non := o2
            subst o2'
            refine ⟨_, rfl, rfl, _, rfl, iteF ?_⟩
            refine ⟨_, rfl, _, rfl, c, e, r, el, rows, _, .ap u a b, rfl, hc.fr0 f12, F, hv.fr f12, hbel, by simp only [Fm.depth]; omega, fun v' h' => k v' H2 ?_ f12⟩
            simp only [firstStep, hs, hs2]; exact h'
/-! ### steps -/
def spSteps (K : PySem.W.Frag) (C : Addr) : Sp := fun vs H Q _ => ∃ (c e r : Addr) (el : List Nat) (rows : List T3) (v : V) (f : Fm), vs = [.ref c, v] ∧ f.depth < 5 ∧ f.size ≤ 100 ∧ CS K C H c e r el rows ∧ Good el rows ∧ DT K H v (fmD f) ∧ f.bel el.length ∧
  ∀ p xs last H', H p = none → H' p = some (.lst (xs ++ [last])) → DT K H' last (fmD (plainF el rows f)) → (plainF el rows f).depth < 5 → Fr S0 H H' → Q (.ref p) H'
abbrev sSteps : Stmt := top 46
abbrev nSteps : List Str := ["closing", "formula", "found", "after"]
theorem scSteps : FnScope nSteps psCF (defScope sSteps) := ⟨rfl, rfl, rfl, by decide +kernel, rfl, by decide +kernel, by decide +kernel⟩
theorem ok_steps {C : Addr} (D : Df K mg "steps" sSteps psCF) (T : Bi mg) (cF : Cl P w K mg base "first_step" psCF 10 (spFirst K C 5)) : Cl P w K mg base "steps" psCF 11 (spSteps K C) := by
  refine D.ok scSteps (fun vs H Q E h => ?_) (fun f cdv A outer s H vs Q E hr h => ?_)
  · obtain ⟨c, e, r, el, rows, v, f, rfl, _⟩ := h
    rfl
  · obtain ⟨c, e, r, el, rows, v, f, rfl, hd, hsz, hc, G, hv, hbel, k⟩ := h
    refine ⟨_, pss_cons (ps_set (i := 2) scSteps.nd rfl (Or.inl rfl) (pe_lst (pa_cons (pv 1) pa_nil))) (pss_cons (ps_set (i := 3) scSteps.nd rfl (Or.inl rfl) (pe_cl cF hr (pa_cons (pv 0) (pa_cons (pv 1) pa_nil)))) (pss_cons (ps_while PassesOwn.never (pt_cmpR op_notN (pv 3) pe_non (nomark _)) (pss_cons (ps_expr (pe_bm PySem.F.plainAttrs_list PySem.F.slot_list_append PySem.F.type_list_append mt_append (pv 2) (pa_cons (pv 3) pa_nil))) (pss_one (ps_set (i := 3) scSteps.nd rfl (Or.inl rfl) (pe_cl cF hr (pa_cons (pv 0) (pa_cons (pv 3) pa_nil))))))) (pss_one (ps_ret (pv 2))))), ?_⟩
    have hms := meas_size el f
    refine ⟨_, rfl, by show 1 ≤ sizeLine; decide, fun p hp => ?_⟩
    have n1 : Fr S0 H (upd H p (.lst [v])) := (Fr.refl _ _).new hp
    have ep : upd H p (.lst [v]) p = some (.lst ([] ++ [v])) := upd_same
    generalize upd H p (.lst [v]) = H1 at n1 ep
    refine ⟨_, rfl, _, rfl, c, e, r, el, rows, v, f, rfl, hd, by decide, hc.fr0 n1, G.F, hv.fr n1, hbel, fun va H2 o2 f2 => ?_⟩
    refine ⟨fun m σ H' => ∃ (g : Fm) (va last : V) (xs : List V), m = meas el g ∧ σ = [some (.ref c), some v, some (.ref p), some va] ∧ H' p = some (.lst (xs ++ [last])) ∧ DT K H' last (fmD g) ∧ OD K H' va (firstStep el rows g) ∧ plainF el rows g = plainF el rows f ∧ g.depth < 5 ∧ g.bel el.length ∧ xs.length + meas el g ≤ meas el f ∧ Fr S0 H H',
      ⟨_, f, va, v, [], rfl, rfl, f2.keep _ _ ep (fun z => z), (hv.fr n1).fr f2, o2, rfl, hd, hbel, by simp, n1.trans f2⟩, ?_⟩
    rintro m σ H3 ⟨g, vg, last, xs, rfl, rfl, e3, dl, og, hpl, hdg, hbg, hl, f3⟩
    refine ⟨_, rfl, rfl, _, rfl, ?_⟩
    cases hs : firstStep el rows g with
    | none =>
      rw [hs] at og
      have og' : vg = .non := og
      subst og'
      refine iteF ⟨_, rfl, k p xs last H3 hp e3 ?_ ?_ f3⟩
      · rw [← hpl, plainF_of_plain (firstStep_none hs)]; exact dl
      · rw [← hpl, plainF_of_plain (firstStep_none hs)]; exact hdg
    | some g' =>
      rw [hs] at og
      have og' : DT K H3 vg (fmD g') := og
      rw [show (!decide (vg = V.non)) = true from by rw [decide_eq_false og'.notNon]; rfl]
      obtain ⟨s1, s2⟩ := firstStep_some G.F G.rowsRt hs
      have s3 := firstStep_below G.R hbg hs
      have s4 := firstStep_depth hs
      refine iteT ⟨fun σ' H' => ∃ (va last : V) (xs : List V), σ' = [some (.ref c), some v, some (.ref p), some va] ∧ H' p = some (.lst (xs ++ [last])) ∧ DT K H' last (fmD g') ∧ OD K H' va (firstStep el rows g') ∧ xs.length + meas el g' ≤ meas el f ∧ Fr S0 H H', ?_, ?_⟩
      · rintro σ' H' ⟨va', last', xs', e1, e2, e3, e4, e5, e6⟩
        exact ⟨_, s2, g', va', last', xs', rfl, e1, e2, e3, e4, s1.trans hpl, by omega, s3, e5, e6⟩
      · refine ⟨_, rfl, .inl ⟨rfl, _, SqL.of e3⟩, _, rfl, p, _, _, rfl, rfl, e3, by rw [List.length_append]; exact sz (by simp; omega), ?_⟩
        have g4 : Fr (S1 p) H3 (upd H3 p (.lst ((xs ++ [last]) ++ [vg]))) := (Fr.refl _ _).set rfl (lst_ne_tup e3)
        have f4 : Fr S0 H (upd H3 p (.lst ((xs ++ [last]) ++ [vg]))) := f3.mut hp
        have c4 := hc.fr0 f4
        refine ⟨_, rfl, _, rfl, c, e, r, el, rows, vg, g', rfl, by omega, by decide, c4, G.F, og'.fr g4, s3, fun vb H5 o5 f5 => ?_⟩
        exact ⟨vb, vg, xs ++ [last], rfl, f5.keep _ _ upd_same (fun z => z), (og'.fr g4).fr f5, o5, by simp; omega, f4.trans f5⟩
/-! ### same -/
def spSame (K : PySem.W.Frag) : Sp := fun vs H Q _ => ∃ (vf va vb : V) (n : Nat) (es : List T3) (us : List (Nat × Nat)) (f g : Fm), vs = [vf, va, vb] ∧ DT K H vf (factsD n es us) ∧ FactsOk n es us ∧ NoClash n es us ∧ DT K H va (fmD f) ∧ DT K H vb (fmD g) ∧ f.bel n ∧ g.bel n ∧ f.depth < 5 ∧ g.depth < 5 ∧ f.size ≤ 100 ∧ g.size ≤ 100 ∧
  ∀ H', Fr S0 H H' → Q (.bl (decide (plainF (closeOf n es).1 (closeOf n es).2 f = plainF (closeOf n es).1 (closeOf n es).2 g))) H'
abbrev sSame : Stmt := top 47
abbrev psSame : List Str := ["facts", "one", "other"]
abbrev nSame : List Str := ["facts", "one", "other", "closing"]
theorem scSame : FnScope nSame psSame (defScope sSame) := ⟨rfl, rfl, rfl, by decide +kernel, rfl, by decide +kernel, by decide +kernel⟩
theorem ok_same {C : Addr} (D : Df K mg "same" sSame psSame) (T : Bi mg) (cC : Cl P w K mg base "closed" psF 9 (spOf K C)) (cS : Cl P w K mg base "steps" psCF 11 (spSteps K C)) : Cl P w K mg base "same" psSame 12 (spSame K) := by
  refine D.ok scSame (fun vs H Q E h => ?_) (fun f cdv A outer s H vs Q E hr h => ?_)
  · obtain ⟨vf, va, vb, n, es, us, f, g, rfl, _⟩ := h
    rfl
  · obtain ⟨vf, va, vb, n, es, us, f, g, rfl, hf, FO, NC, ha, hb, bf, bg, df, dg, zf, zg, k⟩ := h
    have hr9 : Room 9 _ := hr.mono (by decide)
    refine ⟨_, pss_cons (ps_set (i := 3) scSame.nd rfl (Or.inl rfl) (pe_cl cC hr9 (pa_cons (pv 0) pa_nil))) (pss_one (ps_ret (pe_cmpR (op_eqD hr.units) (pe_ix ix_list (pe_cl cS hr (pa_cons (pv 3) (pa_cons (pv 1) pa_nil))) (pe_un un_neg pe_int) (fun _ _ => rfl)) (pe_ix ix_list (pe_cl cS hr (pa_cons (pv 3) (pa_cons (pv 2) pa_nil))) (pe_un un_neg pe_int) (fun _ _ => rfl)) (nomark _)))), ?_⟩
    have G := closeOf_good FO.R
    have ln : (closeOf n es).1.length = n := closeOf_len FO.R
    refine ⟨_, rfl, vf, n, es, us, rfl, hf, FO, NC, fun c e r H1 hc he hr1 cs f1 => ?_⟩
    refine ⟨_, rfl, _, rfl, c, e, r, _, _, va, f, rfl, df, zf, cs, G, ha.fr f1, by rw [ln]; exact bf, fun p1 xs1 l1 H2 np1 e2 d2 dp2 f2 => ⟨1, rfl, p1, _, _, _, rfl, rfl, SqL.of e2, atI_last xs1 l1, ?_⟩⟩
    refine ⟨_, rfl, _, rfl, c, e, r, _, _, vb, g, rfl, dg, zg, cs.fr0 f2, G, (hb.fr f1).fr f2, by rw [ln]; exact bg, fun p2 xs2 l2 H3 np2 e3 d3 dp3 f3 => ⟨1, rfl, p2, _, _, _, rfl, rfl, SqL.of e3, atI_last xs2 l2, ?_⟩⟩
    refine ⟨_, _, (d2.fr f3).dp, d3.dp, shaped_fm _ (by omega), shaped_fm _ (by omega), ?_⟩
    rw [eqv_fm]
    exact k H3 ((f1.trans f2).trans f3)
end
end K12
set_option linter.all false
set_option maxRecDepth 100000
set_option maxHeartbeats 1600000
/-! K12w25: the world's checks. -/
namespace K12
open PySem PySem.Spec PyProof.Rows L2
section
variable {P : Program} {w : World} {K : PySem.W.Frag} {mg : Str → Option Value} {base : Heap}
/-! ### is_integer, is_tuple, are_things -/
def spInt : Sp := fun vs H Q _ => ∃ (x lo hi : Int), vs = [.int x, .int lo, .int hi] ∧ lo ≤ x ∧ x ≤ hi ∧ Q (.bl true) H
abbrev sInt : Stmt := top 9
abbrev psInt : List Str := ["value", "low", "high"]
theorem scInt : FnScope psInt psInt (defScope sInt) := ⟨rfl, rfl, rfl, by decide +kernel, rfl, by decide +kernel, by decide +kernel⟩
theorem ok_int (D : Df K mg "is_integer" sInt psInt) (T : Bi mg) : Cl P w K mg base "is_integer" psInt 1 spInt := by
  refine D.ok scInt (fun vs H Q E h => ?_) (fun f cdv A outer s H vs Q E hr h => ?_)
  · obtain ⟨x, lo, hi, rfl, _⟩ := h
    rfl
  · obtain ⟨x, lo, hi, rfl, h1, h2, k⟩ := h
    refine ⟨_, pss_one (ps_ret (pe_and (pe_callB call_isi (by rfl) T.isinstance PyProof.Rows.boot_isinstance (pa_cons (pv 0) (pa_cons (pe_bltn (v := .ty "int") (by rfl) T.int PyProof.Rows.boot_int rfl) pa_nil))) (pe_and (pe_not (pe_callB call_isi (by rfl) T.isinstance PyProof.Rows.boot_isinstance (pa_cons (pv 0) (pa_cons (pe_bltn (v := .ty "bool") (by rfl) T.bool PyProof.Rows.boot_bool rfl) pa_nil)))) (pe_one (pe_chain op_le op_le (pv 1) (pv 0) (pv 2)))))), ?_⟩
    refine ⟨_, rfl, _, _, _, _, true, rfl, .ty _, .base (.int _), kit_ty (r := true) (by decide +kernel), _, rfl, iteT ?_⟩
    refine ⟨_, rfl, _, _, _, _, false, rfl, .ty _, .base (.int _), kit_ty (r := false) (by decide +kernel), _, rfl, _, rfl, iteT ?_⟩
    refine ⟨_, rfl, _, rfl, _, _, rfl, rfl, _, rfl, ?_⟩
    rw [if_pos (decide_eq_true h1)]
    refine ⟨_, rfl, _, _, rfl, rfl, ?_⟩
    show Q (.bl (decide (x ≤ hi))) H
    rw [decide_eq_true h2]; exact k
def spTup (K : PySem.W.Frag) : Sp := fun vs H Q _ => ∃ (q : Addr) (xs : List V) (n : Nat), vs = [.ref q, iv n] ∧ Tp K H q xs ∧ xs.length = n ∧ Q (.bl true) H
abbrev sTup : Stmt := top 10
abbrev psTup : List Str := ["value", "many"]
theorem scTup : FnScope psTup psTup (defScope sTup) := ⟨rfl, rfl, rfl, by decide +kernel, rfl, by decide +kernel, by decide +kernel⟩
theorem ok_tup (D : Df K mg "is_tuple" sTup psTup) (T : Bi mg) : Cl P w K mg base "is_tuple" psTup 1 (spTup K) := by
  refine D.ok scTup (fun vs H Q E h => ?_) (fun f cdv A outer s H vs Q E hr h => ?_)
  · obtain ⟨q, xs, n, rfl, _⟩ := h
    rfl
  · obtain ⟨q, xs, n, rfl, ht, hl, k⟩ := h
    refine ⟨_, pss_one (ps_ret (pe_and (pe_callB call_isi (by rfl) T.isinstance PyProof.Rows.boot_isinstance (pa_cons (pv 0) (pa_cons (pe_bltn (v := .ty "tuple") (by rfl) T.tuple PyProof.Rows.boot_tuple rfl) pa_nil))) (pe_one (pe_cmpR op_eq (pe_callB call_len_seq (by rfl) T.len PySem.boot_len (pa_cons (pv 0) pa_nil)) (pv 1) (nomark _))))), ?_⟩
    refine ⟨_, rfl, _, _, _, _, true, rfl, .ty _, tp_ty ht, kit_ty (r := true) (by decide +kernel), _, rfl, iteT ?_⟩
    refine ⟨_, rfl, q, _, rfl, .inr ht.sq, _, rfl, rfl, ?_⟩
    show Q (.bl (decide (iv xs.length = iv n))) H
    rw [ivT hl]; exact k
def spThings2 (K : PySem.W.Frag) : Sp := fun vs H Q _ => ∃ (v : V) (ns : List Nat) (m n : Nat), vs = [v, iv m, iv n] ∧ DT K H v (rowD ns) ∧ ns.length = m ∧ m ≤ 1000 ∧ (∀ x ∈ ns, x < n) ∧ ∀ H', Fr S0 H H' → Q (.bl true) H'
abbrev sThings2 : Stmt := top 11
abbrev psThings2 : List Str := ["value", "many", "size"]
abbrev nThings2 : List Str := ["value", "many", "size", "item"]
theorem scThings2 : FnScope nThings2 psThings2 (defScope sThings2) := ⟨rfl, rfl, rfl, by decide +kernel, rfl, by decide +kernel, by decide +kernel⟩
theorem ok_things2 (D : Df K mg "are_things" sThings2 psThings2) (T : Bi mg) (cI : Cl P w K mg base "is_integer" psInt 1 spInt) (cT : Cl P w K mg base "is_tuple" psTup 1 (spTup K)) : Cl P w K mg base "are_things" psThings2 2 (spThings2 K) := by
  refine D.ok scThings2 (fun vs H Q E h => ?_) (fun f cdv A outer s H vs Q E hr h => ?_)
  · obtain ⟨v, ns, m, n, rfl, _⟩ := h
    rfl
  · obtain ⟨v, ns, m, n, rfl, hv, hl, hm, hx, k⟩ := h
    refine ⟨_, pss_one (ps_ret (pe_and (pe_cl cT hr (pa_cons (pv 0) (pa_cons (pv 1) pa_nil))) (pe_one (pe_callB (cr_all rfl) (by rfl) T.all (by decide +kernel) (pa_cons (pe_lc (own := [("item", 3)]) (g := gName 3) (tt := tYes) rfl scThings2.nd (pi_tup (pv 0)) (blkOk_by (N := nThings2) (sc := defScope sThings2) (by decide +kernel)) (fun _ _ _ _ _ => pg_name (i := 3) scThings2.nd rfl (Or.inl rfl)) (fun _ _ _ _ _ => pts_nil) (fun _ _ _ _ _ => pe_cl cI hr (pa_cons (pv 3) (pa_cons pe_int (pa_cons (pe_op op_sub (pv 2) pe_int) pa_nil))))) pa_nil))))), ?_⟩
    obtain ⟨q, rfl, tq⟩ := row_inv hv
    have ll : (ivs ns).length = ns.length := ivs_len ns
    refine ⟨_, rfl, _, rfl, q, ivs ns, m, rfl, tq, by rw [ll]; exact hl, _, rfl, iteT ?_⟩
    refine ⟨_, rfl, q, rfl, ⟨_, tq.sq⟩, fun d hd => lc_tup (K := K) (a := q) (xs := ivs ns) (fun i H' => Fr S0 H H' ∧ H' d = some (.lst ((List.replicate i true).map V.bl))) ?_ ?_ ?_ ?_⟩
    · exact ⟨(Fr.refl _ _).new hd, upd_same⟩
    · rintro i H' _ ⟨f1, _⟩
      exact (tq.fr f1).sq
    · rintro i x H' hx' ⟨f1, e1⟩
      obtain ⟨kk, ek, rfl⟩ := iv_at hx'
      have hk := hx kk (List.mem_of_getElem? ek)
      have hi : i < ns.length := (List.getElem?_eq_some_iff.mp ek).1
      refine ⟨rfl, ?_⟩
      dsimp only [tYes]
      refine iteT ?_
      refine ⟨_, rfl, _, rfl, _, _, rfl, rfl, (kk : Int), 0, (n : Int) - 1, rfl, by omega, by omega, ?_⟩
      refine ⟨_, e1, by rw [List.length_map, List.length_replicate]; exact sz (by omega), f1.mut hd, ?_⟩
      rw [upd_same, List.replicate_succ', List.map_append]; rfl
    · rintro H' ⟨f1, e1⟩
      refine ⟨d, List.replicate ns.length true, rfl, SqL.of (by rw [e1, ll]), ?_⟩
      have : (List.replicate ns.length true).any id = true ∨ ns.length = 0 := by
        cases ns.length with
        | zero => exact .inr rfl
        | succ n => exact .inl (by simp [List.replicate_succ])
      have e : (List.replicate ns.length true).all id = true := by simp
      rw [e]; exact k H' f1
end
end K12
set_option linter.all false
set_option maxRecDepth 100000
set_option maxHeartbeats 1600000
/-! K12w26: table_error, placing_error, world_error: none. -/
namespace K12
open PySem PySem.Spec PyProof.Rows L2
abbrev nzs (ns : List Nat) : List Int := ns.map fun x : Nat => (x : Int)
theorem ints_V (ns : List Nat) : (nzs ns).map V.int = ivs ns := by simp [nzs, ivs]
theorem ints_nd {ns : List Nat} (h : ns.Nodup) : (nzs ns).Nodup := by
  unfold nzs
  refine List.pairwise_map.mpr (List.Pairwise.imp (fun {a b} hab q => hab ?_) h)
  omega
theorem latin_col {N : Nat} {T : List (List Nat)} (L : Latin N T) {j : Nat} (hj : j < N) : (colOf T j).Nodup := by
  have lc : (colOf T j).length = N := by unfold colOf; rw [List.length_map, L.len]
  refine nodup_of_getD fun i i' hi hi' e => ?_
  rw [lc] at hi hi'
  have g : ∀ i, i < N → (colOf T j).getD i 0 = cell T i j := fun i hi => by
    rw [List.getD_eq_getElem?_getD, colOf_get T j (by rw [L.len]; exact hi)]; rfl
  rw [g i hi, g i' hi'] at e
  exact L.col i i' j hi hi' hj e
section
variable {P : Program} {w : World} {K : PySem.W.Frag} {mg : Str → Option Value} {base : Heap}
def spTErr (K : PySem.W.Frag) : Sp := fun vs H Q _ => ∃ (v : V) (N : Nat) (T : List (List Nat)), vs = [v] ∧ DT K H v (tabD T) ∧ Latin N T ∧ 0 < N ∧ N ≤ 60 ∧ ∀ H', Fr S0 H H' → Q .non H'
abbrev sTErr : Stmt := top 33
abbrev psTErr : List Str := ["value"]
abbrev nTErr : List Str := ["value", "number", "row"]
theorem scTErr : FnScope nTErr psTErr (defScope sTErr) := ⟨rfl, rfl, rfl, by decide +kernel, rfl, by decide +kernel, by decide +kernel⟩
theorem ok_terr (D : Df K mg "table_error" sTErr psTErr) (T : Bi mg) (cA : Cl P w K mg base "are_things" psThings2 2 (spThings2 K)) : Cl P w K mg base "table_error" psTErr 3 (spTErr K) := by
  refine D.ok scTErr (fun vs H Q E h => ?_) (fun f cdv A outer s H vs Q E hr h => ?_)
  · obtain ⟨v, N, T0, rfl, _⟩ := h
    rfl
  · obtain ⟨v, N, T0, rfl, ht, L, hN0, hN, k⟩ := h
    obtain ⟨tk, hmt⟩ := T.mt
    refine ⟨_, pss_cons (ps_if (PW.pt (pw_or (pt_not (pt_val (pe_callB call_isi (by rfl) T.isinstance PyProof.Rows.boot_isinstance (pa_cons (pv 0) (pa_cons (pe_bltn (v := .ty "tuple") (by rfl) T.tuple PyProof.Rows.boot_tuple rfl) pa_nil))))) (pw_or1 (pt_not (pt_chain op_le op_le pe_int (pe_callB call_len_seq (by rfl) T.len PySem.boot_len (pa_cons (pv 0) pa_nil)) (pe_glob (v := .int 60) rfl hmt ⟨_, rfl⟩)))))) (pss_one (ps_ret (pe_tup (pa_cons pe_non (pa_cons pe_str pa_nil))))) pss_nil) (pss_cons (ps_for PassesOwn.never rfl (pi_enumT (by rfl) T.enumerate (pa_cons (pv 0) pa_nil)) (pg_tup (by rfl) (pgs_cons (pg_name (i := 1) scTErr.nd rfl (Or.inr rfl)) (pgs_cons (pg_name (i := 2) scTErr.nd rfl (Or.inl rfl)) pgs_nil))) (pss_one (ps_if (PW.pt (pw_or (pt_not (pt_val (pe_cl cA hr (pa_cons (pv 2) (pa_cons (pe_callB call_len_seq (by rfl) T.len PySem.boot_len (pa_cons (pv 0) pa_nil)) (pa_cons (pe_callB call_len_seq (by rfl) T.len PySem.boot_len (pa_cons (pv 0) pa_nil)) pa_nil)))))) (pw_or1 (pt_cmpR op_lt (pe_lenSetA K rfl (by rfl) T.len (by rfl) T.set (pv 2)) (pe_callB call_len_seq (by rfl) T.len PySem.boot_len (pa_cons (pv 0) pa_nil)) (nomark _))))) (pss_one (ps_ret (pe_tup (pa_cons (pv 1) (pa_cons pe_str pa_nil))))) pss_nil))) (pss_cons (ps_for PassesOwn.never rfl (pi_range1 rfl T.range (pa_cons (pe_callB call_len_seq (by rfl) T.len PySem.boot_len (pa_cons (pv 0) pa_nil)) pa_nil)) (pg_name (i := 1) scTErr.nd rfl (Or.inr rfl)) (pss_one (ps_if (pt_cmpR op_lt (pe_lenSetA K rfl (by rfl) T.len (by rfl) T.set (pe_lc (own := [("row", 2)]) (g := gName 2) (tt := tYes) rfl scTErr.nd (pi_tup (pv 0)) (blkOk_by (N := nTErr) (sc := defScope sTErr) (by decide +kernel)) (fun _ _ _ _ _ => pg_name (i := 2) scTErr.nd rfl (Or.inl rfl)) (fun _ _ _ _ _ => pts_nil) (fun _ _ _ _ _ => pe_ix (ix_tupk K) (pv 2) (pv 1) (fun _ _ => rfl)))) (pe_callB call_len_seq (by rfl) T.len PySem.boot_len (pa_cons (pv 0) pa_nil)) (nomark _)) (pss_one (ps_ret (pe_tup (pa_cons (pv 1) (pa_cons pe_str pa_nil))))) pss_nil))) (pss_one (ps_ret pe_non)))), ?_⟩
    obtain ⟨pt, ts, rfl, tt, lt, ct⟩ := tab_inv ht
    have lts : ts.length = N := by rw [lt, L.len]
    refine ⟨_, rfl, _, _, _, _, true, rfl, .ty _, tp_ty tt, kit_ty (r := true) (by decide +kernel), _, rfl, iteF ?_⟩
    refine ⟨_, rfl, pt, _, rfl, .inr tt.sq, _, _, rfl, rfl, _, rfl, ?_⟩
    rw [if_pos (decide_eq_true (by rw [lts]; omega))]
    refine ⟨_, _, rfl, rfl, _, rfl, ?_⟩
    have e60 : decide (((ts.length : Nat) : Int) ≤ 60) = true := decide_eq_true (by rw [lts]; omega)
    rw [e60]
    refine iteF ?_
    refine ⟨_, rfl, pt, ts, rfl, tt.sq, for_it (walk_enumT (K := K) (a := pt) (xs := ts)) (fun i σ H' => (∃ v1 v2, σ = [some (.ref pt), v1, v2]) ∧ Fr S0 H H') ?_ ?_ ?_ ?_⟩
    · exact ⟨⟨none, none, rfl⟩, Fr.refl _ _⟩
    · rintro i σ H' _ ⟨_, f1⟩
      exact (tt.fr f1).sq
    · rintro i x σ H1 H2 hi ⟨⟨v1, v2, rfl⟩, f1⟩ ⟨tup, y1, y2, rfl, ht1, rfl, hy1, hy2⟩
      have hiN : i < N := by omega
      obtain ⟨rq, c1, c2⟩ := ct i (by rw [L.len]; exact hiN)
      cases Option.some.inj (c1.symm.trans hy2)
      obtain ⟨d1, d2, d3⟩ := L.rowOf hiN
      have n2 : Fr S0 H1 (upd H1 tup (.tup [y1, .ref rq])) := (Fr.refl _ _).new ht1
      have f12 := f1.trans n2
      refine ⟨tup, _, rfl, SqT.of upd_same, rfl, _, _, rfl, _, _, rfl, rfl, ?_⟩
      refine ⟨_, rfl, _, rfl, pt, _, rfl, .inr (tt.fr f12).sq, _, rfl, pt, _, rfl, .inr (tt.fr f12).sq, .ref rq, T0.getD i [], ts.length, ts.length, rfl, .tup (c2.fr f12) (dts_ivs _), by rw [lts]; exact d1, by omega, by rw [lts]; exact d3, fun H3 f3 => ⟨_, rfl, iteF ?_⟩⟩
      have f13 := f12.trans f3
      refine ⟨_, rfl, rq, nzs (T0.getD i []), rfl, by rw [List.length_map, d1]; omega, .inr ⟨by rw [ints_V]; exact (c2.fr f13).sq, ints_nd d2, ?_⟩⟩
      refine ⟨_, rfl, pt, _, rfl, .inr (tt.fr f13).sq, _, _, rfl, rfl, _, rfl, ?_⟩
      rw [decide_eq_false (by rw [List.length_map, d1, lts]; omega)]
      exact iteF ⟨⟨_, _, rfl⟩, f13⟩
    · rintro σ H1 ⟨⟨v1, v2, rfl⟩, f1⟩
      refine ⟨_, rfl, pt, _, rfl, .inr (tt.fr f1).sq, _, rfl, by rw [lts]; omega, by rw [lts]; omega, for_range (lo := 0) (n := (((ts.length : Nat) : Int)).toNat) (fun i σ H' => (∃ v1, σ = [some (.ref pt), v1, v2]) ∧ Fr S0 H H') ?_ ?_ ?_⟩
      · exact ⟨⟨_, rfl⟩, f1⟩
      · rintro i σ H2 hi ⟨⟨v1, rfl⟩, f2⟩
        have hiN : i < N := by omega
        have ee : ((0 : Int) + (i : Int)) = (i : Int) := by omega
        rw [ee]
        refine ⟨_, rfl, pt, rfl, ⟨_, (tt.fr f2).sq⟩, fun d hd => lc_tup (K := K) (a := pt) (xs := ts) (fun j H' => Fr S0 H2 H' ∧ H' d = some (.lst (ivs ((colOf T0 i).take j)))) ?_ ?_ ?_ ?_⟩
        · exact ⟨(Fr.refl _ _).new hd, upd_same⟩
        · rintro j H' _ ⟨f3, _⟩
          exact ((tt.fr f2).fr f3).sq
        · rintro j x H' hx ⟨f3, e3⟩
          have hj : j < N := by have := (List.getElem?_eq_some_iff.mp hx).1; omega
          obtain ⟨rq, c1, c2⟩ := ct j (by rw [L.len]; exact hj)
          rw [c1] at hx
          cases Option.some.inj hx
          obtain ⟨d1, d2, d3⟩ := L.rowOf hj
          have cg := colOf_get T0 i (i := j) (by rw [L.len]; exact hj)
          refine ⟨rfl, ?_⟩
          dsimp only [tYes]
          refine iteT ?_
          refine ⟨_, rfl, _, rfl, rq, _, _, _, rfl, rfl, (c2.fr (f2.trans f3)).sq, atI_nat (ivs_at (by rw [d1]; exact hiN)), ?_⟩
          refine ⟨_, e3, ?_, f3.mut hd, ?_⟩
          · rw [ivs_len, List.length_take]; exact sz (by omega)
          · rw [upd_same, List.take_succ, cg, ivs_app]; rfl
        · rintro H' ⟨f3, e3⟩
          have lc : (colOf T0 i).length = N := by unfold colOf; rw [List.length_map, L.len]
          rw [List.take_of_length_le (by rw [lc, lts]; exact Nat.le_refl _)] at e3
          refine ⟨d, nzs (colOf T0 i), rfl, by rw [List.length_map, lc]; omega, .inl ⟨by rw [ints_V]; exact SqL.of e3, ?_⟩⟩
          refine ⟨_, rfl, pt, _, rfl, .inr (tt.fr (f2.trans f3)).sq, _, _, rfl, rfl, _, rfl, ?_⟩
          rw [uniq_nodup (ints_nd (latin_col L hiN)), decide_eq_false (by rw [List.length_map, lc, lts]; omega)]
          exact iteF ⟨⟨_, rfl⟩, f2.trans f3⟩
      · rintro σ H2 ⟨_, f2⟩
        exact k H2 f2
/-! ### placing_error -/
def spPErr (K : PySem.W.Frag) : Sp := fun vs H Q _ => ∃ (vf vt vp : V) (n N : Nat) (es : List T3) (us : List (Nat × Nat)) (T : List (List Nat)) (th : List Nat), vs = [vf, vt, vp] ∧ DT K H vf (factsD n es us) ∧ DT K H vt (tabD T) ∧ DT K H vp (rowD th) ∧ FactsOk n es us ∧
  Wrld N n T th es ∧ (∀ p ∈ us, th.getD p.1 0 ≠ th.getD p.2 0) ∧ ∀ H', Fr S0 H H' → Q .non H'
abbrev sPErr : Stmt := top 36
abbrev psPErr : List Str := ["facts", "table", "things"]
abbrev nPErr : List Str := ["facts", "table", "things", "number", "one", "other", "out"]
theorem scPErr : FnScope nPErr psPErr (defScope sPErr) := ⟨rfl, rfl, rfl, by decide +kernel, rfl, by decide +kernel, by decide +kernel⟩
theorem ok_perr (D : Df K mg "placing_error" sPErr psPErr) (T : Bi mg) : Cl P w K mg base "placing_error" psPErr 1 (spPErr K) := by
  refine D.ok scPErr (fun vs H Q E h => ?_) (fun f cdv A outer s H vs Q E hr h => ?_)
  · obtain ⟨vf, vt, vp, n, N, es, us, T0, th, rfl, _⟩ := h
    rfl
  · obtain ⟨vf, vt, vp, n, N, es, us, T0, th, rfl, hf, ht, hp, FO, V, hu, k⟩ := h
    refine ⟨_, pss_cons (ps_for PassesOwn.never rfl (pi_enumT (by rfl) T.enumerate (pa_cons (pe_ix ix_tup (pv 0) pe_int (fun _ _ => rfl)) pa_nil)) (pg_tup (by rfl) (pgs_cons (pg_name (i := 3) scPErr.nd rfl (Or.inl rfl)) (pgs_cons (pg_tup (by rfl) (pgs_cons (pg_name (i := 4) scPErr.nd rfl (Or.inl rfl)) (pgs_cons (pg_name (i := 5) scPErr.nd rfl (Or.inl rfl)) (pgs_cons (pg_name (i := 6) scPErr.nd rfl (Or.inl rfl)) pgs_nil)))) pgs_nil))) (pss_one (ps_if (pt_cmpR op_ne (pe_ix ix_tup (pe_ix ix_tup (pv 1) (pe_ix ix_tup (pv 2) (pv 4) (fun _ _ => rfl)) (fun _ _ => rfl)) (pe_ix ix_tup (pv 2) (pv 5) (fun _ _ => rfl)) (fun _ _ => rfl)) (pe_ix ix_tup (pv 2) (pv 6) (fun _ _ => rfl)) (nomark _)) (pss_one (ps_ret (pe_tup (pa_cons (pv 3) (pa_cons pe_str pa_nil))))) pss_nil))) (pss_cons (ps_for PassesOwn.never rfl (pi_enumT (by rfl) T.enumerate (pa_cons (pe_ix ix_tup (pv 0) pe_int (fun _ _ => rfl)) pa_nil)) (pg_tup (by rfl) (pgs_cons (pg_name (i := 3) scPErr.nd rfl (Or.inl rfl)) (pgs_cons (pg_tup (by rfl) (pgs_cons (pg_name (i := 4) scPErr.nd rfl (Or.inl rfl)) (pgs_cons (pg_name (i := 5) scPErr.nd rfl (Or.inl rfl)) pgs_nil))) pgs_nil))) (pss_one (ps_if (pt_cmpR op_eq (pe_ix ix_tup (pv 2) (pv 4) (fun _ _ => rfl)) (pe_ix ix_tup (pv 2) (pv 5) (fun _ _ => rfl)) (nomark _)) (pss_one (ps_ret (pe_tup (pa_cons (pv 3) (pa_cons pe_str pa_nil))))) pss_nil))) (pss_one (ps_ret pe_non))), ?_⟩
    obtain ⟨pf, pe, pu, xs, ys, rfl, tf, te, re, tu, ru⟩ := facts_inv hf
    obtain ⟨pt, ts, rfl, tt, lt, ct⟩ := tab_inv ht
    obtain ⟨pq, rfl, tq⟩ := row_inv hp
    have lx : xs.length = es.length := by rw [re.len, List.length_map]
    have ly : ys.length = us.length := by rw [ru.len, List.length_map]
    have lth := V.len
    refine ⟨_, rfl, pf, _, 1, _, rfl, rfl, tf.sq, rfl, pe, xs, rfl, te.sq, for_it (walk_enumT (K := K) (a := pe) (xs := xs)) (fun i σ H' => (∃ v3 v4 v5 v6, σ = [some (.ref pf), some (.ref pt), some (.ref pq), v3, v4, v5, v6]) ∧ Fr S0 H H') ?_ ?_ ?_ ?_⟩
    · exact ⟨⟨none, none, none, none, rfl⟩, Fr.refl _ _⟩
    · rintro i σ H' _ ⟨_, f1⟩
      exact (te.fr f1).sq
    · rintro i x σ H1 H2 hi ⟨⟨v3, v4, v5, v6, rfl⟩, f1⟩ ⟨tup, y1, y2, rfl, ht1, rfl, hy1, hy2⟩
      have n2 : Fr S0 H1 (upd H1 tup (.tup [y1, y2])) := (Fr.refl _ _).new ht1
      have f2 := f1.trans n2
      obtain ⟨r, q, er, rfl, tr⟩ := t3_at (re.fr f2) hy2
      have hm := List.mem_of_getElem? er
      obtain ⟨R1, R2, R3⟩ := FO.R r hm
      have b1 := V.lt _ (getD_mem (l := th) (k := r.1) (by omega))
      have b2 := V.lt _ (getD_mem (l := th) (k := r.2.1) (by omega))
      obtain ⟨rq, c1, c2⟩ := ct _ (by rw [V.L.len]; exact b1)
      obtain ⟨d1, d2, d3⟩ := V.L.rowOf b1
      have tq2 := tq.fr f2
      refine ⟨tup, _, rfl, SqT.of upd_same, rfl, _, _, rfl, _, _, rfl, q, _, rfl, tr.sq, rfl, _, _, rfl, _, _, rfl, _, _, rfl, rfl, rfl, ?_⟩
      refine ⟨_, rfl, _, rfl, _, rfl, pq, _, _, _, rfl, rfl, tq2.sq, atI_nat (ivs_at (by omega)), pt, _, _, _, rfl, rfl, (tt.fr f2).sq, atI_nat c1, ?_⟩
      refine ⟨_, rfl, _, rfl, pq, _, _, _, rfl, rfl, tq2.sq, atI_nat (ivs_at (by omega)), rq, _, _, _, rfl, rfl, (c2.fr f2).sq, atI_nat (ivs_at (by rw [d1]; exact b2)), ?_⟩
      refine ⟨_, rfl, _, rfl, pq, _, _, _, rfl, rfl, tq2.sq, atI_nat (ivs_at (by omega)), rfl, _, rfl, ?_⟩
      have ed : (!decide (iv ((T0.getD (th.getD r.1 0) []).getD (th.getD r.2.1 0) 0) = iv (th.getD r.2.2 0))) = false := by
        rw [ivT (show (T0.getD (th.getD r.1 0) []).getD (th.getD r.2.1 0) 0 = th.getD r.2.2 0 from V.es r hm)]; rfl
      rw [ed]
      exact iteF ⟨⟨_, _, _, _, rfl⟩, f2⟩
    · rintro σ H1 ⟨⟨v3, v4, v5, v6, rfl⟩, f1⟩
      refine ⟨_, rfl, pf, _, 2, _, rfl, rfl, (tf.fr f1).sq, rfl, pu, ys, rfl, (tu.fr f1).sq, for_it (walk_enumT (K := K) (a := pu) (xs := ys)) (fun i σ H' => (∃ v3 v4 v5 v6, σ = [some (.ref pf), some (.ref pt), some (.ref pq), v3, v4, v5, v6]) ∧ Fr S0 H H') ?_ ?_ ?_ ?_⟩
      · exact ⟨⟨_, _, _, _, rfl⟩, f1⟩
      · rintro i σ H' _ ⟨_, f1⟩
        exact (tu.fr f1).sq
      · rintro i x σ H1 H2 hi ⟨⟨v3, v4, v5, v6, rfl⟩, f1⟩ ⟨tup, y1, y2, rfl, ht1, rfl, hy1, hy2⟩
        have n2 : Fr S0 H1 (upd H1 tup (.tup [y1, y2])) := (Fr.refl _ _).new ht1
        have f2 := f1.trans n2
        obtain ⟨r, q, er, rfl, tr⟩ := p2_at (ru.fr f2) hy2
        have hm := List.mem_of_getElem? er
        obtain ⟨R1, R2⟩ := FO.U r hm
        have tq2 := tq.fr f2
        refine ⟨tup, _, rfl, SqT.of upd_same, rfl, _, _, rfl, _, _, rfl, q, _, rfl, tr.sq, rfl, _, _, rfl, _, _, rfl, rfl, rfl, ?_⟩
        refine ⟨_, rfl, _, rfl, pq, _, _, _, rfl, rfl, tq2.sq, atI_nat (ivs_at (by omega)), ?_⟩
        refine ⟨_, rfl, _, rfl, pq, _, _, _, rfl, rfl, tq2.sq, atI_nat (ivs_at (by omega)), rfl, _, rfl, ?_⟩
        rw [ivF (hu r hm)]
        exact iteF ⟨⟨_, _, _, _, rfl⟩, f2⟩
      · rintro σ H2 ⟨_, f2⟩
        exact k H2 f2
/-! ### world_error -/
def spWErr (K : PySem.W.Frag) : Sp := fun vs H Q _ => ∃ (vf vw : V) (n N : Nat) (es : List T3) (us : List (Nat × Nat)) (T : List (List Nat)) (th : List Nat), vs = [vf, vw] ∧ DT K H vf (factsD n es us) ∧ DT K H vw (.tuple [tabD T, rowD th]) ∧ FactsOk n es us ∧
  Wrld N n T th es ∧ N ≤ 60 ∧ (∀ p ∈ us, th.getD p.1 0 ≠ th.getD p.2 0) ∧ ∀ H', Fr S0 H H' → Q .non H'
abbrev sWErr : Stmt := top 35
abbrev psWErr : List Str := ["facts", "value"]
abbrev nWErr : List Str := ["facts", "value", "table", "things"]
theorem scWErr : FnScope nWErr psWErr (defScope sWErr) := ⟨rfl, rfl, rfl, by decide +kernel, rfl, by decide +kernel, by decide +kernel⟩
theorem ok_werr (D : Df K mg "world_error" sWErr psWErr) (T : Bi mg) (cT : Cl P w K mg base "is_tuple" psTup 3 (spTup K)) (cE : Cl P w K mg base "table_error" psTErr 3 (spTErr K)) (cA : Cl P w K mg base "are_things" psThings2 3 (spThings2 K)) (cP : Cl P w K mg base "placing_error" psPErr 3 (spPErr K)) :
    Cl P w K mg base "world_error" psWErr 4 (spWErr K) := by
  refine D.ok scWErr (fun vs H Q E h => ?_) (fun f cdv A outer s H vs Q E hr h => ?_)
  · obtain ⟨vf, vw, n, N, es, us, T0, th, rfl, _⟩ := h
    rfl
  · obtain ⟨vf, vw, n, N, es, us, T0, th, rfl, hf, hw, FO, V, hN, hu, k⟩ := h
    refine ⟨_, pss_cons (ps_if (pt_not (pt_val (pe_cl cT hr (pa_cons (pv 1) (pa_cons pe_int pa_nil))))) (pss_one (ps_ret (pe_tup (pa_cons pe_non (pa_cons pe_str pa_nil))))) pss_nil) (pss_cons (ps_asg (pv 1) (pg_tup (by rfl) (pgs_cons (pg_name (i := 2) scWErr.nd rfl (Or.inl rfl)) (pgs_cons (pg_name (i := 3) scWErr.nd rfl (Or.inl rfl)) pgs_nil)))) (pss_cons (ps_if (pt_cmpR op_notN (pe_cl cE hr (pa_cons (pv 2) pa_nil)) pe_non (nomark _)) (pss_one (ps_ret (pe_tup (pa_cons pe_non (pa_cons pe_str pa_nil))))) pss_nil) (pss_cons (ps_if (pt_not (pt_val (pe_cl cA hr (pa_cons (pv 3) (pa_cons (pe_ix ix_tup (pv 0) pe_int (fun _ _ => rfl)) (pa_cons (pe_callB call_len_seq (by rfl) T.len PySem.boot_len (pa_cons (pv 2) pa_nil)) pa_nil)))))) (pss_one (ps_ret (pe_tup (pa_cons pe_non (pa_cons pe_str pa_nil))))) pss_nil) (pss_one (ps_ret (pe_cl cP hr (pa_cons (pv 0) (pa_cons (pv 2) (pa_cons (pv 3) pa_nil))))))))), ?_⟩
    obtain ⟨pf, pe, pu, xs, ys, rfl, tf, te, re, tu, ru⟩ := facts_inv hf
    obtain ⟨pw, ws, rfl, tw, rw_⟩ := hw.tup_inv
    cases rw_ with
    | cons h1 rr =>
      cases rr with
      | cons h2 rr2 =>
        cases rr2
        refine ⟨_, rfl, pw, _, 2, rfl, tw, rfl, _, rfl, iteF ?_⟩
        refine ⟨_, rfl, pw, _, rfl, tw.sq, rfl, _, _, rfl, _, _, rfl, rfl, ?_⟩
        refine ⟨_, rfl, _, N, T0, rfl, h1, V.L, V.pos, hN, fun H1 f1 => ⟨rfl, _, rfl, iteF ?_⟩⟩
        have h1' := h1.fr f1
        obtain ⟨pt, ts, rfl, tt, lt, ct⟩ := tab_inv h1'
        have lts : ts.length = N := by rw [lt, V.L.len]
        have n5 := FO.le
        refine ⟨_, rfl, _, rfl, pf, _, 0, _, rfl, rfl, (tf.fr f1).sq, rfl, _, rfl, pt, _, rfl, .inr tt.sq, _, th, n, ts.length, rfl, h2.fr f1, V.len, by omega, by rw [lts]; exact V.lt, fun H2 f2 => ⟨_, rfl, iteF ?_⟩⟩
        have f12 := f1.trans f2
        exact ⟨_, rfl, _, rfl, _, rfl, _, _, _, n, N, es, us, T0, th, rfl, hf.fr f12, h1.fr f12, h2.fr f12, FO, V, hu, fun H3 f3 => k H3 (f12.trans f3)⟩
end
end K12
set_option linter.all false
set_option maxRecDepth 100000
set_option maxHeartbeats 1600000
/-! K12w27: d.setdefault(t, x), t a tuple. -/
namespace K12
open PySem PySem.Spec PyProof.Rows L2
section
variable {X : Cx} {pins : List (Addr × Obj)} {σ : L2.St} {H : Hp} {s : Shared} {a b : Addr} {r : Value} {d : V} {k : List L2.Key} {A : Around} {E : Value → Shared → Prop}
theorem d_setdT {kvs : List (List L2.Key × V)} {Q : Value → Shared → Prop} (hu : A.units + 1 < cLine) (I : L2.Inv X pins σ H s) (e : H a = some (.dT kvs)) (eb : H b = some (.tup (k.map kV))) (rd : L2.RelV d r) (hl : kvs.length < sizeLine)
    (h1 : ∀ v, valV kvs k = some v → ∀ (w' : Value) (s' : Shared), L2.Inv X pins σ H s' → L2.RelV v w' → Q w' s') (h2 : valV kvs k = none → ∀ (w' : Value) (s' : Shared), L2.Inv X pins σ (upd H a (.dT (putK kvs k d))) s' → L2.RelV d w' → Q w' s') :
    wpAny (model X.prog X.w) A (call (.builtin "dict.setdefault") [.ref a, .ref b, r]) Q E s := by
  obtain ⟨z, hd, xs, rel, dd⟩ := dt_of I.hok e
  have hz : xs.length ≤ sizeLine := by rw [← Paired.length rel]; exact z
  refine call_setdefault_heap (hsz := hz) (tupleKind_room_in1 hu) (key_of I.hok eb) hd dd (fun p hp => ?_) fun hn h' dd' hs => ?_
  · have q := rel.val k
    rw [hp] at q
    cases q0 : valV kvs k with
    | none =>
      rw [q0] at q
      exact (show False from q).elim
    | some v0 =>
      rw [q0] at q
      exact h1 v0 q0 _ _ (I.tok _) q
  · have q := rel.val k
    rw [hn] at q
    cases q0 : valV kvs k with
    | some v0 =>
      rw [q0] at q
      exact (show False from q).elim
    | none =>
      have hl2 : (putK kvs k d).length ≤ sizeLine := by
        have := length_putK kvs k d
        omega
      obtain ⟨q, es, ep, hq, g2, g3, g4, _, g5⟩ := dd'
      refine h2 q0 _ _ (d_write I (by rw [e]; exact True.intro) hs ⟨q, hq⟩ ⟨hl2, hd, _, (rel.put k eb rd).keeps fun c ys ec => ?_, q, es, ep, hq, g2, g3, g4, g5⟩) rd
      rw [upd_ne (ne_of ec e (fun z => nomatch z))]
      exact ec
end
/-- d.setdefault(y, z), y a tuple -/
def tDSetdT (td ty tx : TE) : TE := fun σ H Q => td σ H fun x H1 => ∃ a, x = .ref a ∧ IsD H1 a ∧ ty σ H1 fun y H2 => tx σ H2 fun z H3 => ∃ (kvs : List (List L2.Key × V)) (k : List L2.Key) (b : Addr), H3 a = some (.dT kvs) ∧ y = .ref b ∧ H3 b = some (.tup (k.map kV)) ∧ kvs.length < sizeLine ∧
  (∀ v, valV kvs k = some v → Q v H3) ∧ (valV kvs k = none → Q z (upd H3 a (.dT (putK kvs k z))))
theorem pe_dsetdT {X : Cx} {o e f : Expr} {td ty tx : TE} {apos cpos : Pos} (hu : X.A.units + 1 < cLine) (ho : PE X o td) (he : PE X e ty) (hf : PE X f tx) (m : M2 X o "setdefault" apos e f cpos) : PE X (.Call (.Attribute o "setdefault" apos) [e, f] [] cpos) (tDSetdT td ty tx) := by
  refine ⟨fun pins s σ H Q I h => ?_⟩
  refine wpAny_Call_method m.base m.few m.line PySem.F.plainAttrs_dict PySem.F.slot_dict_setdefault PySem.F.type_dict_setdefault (thn (ho.run pins s σ H _ I h) fun u s1 ⟨x, H1, I1, rx, a, ex, d, q1⟩ => ?_)
  subst ex
  obtain rfl : u = Value.ref a := rx
  obtain ⟨t1, t2, _⟩ := isD_at I1 d
  refine ⟨t1, t2, ?_⟩
  rw [m.trees]
  refine Calls.callWith_builtin rfl (Calls.evalArgs_plain (Calls.spliced_cons (thn (he.run pins s1 σ H1 _ I1 q1) fun iv s2 ⟨y, H2, I2, ry, q2⟩ =>
    Calls.spliced_cons (thn (hf.run pins s2 σ H2 _ I2 q2) fun fv s3 ⟨z, H3, I3, rz, kvs, k, b, ea, ey, eb, hl, q3, q4⟩ => Calls.spliced_nil ?_))))
  subst ey
  obtain rfl : iv = Value.ref b := ry
  exact d_setdT hu I3 ea eb rz hl (fun v hv w' s4 I4 rw' => ⟨v, _, I4, rw', q3 v hv⟩) fun hn w' s4 I4 rw' => ⟨z, _, I4, rw', q4 hn⟩
end K12
set_option linter.all false
set_option maxRecDepth 100000
set_option maxHeartbeats 1600000
/-! K12w28: rounds as they stand in the heap. -/
namespace K12
open PySem PySem.Spec PyProof.Rows L2
theorem val_drop {κ : Type} [DecidableEq κ] (kvs : List (κ × V)) (k j : κ) : valV (dropK kvs k) j = if j = k then none else valV kvs j := by
  unfold valV dropK
  rw [List.find?_filter]
  by_cases h : j = k
  · rw [if_pos h]
    subst h
    have : (kvs.find? fun a => decide (decide (a.1 ≠ j) = true ∧ decide (a.1 = j) = true)) = none := by
      rw [List.find?_eq_none]; intro x _; simp
    rw [this]; rfl
  · rw [if_neg h]
    congr 1
    congr 1
    funext a
    by_cases e : a.1 = j
    · simp [e, h]
    · simp [e]
def ndK : Nd → List L2.Key | .row i => [.inr "row", .inl (i : Int)] | .th t => [.inr "thing", .inl (t : Int)]
theorem krt : ¬ (("row" : Str) = "thing") := by decide +kernel
theorem ndK_inj {u v : Nd} (h : ndK u = ndK v) : u = v := by
  cases u <;> cases v <;> simp only [ndK, List.cons.injEq, Sum.inl.injEq, Sum.inr.injEq, and_true, true_and] at h
  · congr 1; omega
  · exact absurd h.1 krt
  · exact absurd h.1.symm krt
  · congr 1; omega
def NdB : Nd → Prop | .row i => i < 1000 | .th t => t < 1000
def NdAt (H : Hp) (q : Addr) (u : Nd) : Prop := H q = some (.tup ((ndK u).map kV))
theorem NdAt.fr {S : Addr → Prop} {H H' : Hp} {q : Addr} {u : Nd} (h : NdAt H q u) (f : Fr S H H') : NdAt H' q u := f.tup _ _ h
/-- neither kind of dict -/
def NotD (o : HO) : Prop := (∀ x, o ≠ .dK x) ∧ ∀ x, o ≠ .dT x
/-- what is no dict stands -/
def FD (H H' : Hp) : Prop := ∀ a o, H a = some o → NotD o → H' a = some o
theorem FD.refl (H : Hp) : FD H H := fun _ _ h _ => h
theorem FD.trans {H H1 H2 : Hp} (x : FD H H1) (y : FD H1 H2) : FD H H2 := fun a o h n => y a o (x a o h n) n
theorem notD_lst {xs : List V} : NotD (.lst xs) := ⟨fun _ q => (by cases q), fun _ q => (by cases q)⟩
theorem notD_tup {xs : List V} : NotD (.tup xs) := ⟨fun _ q => (by cases q), fun _ q => (by cases q)⟩
theorem notD_ins {C dx : Addr} {fs : List (Str × V)} : NotD (.ins C dx fs) := ⟨fun _ q => (by cases q), fun _ q => (by cases q)⟩
theorem FD.of {H H' : Hp} (f : Fr S0 H H') : FD H H' := fun a o h _ => f.keep a o h (fun z => z)
theorem FD.setK {H H1 : Hp} {a : Addr} {o : HO} (f : FD H H1) (h : ∃ x, H1 a = some (.dK x)) : FD H (upd H1 a o) := fun b u e n => by
  have := f b u e n
  rw [upd_ne (fun q => by obtain ⟨x, hx⟩ := h; rw [q, hx] at this; cases this; exact n.1 x rfl)]; exact this
theorem FD.setT {H H1 : Hp} {a : Addr} {o : HO} (f : FD H H1) (h : ∃ x, H1 a = some (.dT x)) : FD H (upd H1 a o) := fun b u e n => by
  have := f b u e n
  rw [upd_ne (fun q => by obtain ⟨x, hx⟩ := h; rw [q, hx] at this; cases this; exact n.2 x rfl)]; exact this
theorem FD.new {H H1 : Hp} {a : Addr} {o : HO} (f : FD H H1) (h : H1 a = none) : FD H (upd H1 a o) := fun b u e n => by
  have := f b u e n
  rw [upd_ne (ne_of_none this h)]; exact this
theorem FD.tup {H H' : Hp} (f : FD H H') {a : Addr} {xs : List V} (h : H a = some (.tup xs)) : H' a = some (.tup xs) := f _ _ h notD_tup
theorem NdAt.fd {H H' : Hp} {q : Addr} {u : Nd} (h : NdAt H q u) (f : FD H H') : NdAt H' q u := f.tup h
/-- a node's dict: round to partner -/
structure DIn (H : Hp) (m : Nat) (P : Pt) (u : Nd) (a : Addr) (dk : List (L2.Key × V)) : Prop where
  at_ : H a = some (.dK dk)
  nd : (dk.map (·.1)).Nodup
  ks : ∀ e ∈ dk, ∃ k : Nat, k < m ∧ e.1 = .inl (k : Int)
  no : ∀ k : Nat, P u k = none → valV dk (.inl (k : Int)) = none
  yes : ∀ (k : Nat) v, P u k = some v → ∃ q, valV dk (.inl (k : Int)) = some (.ref q) ∧ NdAt H q v
theorem kmp : ¬ (("many" : Str) = "partners") := by decide +kernel
def fldsR (m : Nat) (p : Addr) : List (Str × V) := putF "partners" (.ref p) (putF "many" (iv m) [])
theorem fldsR_many (m : Nat) (p : Addr) : (fldsR m p).lookup ("many" : Str) = some (iv m) := by
  unfold fldsR
  rw [lookup_putF, if_neg kmp, lookup_putF, if_pos rfl]
theorem fldsR_part (m : Nat) (p : Addr) : (fldsR m p).lookup ("partners" : Str) = some (.ref p) := by
  unfold fldsR
  rw [lookup_putF, if_pos rfl]
theorem fldsR_no (m : Nat) (p : Addr) {x : Str} (h1 : ¬ x = "partners") (h2 : ¬ x = "many") : (fldsR m p).lookup x = none := by
  unfold fldsR
  rw [lookup_putF, if_neg h1, lookup_putF, if_neg h2]
  all_goals rfl
/-- the rounds' dict: node to the node's dict -/
structure RD (B H : Hp) (p : Addr) (m : Nat) (P : Pt) (kvs : List (List L2.Key × V)) : Prop where
  at_ : H p = some (.dT kvs)
  nd : (kvs.map (·.1)).Nodup
  ks : ∀ e ∈ kvs, ∃ u, NdB u ∧ e.1 = ndK u
  no : ∀ u, valV kvs (ndK u) = none → ∀ k, P u k = none
  yes : ∀ u v, valV kvs (ndK u) = some v → ∃ a dk, v = .ref a ∧ B a = none ∧ DIn H m P u a dk
  inj : ∀ u u' v, valV kvs (ndK u) = some v → valV kvs (ndK u') = some v → u = u'
structure RS (C : Addr) (B H : Hp) (c p : Addr) (m : Nat) (P : Pt) : Prop where
  ob : ∃ dx, H c = some (.ins C dx (fldsR m p))
  rd : ∃ kvs, RD B H p m P kvs
  fr : Fr S0 B H
  bc : B c = none
  bp : B p = none
/-! ### sizes -/
def allNd : List Nd := (List.range 1000).map Nd.row ++ (List.range 1000).map Nd.th
theorem mem_allNd {u : Nd} (h : NdB u) : u ∈ allNd := by
  unfold allNd
  cases u with
  | row i => exact List.mem_append.mpr (.inl (List.mem_map.mpr ⟨i, List.mem_range.mpr h, rfl⟩))
  | th t => exact List.mem_append.mpr (.inr (List.mem_map.mpr ⟨t, List.mem_range.mpr h, rfl⟩))
theorem RD.len {B H : Hp} {p : Addr} {m : Nat} {P : Pt} {kvs : List (List L2.Key × V)} (r : RD B H p m P kvs) : kvs.length ≤ 2000 := by
  have := nodup_len (u := allNd.map ndK) r.nd fun x hx => by
    obtain ⟨e, he, rfl⟩ := List.mem_map.mp hx
    obtain ⟨u, hu, e2⟩ := r.ks e he
    rw [e2]
    exact List.mem_map.mpr ⟨u, mem_allNd hu, rfl⟩
  simpa [allNd] using this
theorem DIn.len {H : Hp} {m : Nat} {P : Pt} {u : Nd} {a : Addr} {dk : List (L2.Key × V)} (d : DIn H m P u a dk) : dk.length ≤ m := by
  have := nodup_len (u := (List.range m).map fun k : Nat => (Sum.inl (k : Int) : L2.Key)) d.nd fun x hx => by
    obtain ⟨e, he, rfl⟩ := List.mem_map.mp hx
    obtain ⟨k, hk, e2⟩ := d.ks e he
    rw [e2]
    exact List.mem_map.mpr ⟨k, List.mem_range.mpr hk, rfl⟩
  simpa using this
/-! ### what stays -/
section
variable {C : Addr} {B H H' : Hp} {c p a : Addr} {m : Nat} {P : Pt} {u : Nd} {dk : List (L2.Key × V)} {kvs : List (List L2.Key × V)}
theorem DIn.fr0 (d : DIn H m P u a dk) (f : Fr S0 H H') : DIn H' m P u a dk :=
  ⟨f.keep _ _ d.at_ (fun z => z), d.nd, d.ks, d.no, fun k v e => by obtain ⟨q, h1, h2⟩ := d.yes k v e; exact ⟨q, h1, h2.fr f⟩⟩
theorem RD.fr0 (r : RD B H p m P kvs) (f : Fr S0 H H') : RD B H' p m P kvs :=
  ⟨f.keep _ _ r.at_ (fun z => z), r.nd, r.ks, r.no, fun u v e => by obtain ⟨a, dk, h1, h2, h3⟩ := r.yes u v e; exact ⟨a, dk, h1, h2, h3.fr0 f⟩, r.inj⟩
theorem RS.fr0 (r : RS C B H c p m P) (f : Fr S0 H H') : RS C B H' c p m P := by
  obtain ⟨⟨dx, h1⟩, ⟨kvs, h2⟩, h3, h4, h5⟩ := r
  exact ⟨⟨dx, f.keep _ _ h1 (fun z => z)⟩, ⟨kvs, h2.fr0 f⟩, h3.trans f, h4, h5⟩
/-- a node's dict changes -/
theorem RS.inner (r : RS C B H c p m P) (R : RD B H p m P kvs) (hu : valV kvs (ndK u) = some (.ref a)) {dk' : List (L2.Key × V)} {P' : Pt} (d' : DIn (upd H a (.dK dk')) m P' u a dk') (hP : ∀ v, v ≠ u → P' v = P v) (hd : DIn H m P u a dk) :
    RS C B (upd H a (.dK dk')) c p m P' ∧ RD B (upd H a (.dK dk')) p m P' kvs ∧ FD H (upd H a (.dK dk')) := by
  obtain ⟨⟨dx, h1⟩, _, h3, h4, h5⟩ := r
  have hb : B a = none := by
    obtain ⟨a', dk2, e1, e2, _⟩ := R.yes u _ hu
    cases e1; exact e2
  have fd : FD H (upd H a (.dK dk')) := (FD.refl H).setK ⟨_, hd.at_⟩
  have npa : p ≠ a := fun q => by have := R.at_; rw [q, hd.at_] at this; cases this
  have R' : RD B (upd H a (.dK dk')) p m P' kvs := by
    refine ⟨by rw [upd_ne npa]; exact R.at_, R.nd, R.ks, fun v e k => ?_, fun v x e => ?_, R.inj⟩
    · have nv : v ≠ u := fun q => by rw [q, hu] at e; cases e
      rw [hP v nv]; exact R.no v e k
    · obtain ⟨a2, dk2, e1, e2, e3⟩ := R.yes v x e
      subst e1
      by_cases nv : v = u
      · subst nv
        rw [hu] at e
        cases Option.some.inj e
        exact ⟨a, dk', rfl, hb, d'⟩
      · have na : a2 ≠ a := fun q => nv (R.inj v u (.ref a) (by rw [← q]; exact e) hu)
        refine ⟨a2, dk2, rfl, e2, by rw [upd_ne na]; exact e3.at_, e3.nd, e3.ks, fun k => by rw [hP v nv]; exact e3.no k, fun k y => by
          rw [hP v nv]
          intro e
          obtain ⟨q, g1, g2⟩ := e3.yes k y e
          exact ⟨q, g1, g2.fd fd⟩⟩
  exact ⟨⟨⟨dx, fd _ _ h1 notD_ins⟩, ⟨kvs, R'⟩, h3.mut hb, h4, h5⟩, R', fd⟩
/-- a new node -/
theorem RS.newNode (r : RS C B H c p m P) (R : RD B H p m P kvs) (hn : valV kvs (ndK u) = none) (hu : NdB u) {z : Addr} (hz : H z = none) :
    RS C B (upd (upd H z (.dK [])) p (.dT (putK kvs (ndK u) (.ref z)))) c p m P ∧ RD B (upd (upd H z (.dK [])) p (.dT (putK kvs (ndK u) (.ref z)))) p m P (putK kvs (ndK u) (.ref z)) ∧ FD H (upd (upd H z (.dK [])) p (.dT (putK kvs (ndK u) (.ref z)))) ∧
    DIn (upd (upd H z (.dK [])) p (.dT (putK kvs (ndK u) (.ref z)))) m P u z [] := by
  obtain ⟨⟨dx, h1⟩, _, h3, h4, h5⟩ := r
  have n1 : Fr S0 H (upd H z (.dK [])) := (Fr.refl _ _).new hz
  have hb : B z = none := h3.free hz
  have hp1 : upd H z (.dK []) p = some (.dT kvs) := n1.keep _ _ R.at_ (fun z => z)
  have npz : z ≠ p := (ne_of_none R.at_ hz).symm
  have fd : FD H (upd (upd H z (.dK [])) p (.dT (putK kvs (ndK u) (.ref z)))) := (FD.of n1).setT ⟨_, hp1⟩
  have ez : upd (upd H z (.dK [])) p (.dT (putK kvs (ndK u) (.ref z))) z = some (.dK []) := by rw [upd_ne npz, upd_same]
  have dz : DIn (upd (upd H z (.dK [])) p (.dT (putK kvs (ndK u) (.ref z)))) m P u z [] :=
    ⟨ez, List.nodup_nil, fun e h => by simp at h, fun k _ => rfl, fun k v e => by rw [R.no u hn k] at e; cases e⟩
  have pk := putK_new (V.ref z) hn
  have R' : RD B (upd (upd H z (.dK [])) p (.dT (putK kvs (ndK u) (.ref z)))) p m P (putK kvs (ndK u) (.ref z)) := by
    refine ⟨upd_same, ?_, ?_, fun v e => ?_, fun v x e => ?_, fun v v' x e e' => ?_⟩
    · exact nd_putK _ R.nd hn
    · rw [pk]
      intro e he
      rcases List.mem_append.mp he with h | h
      · exact R.ks e h
      · simp at h; subst h; exact ⟨u, hu, rfl⟩
    · rw [valV_put] at e
      split at e
      · cases e
      · exact R.no v e
    · rw [valV_put] at e
      split at e
      · rename_i q
        cases Option.some.inj e
        have := ndK_inj q
        subst this
        exact ⟨z, [], rfl, hb, dz⟩
      · obtain ⟨a2, dk2, e1, e2, e3⟩ := R.yes v x e
        have na : a2 ≠ p := fun q => by have := e3.at_; rw [q, R.at_] at this; cases this
        have na2 : a2 ≠ z := ne_of_none e3.at_ hz
        exact ⟨a2, dk2, e1, e2, by rw [upd_ne na, upd_ne na2]; exact e3.at_, e3.nd, e3.ks, e3.no, fun k y ey => by
          obtain ⟨q, g1, g2⟩ := e3.yes k y ey
          exact ⟨q, g1, g2.fd fd⟩⟩
    · have key : ∀ w, valV kvs (ndK w) = some (.ref z) → False := fun w ew => by
        obtain ⟨a2, dk2, e1, e2, e3⟩ := R.yes w _ ew
        cases e1
        have := e3.at_
        rw [hz] at this; cases this
      rw [valV_put] at e e'
      split at e <;> split at e'
      · rename_i q q'
        exact (ndK_inj q).trans (ndK_inj q').symm
      · rename_i q q'
        cases Option.some.inj e
        exact (key _ e').elim
      · rename_i q q'
        cases Option.some.inj e'
        exact (key _ e).elim
      · exact R.inj v v' x e e'
  exact ⟨⟨⟨dx, fd _ _ h1 notD_ins⟩, ⟨_, R'⟩, (h3.new hz).mut h5, h4, h5⟩, R', fd, dz⟩
/-- a partner is stored -/
def put1 (P : Pt) (u : Nd) (k : Nat) (v : Nd) : Pt := fun x j => if x = u ∧ j = k then some v else P x j
theorem put_put1 (P : Pt) (a b : Nd) (k : Nat) : put P a b k = put1 (put1 P a k b) b k a := rfl
theorem DIn.store (d : DIn H m P u a dk) {k : Nat} (hk : k < m) {q : Addr} {v : Nd} (hq : NdAt H q v) : DIn (upd H a (.dK (putK dk (.inl (k : Int)) (.ref q)))) m (put1 P u k v) u a (putK dk (.inl (k : Int)) (.ref q)) := by
  have fd : FD H (upd H a (.dK (putK dk (.inl (k : Int)) (.ref q)))) := (FD.refl H).setK ⟨_, d.at_⟩
  have kk : ∀ j : Nat, ((Sum.inl (j : Int) : L2.Key) = Sum.inl (k : Int)) ↔ j = k := fun j => ⟨fun h => by have := Sum.inl.inj h; omega, fun h => by rw [h]⟩
  refine ⟨upd_same, ?_, ?_, fun j e => ?_, fun j x e => ?_⟩
  · cases hv : valV dk (.inl (k : Int)) with
    | none => exact nd_putK _ d.nd hv
    | some w =>
      have : ((putK dk (.inl (k : Int)) (.ref q)).map (·.1)) = dk.map (·.1) := by
        unfold putK
        rw [valV_any, hv]
        rw [if_pos (show (some w).isSome = true from rfl), List.map_map]
        refine List.map_congr_left fun e _ => ?_
        simp only [Function.comp]
        split <;> rfl
      rw [this]; exact d.nd
  · intro e he
    unfold putK at he
    split at he
    · obtain ⟨e0, h0, rfl⟩ := List.mem_map.mp he
      obtain ⟨j, hj, ej⟩ := d.ks e0 h0
      refine ⟨j, hj, ?_⟩
      split <;> exact ej
    · rcases List.mem_append.mp he with h | h
      · exact d.ks e h
      · simp at h; subst h; exact ⟨k, hk, rfl⟩
  · rw [valV_put]
    unfold put1 at e
    by_cases h : j = k
    · rw [if_pos ⟨rfl, h⟩] at e; cases e
    · rw [if_neg fun q => h q.2] at e
      rw [if_neg fun q => h ((kk j).mp q)]
      exact d.no j e
  · rw [valV_put]
    unfold put1 at e
    by_cases h : j = k
    · rw [if_pos ⟨rfl, h⟩] at e
      cases Option.some.inj e
      exact ⟨q, by rw [if_pos ((kk j).mpr h)], hq.fd fd⟩
    · rw [if_neg fun q => h q.2] at e
      rw [if_neg fun q => h ((kk j).mp q)]
      obtain ⟨q2, g1, g2⟩ := d.yes j x e
      exact ⟨q2, g1, g2.fd fd⟩
/-- a partner is taken out -/
theorem DIn.drop (d : DIn H m P u a dk) {k : Nat} : DIn (upd H a (.dK (dropK dk (.inl (k : Int))))) m (del1 P u k) u a (dropK dk (.inl (k : Int))) := by
  have fd : FD H (upd H a (.dK (dropK dk (.inl (k : Int))))) := (FD.refl H).setK ⟨_, d.at_⟩
  have kk : ∀ j : Nat, ((Sum.inl (j : Int) : L2.Key) = Sum.inl (k : Int)) ↔ j = k := fun j => ⟨fun h => by have := Sum.inl.inj h; omega, fun h => by rw [h]⟩
  refine ⟨upd_same, nd_dropK d.nd, fun e he => d.ks e (List.mem_filter.mp he).1, fun j e => ?_, fun j x e => ?_⟩
  · rw [val_drop]
    unfold del1 at e
    by_cases h : j = k
    · rw [if_pos ((kk j).mpr h)]
    · rw [if_neg fun q => h q.2] at e
      rw [if_neg fun q => h ((kk j).mp q)]
      exact d.no j e
  · rw [val_drop]
    unfold del1 at e
    by_cases h : j = k
    · rw [if_pos ⟨rfl, h⟩] at e; cases e
    · rw [if_neg fun q => h q.2] at e
      rw [if_neg fun q => h ((kk j).mp q)]
      obtain ⟨q2, g1, g2⟩ := d.yes j x e
      exact ⟨q2, g1, g2.fd fd⟩
end
end K12
set_option linter.all false
set_option maxRecDepth 100000
set_option maxHeartbeats 1600000
/-! K12w29: list(zip(a, b)). -/
namespace K12
open PySem PySem.Spec PyProof.Rows L2
theorem nolen_zip : typeLookup (.type "zip") "__len__" = pure none := by rw [typeLookup_type, builtinLookup_eq_fast]; kernel_rfl
theorem nohint_zip : typeLookup (.type "zip") "__length_hint__" = pure none := by rw [typeLookup_type, builtinLookup_eq_fast]; kernel_rfl
/-- a zip in the midst of its turns -/
def ZSt (h : Heap) (z TI TO i1 i2 a b S : Addr) (i : Nat) : Prop := IsPair h TI (.ref i1) (.ref i2) ∧ h.IsListIter i1 a i ∧ h.IsListIter i2 b i ∧
  ((IsZip h z TI TO .none ∧ ∃ x y, IsPair h TO x y) ∨ ∃ T f oT, PySem.IsZipHeld h z TI TO T f ∧ h.get? T = some oT ∧ T ≠ z ∧ T ≠ i1 ∧ T ≠ i2 ∧ T ≠ S)
structure ZAp (z TI TO i1 i2 a b S : Addr) : Prop where
  D : ZipApart z TI TO i1 i2 a b
  z : z < S
  TI : TI < S
  TO : TO < S
  i1 : i1 < S
  i2 : i2 < S
  a : a < S
  b : b < S
section
variable {prog : Program} {w : World} {A : Around} {E : Value → Shared → Prop} {s : Shared} {z TI TO i1 i2 a b S : Addr} {xs ys : Array Value} {i : Nat}
theorem ZSt.at (st : ZSt s.heap z TI TO i1 i2 a b S i) (D : ZAp z TI TO i1 i2 a b S) {h' : Heap} (k : ∀ c o, c ≠ S → s.heap.get? c = some o → h'.get? c = some o) : ZSt h' z TI TO i1 i2 a b S i := by
  obtain ⟨h1, h2, h3, h4⟩ := st
  have n : ∀ {c}, c < S → c ≠ S := fun h => Nat.ne_of_lt h
  refine ⟨k _ _ (n D.TI) h1, h2.at fun o e => k _ _ (n D.i1) e, h3.at fun o e => k _ _ (n D.i2) e, ?_⟩
  rcases h4 with ⟨e1, x, y, e2⟩ | ⟨T, f, oT, e1, e2, n1, n2, n3, n4⟩
  · exact .inl ⟨k _ _ (n D.z) e1, x, y, k _ _ (n D.TO) e2⟩
  · exact .inr ⟨T, f, oT, k _ _ (n D.z) e1, k _ _ n4 e2, n1, n2, n3, n4⟩
theorem z_item {Q : Option Value → Shared → Prop} {x y : Value} (st : ZSt s.heap z TI TO i1 i2 a b S i) (D : ZAp z TI TO i1 i2 a b S) (hS : S < s.heap.objs.size) (ha : s.heap.IsList a xs) (hb : s.heap.IsList b ys) (hx : xs[i]? = some x) (hy : ys[i]? = some y)
    (hQ : ∀ h', ZSt h' z TI TO i1 i2 a b S (i + 1) → IsPair h' s.heap.objs.size x y → h'.objs.size = s.heap.objs.size + 1 → (∀ c o, c ≠ z → c ≠ TO → c ≠ i1 → c ≠ i2 → s.heap.get? c = some o → h'.get? c = some o) → Q (some (.ref s.heap.objs.size)) { s with heap := h' }) :
    wpAny (model prog w) A (pyNext (.ref z)) Q E s := by
  obtain ⟨h1, h2, h3, h4⟩ := st
  have lt : ∀ {c}, c < S → s.heap.objs.size ≠ c := fun h => Nat.ne_of_gt (Nat.lt_trans h hS)
  rcases h4 with ⟨e1, x0, y0, e2⟩ | ⟨T, f, oT, e1, e2, n1, n2, n3, n4⟩
  · refine wpAny_pyNext_zip_item D.D e1 h1 e2 h2 h3 ha hb hx hy fun h' g1 g2 g3 g4 g5 g6 g7 => hQ h' ⟨?_, g3, g4, .inr ⟨s.heap.objs.size, false, _, g1, g5, lt D.z, lt D.i1, lt D.i2, Nat.ne_of_gt hS⟩⟩ g5 g6 g7
    exact g7 _ _ D.D.TIz D.D.TITO D.D.TIi1 D.D.TIi2 h1
  · refine wpAny_pyNext_zip_item_held D.D e1 e2 h1 h2 h3 ha hb hx hy fun h' g1 g3 g4 g5 g6 g7 => hQ h' ⟨?_, g3, g4, .inr ⟨T, true, oT, g1, g7 _ _ n1 n2 n3 e2, n1, n2, n3, n4⟩⟩ g5 g6 (fun c o c1 _ c3 c4 e => g7 c o c1 c3 c4 e)
    exact g7 _ _ D.D.TIz D.D.TIi1 D.D.TIi2 h1
theorem z_end {Q : Option Value → Shared → Prop} (hh : A.handled = none) (st : ZSt s.heap z TI TO i1 i2 a b S i) (D : ZAp z TI TO i1 i2 a b S) (ha : s.heap.IsList a xs) (hb : s.heap.IsList b ys) (he : xs[i]? = none ∨ ys[i]? = none)
    (hQ : ∀ h', (∀ c o, c ≠ z → c ≠ TO → c ≠ i1 → c ≠ i2 → s.heap.get? c = some o → h'.get? c = some o) → Q none { s with heap := h' }) : wpAny (model prog w) A (pyNext (.ref z)) Q E s := by
  obtain ⟨h1, h2, h3, h4⟩ := st
  rcases h4 with ⟨e1, x0, y0, e2⟩ | ⟨T, f, oT, e1, e2, n1, n2, n3, n4⟩
  · exact wpAny_pyNext_zip_end hh D.D e1 h1 e2 h2 h3 ha hb he hQ
  · exact wpAny_pyNext_zip_end_held hh D.D e1 e2 h1 h2 h3 ha hb he fun h' k => hQ h' fun c o c1 _ c3 c4 e => k c o c1 c3 c4 e
/-- the new pairs -/
structure ZMade (xs ys : Array Value) (lo : Addr) (h : Heap) (as : List Addr) : Prop where
  rise : as.Pairwise (· < ·)
  above : ∀ a ∈ as, lo < a
  pairs : ∀ (j : Nat) (t : Addr), as[j]? = some t → ∃ x y, xs[j]? = some x ∧ ys[j]? = some y ∧ IsPair h t x y
theorem ZMade.there {lo : Addr} {h : Heap} {as : List Addr} (g : ZMade xs ys lo h as) {t : Addr} (ht : t ∈ as) : t < h.objs.size := by
  obtain ⟨j, hj⟩ := List.mem_iff_getElem?.mp ht
  obtain ⟨_, _, _, _, e⟩ := g.pairs j t hj
  exact Heap.lt_size e
theorem z_loop {R : Result → Shared → Prop} {n : Nat} (hh : A.handled = none) (D : ZAp z TI TO i1 i2 a b S) (hn : n ≤ sizeLine) (hx : ∀ i, i < n → (∃ x, xs[i]? = some x) ∧ ∃ y, ys[i]? = some y) (hend : xs[n]? = none ∨ ys[n]? = none) (res : Value) {h₁ : Heap}
    (hR : ∀ h' tk acc c as, (∀ b o, b ≠ S → b ≠ z → b ≠ TO → b ≠ i1 → b ≠ i2 → h₁.get? b = some o → h'.get? b = some o) → h'.get? S = some { cls := .type "list", dict := none, data := .seq acc c, slots := #[] } → as.length = n → ZMade xs ys S h' as →
      acc.toList = as.map Value.ref → R (.ok (.ret res)) { s with heap := h', toks := tk }) :
    ∀ (k i : Nat) (h : Heap) (tk c : Nat) (acc : Array Value) (as : List Addr), n - i = k → i ≤ n → ZSt h z TI TO i1 i2 a b S i → h.IsList a xs → h.IsList b ys → (∀ b o, b ≠ S → b ≠ z → b ≠ TO → b ≠ i1 → b ≠ i2 → h₁.get? b = some o → h.get? b = some o) →
      h.get? S = some { cls := .type "list", dict := none, data := .seq acc c, slots := #[] } → acc.toList = as.map Value.ref → as.length = i → ZMade xs ys S h as →
      codeAny (model prog w) A (.builtin "list.extend.loop" ⟨[.ref S, .ref z, res], []⟩) R { s with heap := h, toks := tk } := by
  have nS : ∀ {c}, c < S → c ≠ S := fun h => Nat.ne_of_lt h
  have nS' : ∀ {c}, c < S → S ≠ c := fun h => Nat.ne_of_gt h
  intro k
  induction k with
  | zero =>
    intro i h tk c acc as hk hi hst hA hB hkeep hS hacc hal hG
    have ei : i = n := by omega
    subst ei
    refine codeAny_builtin PySem.F.entry_extend_loop ?_
    rw [Around.under_plainId PySem.F.plain_extend_loop _]
    show wpAny _ A.in1 (pyNext (.ref z) >>= _) _ _ _
    refine wpAny_bind (z_end (s := { s with heap := h, toks := tk }) (A := A.in1) hh hst D hA hB hend fun h' he => ?_)
    refine wpAny_pure (hR h' tk acc c as (fun b o h1 h2 h3 h4 h5 e => he b o h2 h3 h4 h5 (hkeep b o h1 h2 h3 h4 h5 e)) (he S _ (nS' D.z) (nS' D.TO) (nS' D.i1) (nS' D.i2) hS) hal ⟨hG.rise, hG.above, fun j t hj => ?_⟩ hacc)
    obtain ⟨x, y, e1, e2, e3⟩ := hG.pairs j t hj
    have hb := hG.above t (List.mem_of_getElem? hj)
    have up : ∀ {c}, c < S → t ≠ c := fun h => Nat.ne_of_gt (Nat.lt_trans h hb)
    exact ⟨x, y, e1, e2, he t _ (up D.z) (up D.TO) (up D.i1) (up D.i2) e3⟩
  | succ k ih =>
    intro i h tk c acc as hk hi hst hA hB hkeep hS hacc hal hG
    have hlt : i < n := by omega
    have hsz : acc.size = i := by rw [← Array.length_toList, hacc, List.length_map, hal]
    obtain ⟨⟨x, hx1⟩, y, hy1⟩ := hx i hlt
    have hSl : S < h.objs.size := Heap.lt_size hS
    refine codeAny_builtin PySem.F.entry_extend_loop ?_
    rw [Around.under_plainId PySem.F.plain_extend_loop _]
    show wpAny _ A.in1 (pyNext (.ref z) >>= _) _ _ _
    refine wpAny_bind (z_item (s := { s with heap := h, toks := tk }) (S := S) hst D hSl hA hB hx1 hy1 fun h' hst' ht hz hkp => ?_)
    dsimp only at ht hz hkp ⊢
    have kp : ∀ b o, S ≤ b → h.get? b = some o → h'.get? b = some o := fun b o hb e => by
      have up : ∀ {c}, c < S → b ≠ c := fun h => Nat.ne_of_gt (Nat.lt_of_lt_of_le h hb)
      exact hkp b o (up D.z) (up D.TO) (up D.i1) (up D.i2) e
    have hS' := kp S _ (Nat.le_refl _) hS
    have up : ∀ b o, b ≠ S → h'.get? b = some o → (h'.update S (Obj.mapSeq (·.push (Value.ref h.objs.size)))).get? b = some o := fun b o hb e => (Heap.get?_update_other _ _ (Ne.symm hb)).trans e
    show wpAny _ A.in1 (updateSeq S (·.push (Value.ref h.objs.size)) >>= _) _ _ _
    refine wpAny_bind ?_
    refine wpAny_updateSeq hS' rfl (wpAny_pure ⟨plainId_quiet PySem.F.plain_extend_loop _, ih (i + 1) _ tk _ (acc.push (Value.ref h.objs.size)) (as ++ [h.objs.size]) (by omega) hlt (ZSt.at (s := { s with heap := h' }) hst' D up)
      (hA.at fun o e => up a o (nS D.a) (hkp a o D.D.l1z D.D.l1TO D.D.l1i1 D.D.l1i2 e)) (hB.at fun o e => up b o (nS D.b) (hkp b o D.D.l2z D.D.l2TO D.D.l2i1 D.D.l2i2 e))
      (fun b o h1 h2 h3 h4 h5 e => up b o h1 (hkp b o h2 h3 h4 h5 (hkeep b o h1 h2 h3 h4 h5 e))) (Heap.get?_update_self _ hS' rfl) (by rw [Array.toList_push, hacc, List.map_append]; rfl) (by rw [List.length_append, hal]; rfl) ⟨?_, ?_, ?_⟩⟩) (by rw [hsz]; omega) (by show (acc.push (Value.ref h.objs.size)).size ≤ sizeLine + 1; rw [Array.size_push, hsz]; omega)
    · refine List.pairwise_append.mpr ⟨hG.rise, List.pairwise_singleton _ _, fun t ht b hb => ?_⟩
      rw [List.mem_singleton.mp hb]
      exact hG.there ht
    · intro t ht
      rcases List.mem_append.mp ht with ht | ht
      · exact hG.above t ht
      · rw [List.mem_singleton.mp ht]; exact hSl
    · intro j t hj
      rcases Nat.lt_trichotomy j as.length with h1 | h1 | h1
      · rw [List.getElem?_append_left h1] at hj
        obtain ⟨x', y', e1, e2, e3⟩ := hG.pairs j t hj
        have hb := hG.above t (List.mem_of_getElem? hj)
        exact ⟨x', y', e1, e2, up t _ (Nat.ne_of_gt hb) (kp t _ (Nat.le_of_lt hb) e3)⟩
      · subst h1
        have hb : h.objs.size = t := by simpa using hj
        subst hb
        exact ⟨x, y, by rw [hal]; exact hx1, by rw [hal]; exact hy1, up _ _ (Nat.ne_of_gt hSl) ht⟩
      · have hnone : (as ++ [h.objs.size])[j]? = none := List.getElem?_eq_none (by rw [List.length_append, List.length_singleton]; omega)
        rw [hnone] at hj; cases hj
theorem z_extend {R : Result → Shared → Prop} {n : Nat} (hh : A.handled = none) (D : ZAp z TI TO i1 i2 a b S) (hn : n ≤ sizeLine) (hx : ∀ i, i < n → (∃ x, xs[i]? = some x) ∧ ∃ y, ys[i]? = some y) (hend : xs[n]? = none ∨ ys[n]? = none)
    (hz : IsZip s.heap z TI TO .none) (hTI : IsPair s.heap TI (.ref i1) (.ref i2)) (hTO : IsPair s.heap TO .none .none) (h1 : s.heap.IsListIter i1 a 0) (h2 : s.heap.IsListIter i2 b 0) (hA : s.heap.IsList a xs) (hB : s.heap.IsList b ys) (res : Value) (c₀ : Nat) (hS : s.heap.get? S = some { cls := .type "list", data := .seq #[] c₀ })
    (hR : ∀ h' tk acc c as, (∀ b o, b ≠ S → b ≠ z → b ≠ TO → b ≠ i1 → b ≠ i2 → s.heap.get? b = some o → h'.get? b = some o) → h'.get? S = some { cls := .type "list", dict := none, data := .seq acc c, slots := #[] } → as.length = n → ZMade xs ys S h' as →
      acc.toList = as.map Value.ref → R (.ok (.ret res)) { s with heap := h', toks := tk }) :
    wpAny (model prog w) A.in1 (Builtin.List.listExtendWith (.ref S) (.ref z) res)
      (fun fin s' => match fin with | .done f => R (.ok f) s' | .again c' => c'.quiet = true ∧ codeAny (model prog w) A c' R s') (fun e s' => R (.error e) s') s := by
  have st0 : ZSt s.heap z TI TO i1 i2 a b S 0 := ⟨hTI, h1, h2, .inl ⟨hz, _, _, hTO⟩⟩
  have key : ∀ (h : Heap) (c₁ tk : Nat), (∀ b o, b ≠ S → s.heap.get? b = some o → h.get? b = some o) → h.get? S = some { cls := .type "list", data := .seq #[] c₁ } →
      codeAny (model prog w) A (.builtin "list.extend.loop" ⟨[.ref S, .ref z, res], []⟩) R { s with heap := h, toks := tk } := by
    intro h c₁ tk hk hS₁
    exact z_loop (xs := xs) (ys := ys) (h₁ := s.heap) hh D hn hx hend res hR n 0 h tk c₁ #[] [] (Nat.sub_zero _) (Nat.zero_le _) (st0.at D hk) (hA.at fun o e => hk a o (Nat.ne_of_lt D.a) e) (hB.at fun o e => hk b o (Nat.ne_of_lt D.b) e)
      (fun b o hb _ _ _ _ e => hk b o hb e) hS₁ rfl rfl ⟨List.Pairwise.nil, (fun _ ha => nomatch ha), (fun j a hj => by simp at hj)⟩
  have hT : s.TypeIs (.ref z) "zip" := ⟨_, hz, rfl⟩
  unfold Builtin.List.listExtendWith
  refine wpAny_bind (wpAny_typeOf (T := "zip") hT ?_)
  have g1 : Builtin.List.listSameRef (.ref S) (.ref z) = false := by simp [Builtin.List.listSameRef, Nat.ne_of_gt D.z]
  have g2 : (Value.type "zip" == Value.type "list") = false := by decide
  have g3 : (Value.type "zip" == Value.type "tuple") = false := by decide
  simp only [g1, g2, g3, Bool.or_false, Bool.false_eq_true, if_false]
  refine wpAny_bind (wpAny_pyIter_zip hz ?_)
  refine wpAny_bind (wpAny_holding ?_)
  unfold Builtin.List.listLengthHint
  refine wpAny_bind (wpAny_specialOf hT nolen_zip ?_)
  show wpAny _ A.in1 (specialOf (Value.ref z) (Str.ofString "__length_hint__") >>= _) _ _ _
  refine wpAny_bind (wpAny_specialOf hT nohint_zip ?_)
  refine wpAny_pure ?_
  show wpAny _ A.in1 (rule "list.extend.makes-room" >>= fun _ => Builtin.List.listTouch (.ref S) >>= fun _ =>
    again (.builtin "list.extend.loop" ⟨[.ref S, .ref z, res], []⟩)) _ _ _
  refine wpAny_bind (wpAny_rule ?_)
  refine wpAny_bind ?_
  show wpAny _ A.in1 (updateSeq S (·.push .none) >>= fun _ => updateSeq S (·.pop)) _ _ _
  refine wpAny_bind (wpAny_updateSeq hS rfl ?_)
  have hS₂ := Heap.get?_update_self (Obj.mapSeq (·.push Value.none)) hS rfl
  refine wpAny_updateSeq (hz := by seq_fits) hS₂ rfl ?_
  have hS₃ := Heap.get?_update_self (Obj.mapSeq (·.pop)) hS₂ rfl
  refine wpAny_pure ⟨plainId_quiet PySem.F.plain_extend_loop _, key _ _ _ (fun b o hb e => ?_) hS₃⟩
  exact (Heap.get?_update_other _ _ (Ne.symm hb)).trans ((Heap.get?_update_other _ _ (Ne.symm hb)).trans e)
theorem z_init {R : Result → Shared → Prop} {n : Nat} (hh : A.handled = none) (D : ZAp z TI TO i1 i2 a b S) (hn : n ≤ sizeLine) (hx : ∀ i, i < n → (∃ x, xs[i]? = some x) ∧ ∃ y, ys[i]? = some y) (hend : xs[n]? = none ∨ ys[n]? = none)
    (hz : IsZip s.heap z TI TO .none) (hTI : IsPair s.heap TI (.ref i1) (.ref i2)) (hTO : IsPair s.heap TO .none .none) (h1 : s.heap.IsListIter i1 a 0) (h2 : s.heap.IsListIter i2 b 0) (hA : s.heap.IsList a xs) (hB : s.heap.IsList b ys) (hS : s.heap.get? S = some { cls := .type "list", data := .seq #[] })
    (hR : ∀ h' tk acc c as, (∀ b o, b ≠ S → b ≠ z → b ≠ TO → b ≠ i1 → b ≠ i2 → s.heap.get? b = some o → h'.get? b = some o) → h'.get? S = some { cls := .type "list", dict := none, data := .seq acc c, slots := #[] } → as.length = n → ZMade xs ys S h' as →
      acc.toList = as.map Value.ref → R (.ok (.ret .none)) { s with heap := h', toks := tk }) :
    wpAny (model prog w) A.in1 (Builtin.«list.__init__» ⟨[.ref S, .ref z], []⟩)
      (fun fin s' => match fin with | .done f => R (.ok f) s' | .again c' => c'.quiet = true ∧ codeAny (model prog w) A c' R s') (fun e s' => R (.error e) s') s := by
  show wpAny _ _ (do let old ← Builtin.List.listItems (.ref S); Builtin.List.listUpdate (.ref S) (fun _ => #[]); letGo old.toList.reverse; Builtin.List.listExtendWith (.ref S) (.ref z) .none) _ _ s
  refine wpAny_bind ?_
  unfold Builtin.List.listItems
  refine wpAny_bind (wpAny_seqItems hS rfl (wpAny_pure ?_))
  show wpAny _ _ (updateSeq S (fun _ => #[]) >>= fun _ => letGo (#[] : Array Value).toList.reverse >>= fun _ => Builtin.List.listExtendWith (.ref S) (.ref z) .none) _ _ s
  refine wpAny_bind (wpAny_updateSeq hS rfl ?_)
  have hS₂ := Heap.get?_update_self (Obj.mapSeq (fun _ => (#[] : Array Value))) hS rfl
  have oth : ∀ b o, b ≠ S → s.heap.get? b = some o → (s.heap.update S (Obj.mapSeq (fun _ => (#[] : Array Value)))).get? b = some o :=
    fun b o hb e => (Heap.get?_update_other _ _ (Ne.symm hb)).trans e
  have n : ∀ {c}, c < S → c ≠ S := fun h => Nat.ne_of_lt h
  refine wpAny_bind (wpAny_letGo ?_)
  refine z_extend hh D hn hx hend (oth _ _ (n D.z) hz) (oth _ _ (n D.TI) hTI) (oth _ _ (n D.TO) hTO) (h1.at fun o e => oth _ _ (n D.i1) e) (h2.at fun o e => oth _ _ (n D.i2) e) (hA.at fun o e => oth _ _ (n D.a) e) (hB.at fun o e => oth _ _ (n D.b) e) .none _ hS₂ fun h' tk acc c as hk hS' hl hG hacc => ?_
  exact hR h' tk acc c as (fun b o hb a1 a2 a3 a4 e => hk b o hb a1 a2 a3 a4 (oth b o hb e)) hS' hl hG hacc
theorem z_call {Q : Value → Shared → Prop} {n : Nat} (hh : A.handled = none) (D : ZAp z TI TO i1 i2 a b s.heap.objs.size) (hn : n ≤ sizeLine) (hx : ∀ i, i < n → (∃ x, xs[i]? = some x) ∧ ∃ y, ys[i]? = some y) (hend : xs[n]? = none ∨ ys[n]? = none)
    (hz : IsZip s.heap z TI TO .none) (hTI : IsPair s.heap TI (.ref i1) (.ref i2)) (hTO : IsPair s.heap TO .none .none) (h1 : s.heap.IsListIter i1 a 0) (h2 : s.heap.IsListIter i2 b 0) (hA : s.heap.IsList a xs) (hB : s.heap.IsList b ys)
    (hQ : ∀ h' tk acc c as, (∀ b o, b ≠ z → b ≠ TO → b ≠ i1 → b ≠ i2 → s.heap.get? b = some o → h'.get? b = some o) → h'.get? s.heap.objs.size = some { cls := .type "list", dict := none, data := .seq acc c, slots := #[] } → as.length = n → ZMade xs ys s.heap.objs.size h' as →
      acc.toList = as.map Value.ref → Q (.ref s.heap.objs.size) { s with heap := h', toks := tk }) :
    wpAny (model prog w) A (call (.type "list") [.ref z]) Q E s := by
  refine callType_codes (Q₁ := fun obj s₁ => obj = .ref s.heap.objs.size ∧ s₁ = { s with heap := s.heap.push { cls := .type "list", data := .seq #[] } }) PySem.F.called_list (PySem.F.typeCall_list_1 _) PySem.F.entry_list_init
    (code_list_new _ ⟨rfl, rfl⟩) fun obj s₁ h₁ => ?_
  obtain ⟨rfl, rfl⟩ := h₁
  have hS : (s.heap.push { cls := .type "list", data := .seq #[] }).get? s.heap.objs.size = some { cls := .type "list", data := .seq #[] } := Heap.get?_push_size _ rfl
  have pu : ∀ b o, s.heap.get? b = some o → (s.heap.push { cls := .type "list", data := .seq #[] }).get? b = some o := fun b o e => Heap.get?_push_of_some _ e
  refine ⟨⟨_, hS, rfl⟩, PySem.F.args_list_init_2 _ _, z_init (A := A.in1) hh D hn hx hend (pu _ _ hz) (pu _ _ hTI) (pu _ _ hTO) (h1.at fun o e => pu _ _ e) (h2.at fun o e => pu _ _ e) (hA.at fun o e => pu _ _ e) (hB.at fun o e => pu _ _ e) hS fun h' tk acc c as hk hS' hl hG hacc => ?_⟩
  exact ⟨rfl, hQ h' tk acc c as (fun b o a1 a2 a3 a4 e => hk b o (Nat.ne_of_lt (Heap.lt_size e)) a1 a2 a3 a4 (pu b o e)) hS' hl hG hacc⟩
end
/-- list(zip(a, b)), a and b lists -/
def tListZip (K : PySem.W.Frag) (ta : TA) : TE := fun σ H Q => ta σ H fun vs H1 => ∃ a b xs ys, vs = [.ref a, .ref b] ∧ SqL K H1 a xs ∧ SqL K H1 b ys ∧
  ∀ (S : Addr) (as : List Addr) (H' : Hp), H1 S = none → (∀ b o, H1 b = some o → H' b = some o) → H' S = some (.lst (as.map V.ref)) → as.length = min xs.length ys.length →
    (∀ (j : Nat) (t : Addr), as[j]? = some t → ∃ x y, xs[j]? = some x ∧ ys[j]? = some y ∧ H' t = some (.tup [x, y])) → Q (.ref S) H'
theorem pe_listZip {X : Cx} {e e2 : Expr} {ta : TA} {p p2 q pos : Pos} (hc : X.calm = true) (hg : Gl X "list") (hm : X.mg "list" = none) (hg2 : Gl X "zip") (hm2 : X.mg "zip" = none) (ha : PA X [e, e2] ta)
    (hs : starEach [e, e2] X.env = (false, eval e X.env) :: starEach [e2] X.env := by rfl) (hpl : (backTo q (starEach [e2] X.env)).any (·.1) = false := by rfl)
    (na : starEach [.Call (.Name "zip" p2) [e, e2] [] q] X.env = (false, eval (.Call (.Name "zip" p2) [e, e2] [] q) X.env) :: starEach [] X.env := by rfl) :
    PE X (.Call (.Name "list" p) [.Call (.Name "zip" p2) [e, e2] [] q] [] pos) (tListZip X.K ta) := by
  refine ⟨fun pins s σ H Q I h => ?_⟩
  refine Call_ (ld_blt I hg hm PyProof.Rows.boot_list ?_)
  refine PyProof.Rows.callWith_type1 (PyProof.Rows.args_cons ?_ na) na rfl
  refine Call_ (ld_blt I hg2 hm2 PyProof.Rows.boot_zip (PyProof.Rows.callWith_type1 (thn (ha.run q pins s σ H _ I h) fun us s1 ⟨vs, H1, I1, r1, q1⟩ => ?_) hs hpl))
  obtain ⟨a, b, xs, ys, ex, hqx, hqy, k⟩ := q1
  subst ex
  cases r1 with
  | cons r rr =>
    cases rr with
    | cons r' rr =>
      cases rr
      cases r
      cases r'
      obtain ⟨its, rv, p1, z1⟩ := I1.list hqx
      obtain ⟨its2, rv2, p2', z2⟩ := I1.list hqy
      have la : a < s1.heap.objs.size := p1.lt
      have lb : b < s1.heap.objs.size := p2'.lt
      have l1 := rv.length
      have l2 := rv2.length
      refine call_zip_2 p1.isList p2'.isList fun h' hz hTI hTO h1 h2 hsz hk => ?_
      refine PyProof.Rows.args_nil ?_
      have D : ZAp (s1.heap.objs.size + 4) (s1.heap.objs.size + 2) (s1.heap.objs.size + 3) s1.heap.objs.size (s1.heap.objs.size + 1) a b h'.objs.size := by
        have ltn : ∀ {c : Nat}, c < s1.heap.objs.size + 5 → c < h'.objs.size := fun h => by rw [hsz]; exact h
        exact ⟨PySem.W.ktu_apart s1.heap.objs.size a b la lb, ltn (by omega), ltn (by omega), ltn (by omega), ltn (by omega), ltn (by omega), ltn (Nat.lt_of_lt_of_le la (by omega)), ltn (Nat.lt_of_lt_of_le lb (by omega))⟩
      have gx : ∀ i, i < its.length → its.toArray[i]? = its[i]? := fun i _ => by simp
      refine z_call (s := { s1 with heap := h' }) (n := min xs.length ys.length) (I1.ok.hd hc) D (by omega) (fun i hi => ⟨⟨its[i]'(by omega), by simp⟩, its2[i]'(by omega), by simp⟩) (by
        by_cases q : xs.length ≤ ys.length
        · exact .inl (by simp; omega)
        · exact .inr (by simp; omega)) hz hTI hTO h1 h2 ((p1.isList).at fun o e => hk a o e) ((p2'.isList).at fun o e => hk b o e) fun h3 tk acc c as hk3 hS hl hG hacc => ?_
      dsimp only at hk3 hS hG ⊢
      have old : ∀ b o, s1.heap.get? b = some o → h3.get? b = some o := fun b o e => by
        have hlt : b < s1.heap.objs.size := Heap.lt_size e
        have up : ∀ c, s1.heap.objs.size ≤ c → b ≠ c := fun c hc' => Nat.ne_of_lt (Nat.lt_of_lt_of_le hlt hc')
        exact hk3 b o (up _ (by omega)) (up _ (by omega)) (up _ (Nat.le_refl _)) (up _ (by omega)) (hk b o e)
      have nle : s1.heap.objs.size ≤ h'.objs.size := by rw [hsz]; exact Nat.le_add_right _ _
      have hSn : H1 h'.objs.size = none := I1.hok.fresh nle
      have I2 : L2.Inv X pins σ (upd H1 h'.objs.size (.lst (as.map V.ref))) { s1 with heap := h3, toks := tk } :=
        I1.laid old nle ⟨by rw [List.length_map, hl]; omega, acc.toList, c, by rw [hacc]; exact vals_refs as, by rw [Array.toArray_toList]; exact hS⟩
      have nd : as.Nodup := List.Pairwise.imp (fun {a b} (h : a < b) => Nat.ne_of_lt h) hG.rise
      obtain ⟨H2, I3, g1, g2⟩ := DX.takeT (P := fun t vs => ∃ (j : Nat) (x y : V), as[j]? = some t ∧ xs[j]? = some x ∧ ys[j]? = some y ∧ vs = [x, y]) I1 as _ I2 nd (fun t ht => by
        have hlo := hG.above t ht
        refine ⟨Nat.le_trans nle (Nat.le_of_lt hlo), ?_, ?_⟩
        · rw [upd_ne (Nat.ne_of_gt hlo)]
          exact I1.hok.fresh (Nat.le_trans nle (Nat.le_of_lt hlo))
        · obtain ⟨j, hj⟩ := List.mem_iff_getElem?.mp ht
          obtain ⟨x', y', e1, e2, e3⟩ := hG.pairs j t hj
          have hjn : j < as.length := (List.getElem?_eq_some_iff.mp hj).1
          obtain ⟨u1, hu1, ru1⟩ := rv.get (List.getElem?_eq_getElem (l := xs) (i := j) (by omega))
          obtain ⟨u2, hu2, ru2⟩ := rv2.get (List.getElem?_eq_getElem (l := ys) (i := j) (by omega))
          have ex' : x' = u1 := by simpa [hu1] using e1.symm
          have ey' : y' = u2 := by simpa [hu2] using e2.symm
          subst ex' ey'
          exact ⟨[xs[j]'(by omega), ys[j]'(by omega)], ⟨j, _, _, hj, List.getElem?_eq_getElem (by omega), List.getElem?_eq_getElem (by omega), rfl⟩, fun H2 => ⟨by show 2 ≤ sizeLine; decide, [x', y'], .cons ru1 (.cons ru2 .nil), ⟨_, e3, rfl, _, rfl⟩⟩⟩)
      refine ⟨.ref h'.objs.size, H2, I3, rfl, k _ as H2 hSn (fun b o e => g1 b o (by rw [upd_ne (ne_of_none e hSn)]; exact e)) (g1 _ _ upd_same) hl fun j t hj => ?_⟩
      obtain ⟨vs, ⟨j', x, y, hj', hx, hy, rfl⟩, e⟩ := g2 t (List.mem_of_getElem? hj)
      have ej : j' = j := by
        have h1 := (List.getElem?_eq_some_iff.mp hj').1
        have h2 := (List.getElem?_eq_some_iff.mp hj).1
        refine (List.getElem_inj nd (h₀ := h1) (h₁ := h2)).mp ?_
        rw [(List.getElem?_eq_some_iff.mp hj').2, (List.getElem?_eq_some_iff.mp hj).2]
      subst ej
      exact ⟨x, y, hx, hy, e⟩
end K12
set_option linter.all false
set_option maxRecDepth 100000
set_option maxHeartbeats 1600000
/-! K12w30: Rounds: made, free, put. -/
namespace K12
open PySem PySem.Spec PyProof.Rows L2
structure Rcl (K : PySem.W.Frag) (C : Addr) : Prop where
  cl : Cls K C
  nM : NoAttr K C "many"
  nP : NoAttr K C "partners"
section
variable {P : Program} {w : World} {K : PySem.W.Frag} {mg : Str → Option Value} {base : Heap}
abbrev rds : Stmt := top 3
/-! ### __init__ -/
def spRI (K : PySem.W.Frag) (C : Addr) : Sp := fun vs H Q _ => ∃ (c dx : Addr) (m : Nat), vs = [.ref c, iv m] ∧ H c = some (.ins C dx []) ∧ ∀ p H', H p = none → H' c = some (.ins C dx (fldsR m p)) → H' p = some (.dT []) → Fr (S1 c) H H' → Q .non H'
abbrev sRI : Stmt := inClass rds 0
abbrev psRI : List Str := ["self", "many"]
theorem scRI : FnScope psRI psRI (defScope sRI) := ⟨rfl, rfl, rfl, by decide +kernel, rfl, by decide +kernel, by decide +kernel⟩
theorem ok_RI {C : Addr} (D : Di K mg C "Rounds" "Rounds.__init__" sRI psRI) (T : Bi mg) (L : Rcl K C) : Ini P w K mg base C "Rounds" psRI 1 (spRI K C) := by
  refine D.ok scRI (fun vs H Q E h => ?_) (fun f cdv A outer s H vs Q E hr h => ?_)
  · obtain ⟨c, dx, m, rfl, _⟩ := h
    rfl
  · obtain ⟨c, dx, m, rfl, hc, k⟩ := h
    refine ⟨_, pss_cons (ps_fld (pv 0) (pv 1) rfl) (pss_one (ps_fld (pv 0) pe_dnewT rfl)), ?_⟩
    refine ⟨_, rfl, _, rfl, c, C, dx, [], rfl, hc, L.cl, L.nM, by show 0 < 1000; decide, ?_⟩
    have f1 : Fr (S1 c) H (upd H c (.ins C dx (putF "many" (iv m) []))) := (Fr.refl _ _).set rfl (by rw [hc]; intro z q; cases q)
    intro p hp
    have ncp : c ≠ p := ne_of_none (show upd H c (.ins C dx (putF "many" (iv m) [])) c = _ from upd_same) hp
    have hp0 : H p = none := by rw [upd_ne ncp.symm] at hp; exact hp
    refine ⟨_, rfl, c, C, dx, _, rfl, by rw [upd_ne ncp]; exact upd_same, L.cl, L.nP, by show 1 < 1000; decide, ?_⟩
    refine k p _ hp0 upd_same (by rw [upd_ne ncp.symm]; exact upd_same) ((f1.new hp).set rfl (by rw [upd_ne ncp, upd_same]; intro z q; cases q))
theorem RS.start {C : Addr} {B H : Hp} {c p dx : Addr} {m : Nat} (hb : Fr S0 B H) (bc : B c = none) (bp : B p = none) (hc : H c = some (.ins C dx (fldsR m p))) (hp : H p = some (.dT [])) : RS C B H c p m noPt :=
  ⟨⟨dx, hc⟩, ⟨[], hp, List.nodup_nil, fun e h => by simp at h, fun u _ k => rfl, fun u v h => (by cases h), fun u u' v h => (by cases h)⟩, hb, bc, bp⟩
/-! ### free -/
def spFree (K : PySem.W.Frag) (C : Addr) : Sp := fun vs H Q _ => ∃ (B : Hp) (c p : Addr) (m : Nat) (P : Pt) (q : Addr) (u : Nd), vs = [.ref c, .ref q] ∧ RS C B H c p m P ∧ NdAt H q u ∧ m ≤ 1000 ∧ (∃ k, k < m ∧ P u k = none) ∧
  ∀ H', Fr S0 H H' → Q (iv (free P m u)) H'
abbrev sFree : Stmt := inClass rds 1
abbrev psFree : List Str := ["self", "node"]
abbrev nFree : List Str := ["self", "node", "taken", "number"]
theorem scFree : FnScope nFree psFree (defScope sFree) := ⟨rfl, rfl, rfl, by decide +kernel, rfl, by decide +kernel, by decide +kernel⟩
/-- what partners.get(node, {}) gives -/
theorem got {C : Addr} {B H : Hp} {c p : Addr} {m : Nat} {P : Pt} {kvs : List (List L2.Key × V)} (R : RD B H p m P kvs) (u : Nd) {z : Addr} (hz : H z = none) :
    ∃ ta dk, (valV kvs (ndK u)).getD (.ref z) = .ref ta ∧ upd H z (.dK []) ta = some (.dK dk) ∧ ∀ k : Nat, (valV dk (.inl (k : Int))).isSome = (P u k).isSome := by
  have n1 : Fr S0 H (upd H z (.dK [])) := (Fr.refl _ _).new hz
  cases e : valV kvs (ndK u) with
  | none => exact ⟨z, [], rfl, upd_same, fun k => by rw [R.no u e k]; rfl⟩
  | some v =>
    obtain ⟨a, dk, rfl, _, d⟩ := R.yes u v e
    refine ⟨a, dk, rfl, n1.keep _ _ d.at_ (fun z => z), fun k => ?_⟩
    cases ep : P u k with
    | none => rw [d.no k ep]; rfl
    | some x => obtain ⟨q, h1, _⟩ := d.yes k x ep; rw [h1]; rfl
theorem ok_free {C : Addr} (D : Dm K C "free" "Rounds.free" sFree psFree) (T : Bi mg) (L : Rcl K C) : Mt P w K mg base C "free" psFree 1 (spFree K C) := by
  refine D.ok scFree (fun vs H Q E h => ?_) (fun f cdv A outer s H vs Q E hr h => ?_)
  · obtain ⟨B, c, p, m, P0, q, u, rfl, _⟩ := h
    rfl
  · obtain ⟨B, c, p, m, P0, q, u, rfl, hR, hq, hm, hex, k⟩ := h
    have hu := hu_of hr
    refine ⟨_, pss_cons (ps_set (i := 2) scFree.nd rfl (Or.inr rfl) (pe_dget2 hu (pe_fld (pv 0) rfl) (pv 1) pe_dnewK (⟨rfl, rfl, rfl, rfl⟩))) (pss_one (ps_ret (pe_ix ix_list (pe_lc (own := [("number", 3)]) (g := gName 3) (tt := _) rfl scFree.nd (pi_range1 rfl T.range (pa_cons (pe_fld (pv 0) rfl) pa_nil)) (blkOk_by (N := nFree) (sc := defScope sFree) (by decide +kernel)) (fun _ _ _ _ _ => pg_name (i := 3) scFree.nd rfl (Or.inl rfl)) (fun _ _ _ _ _ => pts_one (pt_cmp (pc_dnotin hu (pv 3) (pv 2)))) (fun _ _ _ _ _ => pv 3)) pe_int (fun _ _ => rfl)))), ?_⟩
    obtain ⟨⟨dx, h1⟩, ⟨kvs, R⟩, _⟩ := id hR
    refine ⟨_, rfl, c, C, dx, _, _, rfl, h1, L.cl, L.nP, fldsR_part _ _, p, rfl, .inr ⟨_, Rd.of R.at_⟩, _, rfl, fun z hz => ?_⟩
    have n1 : Fr S0 H (upd H z (.dK [])) := (Fr.refl _ _).new hz
    obtain ⟨ta, dk, e1, e2, e3⟩ := got (C := C) (c := c) R u hz
    refine ⟨_, DGet.t (n1.keep _ _ R.at_ (fun z => z)) (hq.fr n1), ?_⟩
    rw [e1]
    generalize upd H z (.dK []) = H1 at n1 e2
    refine ⟨_, rfl, c, C, dx, _, _, rfl, n1.keep _ _ h1 (fun z => z), L.cl, L.nM, fldsR_many _ _, _, rfl, by omega, by omega, fun d hd => lc_range (lo := 0) (n := m) (fun i H' => Fr S0 H1 H' ∧ H' d = some (.lst (ivs ((List.range i).filter fun x => (P0 u x).isNone)))) ?_ ?_ ?_⟩
    · exact ⟨(Fr.refl _ _).new hd, upd_same⟩
    · rintro i H' hi ⟨f2, g1⟩
      have ee : ((0 : Int) + (i : Int)) = (i : Int) := by omega
      rw [ee]
      have dg : DGet H' ta (iv i) (valV dk (.inl (i : Int))) := DGet.k (k := Sum.inl (i : Int)) (f2.keep _ _ e2 (fun z => z))
      refine ⟨rfl, _, rfl, _, rfl, ta, _, rfl, dg, _, rfl, ?_⟩
      rw [e3 i, List.range_succ, List.filter_append]
      cases ep : P0 u i with
      | none =>
        refine iteT ⟨_, rfl, _, g1, ?_, f2.mut hd, ?_⟩
        · rw [ivs_len]
          have := List.length_filter_le (fun x => (P0 u x).isNone) (List.range i)
          rw [List.length_range] at this
          exact sz (by omega)
        · rw [upd_same, ivs_app]; simp [ep]
      | some x =>
        refine iteF ⟨f2, ?_⟩
        rw [g1]; simp [ep]
    · rintro H' ⟨f2, g1⟩
      have hne : ∃ y ys, (List.range m).filter (fun x => (P0 u x).isNone) = y :: ys := by
        obtain ⟨j, hj, hn⟩ := hex
        have hm : j ∈ (List.range m).filter (fun x => (P0 u x).isNone) := by rw [List.mem_filter]; simp [hj, hn]
        cases e : (List.range m).filter (fun x => (P0 u x).isNone) with
        | nil => rw [e] at hm; cases hm
        | cons y ys => exact ⟨y, ys, rfl⟩
      obtain ⟨y, ys, ey⟩ := hne
      have ef : free P0 m u = y := by unfold free; rw [ey]; rfl
      rw [ey] at g1
      refine ⟨d, _, _, _, rfl, rfl, SqL.of g1, atI_nat (j := 0) (show (ivs (y :: ys))[0]? = some (iv y) from rfl), ?_⟩
      rw [← ef]
      exact k H' (n1.trans f2)
/-! ### put -/
def spPut (K : PySem.W.Frag) (C : Addr) : Sp := fun vs H Q _ => ∃ (B : Hp) (c p : Addr) (m : Nat) (P : Pt) (qa qb : Addr) (a b : Nd) (k : Nat), vs = [.ref c, .ref qa, .ref qb, iv k] ∧ RS C B H c p m P ∧ NdAt H qa a ∧ NdAt H qb b ∧ NdB a ∧ NdB b ∧ k < m ∧ m ≤ 1000 ∧
  ∀ H', RS C B H' c p m (put P a b k) → FD H H' → Q .non H'
abbrev sPut : Stmt := inClass rds 2
abbrev psPut : List Str := ["self", "one", "other", "number"]
theorem scPut : FnScope psPut psPut (defScope sPut) := ⟨rfl, rfl, rfl, by decide +kernel, rfl, by decide +kernel, by decide +kernel⟩
theorem half {C : Addr} (L : Rcl K C) {B H : Hp} {c p : Addr} {m : Nat} {P : Pt} {qa qb : Addr} {a b : Nd} {k : Nat} (hR : RS C B H c p m P) (ha : NdAt H qa a) (hb : NdAt H qb b) (hna : NdB a) (hk : k < m) (hm : m ≤ 1000)
    {σ : L2.St} {i j l : Nat} (s0 : σ[0]? = some (some (.ref c))) (si : σ[i]? = some (some (.ref qa))) (sj : σ[j]? = some (some (iv k))) (sl : σ[l]? = some (some (.ref qb))) {D : Ends}
    (nx : ∀ H', RS C B H' c p m (put1 P a k b) → FD H H' → D.nx σ H') : sDPut (tDSetdT (tFld K (tVar 0) "partners") (tVar i) tDNewK) (tVar j) (tVar l) D σ H := by
  obtain ⟨⟨dx, h1⟩, ⟨kvs, R⟩, _⟩ := id hR
  refine ⟨_, sl, _, s0, c, C, dx, _, _, rfl, h1, L.cl, L.nP, fldsR_part _ _, p, rfl, .inr ⟨_, Rd.of R.at_⟩, _, si, fun z hz => ?_⟩
  have n1 : Fr S0 H (upd H z (.dK [])) := (Fr.refl _ _).new hz
  have hlen := R.len
  refine ⟨kvs, ndK a, qa, n1.keep _ _ R.at_ (fun z => z), rfl, ha.fr n1, sz (by omega), fun v hv => ?_, fun hn => ?_⟩
  · have R1 := R.fr0 n1
    have hR1 := hR.fr0 n1
    obtain ⟨d, dk, rfl, _, dd⟩ := R1.yes a v hv
    have := dd.len
    have dd' := dd.store hk (hb.fr n1)
    obtain ⟨q1, q2, q3⟩ := hR1.inner R1 hv dd' (fun v hv => by funext x; unfold put1; rw [if_neg fun q => hv q.1]) dd
    exact ⟨_, sj, d, _, rfl, DPut.k (k := Sum.inl (k : Int)) dd.at_ (sz (by omega)), nx _ q1 ((FD.of n1).trans q3)⟩
  · obtain ⟨q1, q2, q3, q4⟩ := hR.newNode R hn hna hz
    have dd' := q4.store hk (hb.fd q3)
    obtain ⟨g1, g2, g3⟩ := q1.inner q2 (by rw [valV_put, if_pos rfl]) dd' (fun v hv => by funext x; unfold put1; rw [if_neg fun q => hv q.1]) q4
    exact ⟨_, sj, z, _, rfl, DPut.k (k := Sum.inl (k : Int)) q4.at_ (by decide), nx _ g1 (q3.trans g3)⟩
theorem ok_put {C : Addr} (D : Dm K C "put" "Rounds.put" sPut psPut) (T : Bi mg) (L : Rcl K C) : Mt P w K mg base C "put" psPut 1 (spPut K C) := by
  refine D.ok scPut (fun vs H Q E h => ?_) (fun f cdv A outer s H vs Q E hr h => ?_)
  · obtain ⟨B, c, p, m, P0, qa, qb, a, b, k, rfl, _⟩ := h
    rfl
  · obtain ⟨B, c, p, m, P0, qa, qb, a, b, k, rfl, hR, ha, hb, na, nb, hk, hm, kk⟩ := h
    have hu := hu_of hr
    refine ⟨_, pss_cons (ps_dput hu (pe_dsetdT hu (pe_fld (pv 0) rfl) (pv 1) pe_dnewK (⟨rfl, rfl, rfl, rfl⟩)) (pv 3) (pv 2) rfl) (pss_one (ps_dput hu (pe_dsetdT hu (pe_fld (pv 0) rfl) (pv 2) pe_dnewK (⟨rfl, rfl, rfl, rfl⟩)) (pv 3) (pv 1) rfl)), ?_⟩
    refine half L hR ha hb na hk hm rfl rfl rfl rfl fun H1 r1 f1 => ?_
    refine half L r1 (hb.fd f1) (ha.fd f1) nb hk hm rfl rfl rfl rfl fun H2 r2 f2 => ?_
    exact kk H2 r2 (f1.trans f2)
end
end K12
set_option linter.all false
set_option maxRecDepth 100000
set_option maxHeartbeats 1600000
/-! K12w31: Rounds: chain. -/
namespace K12
open PySem PySem.Spec PyProof.Rows L2
theorem atI_end {α : Type} {xs : List α} {v : α} (h : xs[xs.length - 1]? = some v) : atI xs (-1) = some v := by
  have hl : xs.length - 1 < xs.length := (List.getElem?_eq_some_iff.mp h).1
  have hn : xs ≠ [] := fun q => by subst q; simp at hl
  have e : xs = xs.dropLast ++ [v] := by
    have h1 := (List.dropLast_concat_getLast hn).symm
    have h2 : xs.getLast hn = v := by
      rw [List.getLast_eq_getElem]
      exact (List.getElem?_eq_some_iff.mp h).2
    rw [h2] at h1; exact h1
  rw [e]; exact atI_last _ _
/-- a list of nodes' tuples -/
def NdL (H : Hp) (f : Addr) (qs : List Addr) (ns : List Nd) : Prop := H f = some (.lst (qs.map V.ref)) ∧ qs.length = ns.length ∧ ∀ (j : Nat) (u : Nd), ns[j]? = some u → ∃ q, qs[j]? = some q ∧ NdAt H q u
section
variable {P : Program} {w : World} {K : PySem.W.Frag} {mg : Str → Option Value} {base : Heap}
def spChain (K : PySem.W.Frag) (C : Addr) : Sp := fun vs H Q _ => ∃ (B : Hp) (c p : Addr) (m : Nat) (P : Pt) (D : List (Nat × Nat)) (q : Addr) (x h t : Nat), vs = [.ref c, .ref q, iv h, iv t] ∧ RS C B H c p m P ∧ NdAt H q (.th x) ∧ Col P D m ∧ P (.th x) t = none ∧ D.length ≤ 5000 ∧
  ∀ f qs ns H', H f = none → NdL H' f qs ns → Chain P h t (.th x) ns → Fr S0 H H' → Q (.ref f) H'
abbrev sChain : Stmt := inClass rds 3
abbrev psChain : List Str := ["self", "node", "here", "there"]
abbrev nChain : List Str := ["self", "node", "here", "there", "found"]
theorem scChain : FnScope nChain psChain (defScope sChain) := ⟨rfl, rfl, rfl, by decide +kernel, rfl, by decide +kernel, by decide +kernel⟩
theorem ok_chain {C : Addr} (D : Dm K C "chain" "Rounds.chain" sChain psChain) (T : Bi mg) (L : Rcl K C) : Mt P w K mg base C "chain" psChain 1 (spChain K C) := by
  refine D.ok scChain (fun vs H Q E h => ?_) (fun f cdv A outer s H vs Q E hr h => ?_)
  · obtain ⟨B, c, p, m, P0, D0, q, x, h, t, rfl, _⟩ := h
    rfl
  · obtain ⟨B, c, p, m, P0, D0, q, x, h, t, rfl, hR, hq, hC, hx, hD, k⟩ := h
    have hu := hu_of hr
    refine ⟨_, pss_cons (ps_set (i := 4) scChain.nd rfl (Or.inl rfl) (pe_lst (pa_cons (pv 1) pa_nil))) (pss_cons (ps_while PassesOwn.never (pt_cmp (pc_din hu (pv 2) (pe_dget2 hu (pe_fld (pv 0) rfl) (pe_ix ix_list (pv 4) (pe_un un_neg pe_int) (fun _ _ => rfl)) pe_dnewK (⟨rfl, rfl, rfl, rfl⟩)))) (pss_cons (ps_expr (pe_bm PySem.F.plainAttrs_list PySem.F.slot_list_append PySem.F.type_list_append mt_append (pv 4) (pa_cons (pe_dget hu (pe_dget hu (pe_fld (pv 0) rfl) (pe_ix ix_list (pv 4) (pe_un un_neg pe_int) (fun _ _ => rfl)) (fun _ _ => rfl)) (pv 2) (fun _ _ => rfl)) pa_nil))) (pss_one (ps_par (by rfl) scChain.nd (i := 2) (j := 3) rfl rfl (by decide) rfl rfl (pa_cons (pv 3) (pa_cons (pv 2) pa_nil)) (by rfl))))) (pss_one (ps_ret (pv 4)))), ?_⟩
    refine ⟨_, rfl, by show 1 ≤ sizeLine; decide, fun f hf => ?_⟩
    refine ⟨fun mm σ H' => ∃ (ns : List Nd) (qs : List Addr), mm = 2 * D0.length + 1 - ns.length ∧ σ = [some (.ref c), some (.ref q), some (iv (col h t (ns.length - 1))), some (iv (col t h (ns.length - 1))), some (.ref f)] ∧ Way P0 h t ns ∧ ns[0]? = some (.th x) ∧ NdL H' f qs ns ∧ Fr S0 H H', ⟨_, [.th x], [q], rfl, rfl, ⟨by simp, fun k hk => by simp at hk⟩, rfl, ⟨upd_same, rfl, fun j u e => ?_⟩, (Fr.refl _ _).new hf⟩, ?_⟩
    · cases j with
      | zero => cases Option.some.inj e; exact ⟨q, rfl, hq.fr ((Fr.refl S0 _).new hf)⟩
      | succ j => simp at e
    · rintro mm σ H1 ⟨ns, qs, rfl, rfl, hw, h0, ⟨n1, n2, n3⟩, f1⟩
      have hne := hw.ne
      have hsh := hw.short hC h0 hx
      have hR1 := hR.fr0 f1
      obtain ⟨⟨dx, g1⟩, ⟨kvs, R⟩, _⟩ := id hR1
      obtain ⟨y, ey⟩ : ∃ y, ns[ns.length - 1]? = some y := ⟨_, List.getElem?_eq_getElem (by omega)⟩
      obtain ⟨qy, eqy, hqy⟩ := n3 _ _ ey
      have lst : (qs.map V.ref)[(qs.map V.ref).length - 1]? = some (.ref qy) := by
        rw [List.length_map, List.getElem?_map, n2, eqy]; rfl
      refine ⟨_, rfl, _, rfl, c, C, dx, _, _, rfl, g1, L.cl, L.nP, fldsR_part _ _, p, rfl, .inr ⟨_, Rd.of R.at_⟩, _, rfl, 1, rfl, f, _, _, _, rfl, rfl, SqL.of n1, atI_end lst, fun z hz => ?_⟩
      have f2 : Fr S0 H1 (upd H1 z (.dK [])) := (Fr.refl _ _).new hz
      obtain ⟨ta, dk, e1, e2, e3⟩ := got (C := C) (c := c) R y hz
      refine ⟨_, DGet.t (f2.keep _ _ R.at_ (fun z => z)) (hqy.fr f2), ?_⟩
      rw [e1]
      have dg := DGet.k (k := Sum.inl ((col h t (ns.length - 1) : Nat) : Int)) e2
      refine ⟨ta, _, rfl, dg, _, rfl, ?_⟩
      rw [e3]
      have f02 := f1.trans f2
      have hR2 := hR.fr0 f02
      have m1 := f2.keep _ _ n1 (fun z => z)
      generalize upd H1 z (.dK []) = H2 at f2 f02 hR2 m1
      have m3 : ∀ (j : Nat) (u : Nd), ns[j]? = some u → ∃ q, qs[j]? = some q ∧ NdAt H2 q u := fun j u e => by obtain ⟨q, a1, a2⟩ := n3 j u e; exact ⟨q, a1, a2.fr f2⟩
      cases ep : P0 y (col h t (ns.length - 1)) with
      | none =>
        refine iteF ⟨_, rfl, k f qs ns H2 hf ⟨m1, n2, m3⟩ ⟨hw, h0, fun y' hy' => ?_⟩ f02⟩
        rw [ey] at hy'; cases hy'; exact ep
      | some y2 =>
        have hw2 := hw.snoc ey ep
        have hsh2 := hw2.short hC (by rw [List.getElem?_append_left hne]; exact h0) hx
        simp only [List.length_append, List.length_singleton] at hsh2
        refine iteT ⟨fun σ' H' => ∃ (qs' : List Addr), σ' = [some (.ref c), some (.ref q), some (iv (col h t ns.length)), some (iv (col t h ns.length)), some (.ref f)] ∧ NdL H' f qs' (ns ++ [y2]) ∧ Fr S0 H H', ?_, ?_⟩
        · rintro σ' H' ⟨qs', rfl, a1, a2⟩
          refine ⟨2 * D0.length + 1 - (ns ++ [y2]).length, by simp only [List.length_append, List.length_singleton]; omega, ns ++ [y2], qs', rfl, ?_, hw2, by rw [List.getElem?_append_left hne]; exact h0, a1, a2⟩
          simp
        · obtain ⟨⟨dx2, b1⟩, ⟨kvs2, R2⟩, _⟩ := id hR2
          have hv : ∃ v, valV kvs2 (ndK y) = some v := by
            cases ev : valV kvs2 (ndK y) with
            | some v => exact ⟨v, rfl⟩
            | none => rw [R2.no y ev] at ep; cases ep
          obtain ⟨v, ev⟩ := hv
          obtain ⟨a, dk2, rfl, _, dd⟩ := R2.yes y v ev
          obtain ⟨q2, w1, w2⟩ := dd.yes _ _ ep
          have dg1 := DGet.t R2.at_ (hqy.fr f2)
          rw [ev] at dg1
          have dg2 := DGet.k (k := Sum.inl ((col h t (ns.length - 1) : Nat) : Int)) dd.at_
          rw [w1] at dg2
          have g4 : Fr (S1 f) H2 (upd H2 f (.lst ((qs.map V.ref) ++ [.ref q2]))) := (Fr.refl _ _).set rfl (lst_ne_tup m1)
          refine ⟨_, rfl, .inl ⟨rfl, _, SqL.of m1⟩, _, rfl, c, C, dx2, _, _, rfl, b1, L.cl, L.nP, fldsR_part _ _, _, rfl, 1, rfl, f, _, _, _, rfl, rfl, SqL.of m1, atI_end lst, p, _, rfl, dg1, _, rfl, a, _, rfl, dg2, f, _, _, rfl, rfl, m1, by rw [List.length_map, n2]; exact sz (by omega), ?_⟩
          refine ⟨_, rfl, _, rfl, _, _, rfl, qs ++ [q2], ?_, ⟨by rw [upd_same]; simp, by simp [n2], fun j u e => ?_⟩, f02.mut hf⟩
          · have e1 : col h t ns.length = col t h (ns.length - 1) := by
              obtain ⟨n, hn⟩ : ∃ n, ns.length = n + 1 := ⟨ns.length - 1, by omega⟩
              rw [hn, col_succ]; rfl
            have e2 : col t h ns.length = col h t (ns.length - 1) := by
              obtain ⟨n, hn⟩ : ∃ n, ns.length = n + 1 := ⟨ns.length - 1, by omega⟩
              rw [hn, col_succ]; rfl
            rw [e1, e2]; rfl
          · by_cases hj : j < ns.length
            · rw [List.getElem?_append_left hj] at e
              obtain ⟨q', a1, a2⟩ := m3 j u e
              exact ⟨q', by rw [List.getElem?_append_left (by omega)]; exact a1, a2.fr g4⟩
            · rw [List.getElem?_append_right (by omega)] at e
              have ej : j = ns.length := by
                have := (List.getElem?_eq_some_iff.mp e).1
                simp at this; omega
              subst ej
              simp at e; subst e
              exact ⟨q2, by rw [List.getElem?_append_right (by omega)]; simp [n2], w2.fr g4⟩
end
end K12
set_option linter.all false
set_option maxRecDepth 100000
set_option maxHeartbeats 1600000
/-! K12w32: Rounds: turn, add. -/
namespace K12
open PySem PySem.Spec PyProof.Rows L2
theorem par_if {σ : L2.St} {H : Hp} {Q : VK} {s a b i va vb : Nat} (hs : σ[s]? = some (some (iv i))) (ha : σ[a]? = some (some (iv va))) (hb : σ[b]? = some (some (iv vb))) (q : Q (iv (col va vb i)) H) :
    tIf (tTest (tOp rEq (tOp (rI (fun _ j => 0 < j) fun i j => .int (i % j)) (tVar s) (tC (.int 2))) (tC (.int 0)))) (tVar a) (tVar b) σ H Q := by
  refine ⟨_, hs, _, _, rfl, rfl, (by decide : (0 : Int) < 2), rfl, _, rfl, ?_⟩
  by_cases h : i % 2 = 0
  · rw [show decide (V.int ((i : Int) % 2) = V.int 0) = true from decide_eq_true (by congr 1; omega)]
    refine iteT ⟨_, ha, ?_⟩
    unfold col at q; rw [if_pos h] at q; exact q
  · rw [show decide (V.int ((i : Int) % 2) = V.int 0) = false from decide_eq_false fun z => h (by have := V.int.inj z; omega)]
    refine iteF ⟨_, hb, ?_⟩
    unfold col at q; rw [if_neg h] at q; exact q
section
variable {P : Program} {w : World} {K : PySem.W.Frag} {mg : Str → Option Value} {base : Heap}
theorem node_bound {P : Pt} {D : List (Nat × Nat)} {m : Nat} (hC : Col P D m) (hb : ∀ e ∈ D, e.1 < 1000 ∧ e.2 < 1000) {u v : Nd} {c : Nat} (e : P u c = some v) : NdB v := by
  have h := hC.node e
  unfold nodesOf at h
  rw [List.mem_flatMap] at h
  obtain ⟨d, hd, hm⟩ := h
  simp only [List.mem_cons, List.not_mem_nil, or_false] at hm
  rcases hm with rfl | rfl
  · exact (hb d hd).1
  · exact (hb d hd).2
/-! ### turn -/
def spTurn (K : PySem.W.Frag) (C : Addr) : Sp := fun vs H Q _ => ∃ (B : Hp) (c p : Addr) (m : Nat) (P : Pt) (D : List (Nat × Nat)) (f : Addr) (x h t : Nat) (qs : List Addr) (ns : List Nd), vs = [.ref c, .ref f, iv h, iv t] ∧ RS C B H c p m P ∧ NdL H f qs ns ∧ Trn P D m h t x ns ∧
  (∀ u ∈ ns, NdB u) ∧ h < m ∧ t < m ∧ m ≤ 1000 ∧ ns.length ≤ 20000 ∧ ∀ H', RS C B H' c p m (putN (delN P h t ns (ns.length - 1)) h t ns (ns.length - 1)) → FD H H' → Q .non H'
abbrev sTurn : Stmt := inClass rds 4
abbrev psTurn : List Str := ["self", "nodes", "here", "there"]
abbrev nTurn : List Str := ["self", "nodes", "here", "there", "pairs", "place", "one", "other", "number"]
theorem scTurn : FnScope nTurn psTurn (defScope sTurn) := ⟨rfl, rfl, rfl, by decide +kernel, rfl, by decide +kernel, by decide +kernel⟩
theorem ok_turn {C : Addr} (D : Dm K C "turn" "Rounds.turn" sTurn psTurn) (T : Bi mg) (L : Rcl K C) (mP : Mt P w K mg base C "put" psPut 1 (spPut K C)) : Mt P w K mg base C "turn" psTurn 2 (spTurn K C) := by
  refine D.ok scTurn (fun vs H Q E h => ?_) (fun f cdv A outer s H vs Q E hr h => ?_)
  · obtain ⟨B, c, p, m, P0, D0, f, x, h, t, qs, ns, rfl, _⟩ := h
    rfl
  · obtain ⟨B, c, p, m, P0, D0, f, x, h, t, qs, ns, rfl, hR, ⟨n1, n2, n3⟩, TR, hnb, hhm, htm, hm, hns, k⟩ := h
    have hu := hu_of hr
    refine ⟨_, pss_cons (ps_set (i := 4) scTurn.nd rfl (Or.inl rfl) (pe_listZip rfl (by rfl) T.list (by rfl) T.zip (pa_cons (pv 1) (pa_cons (pe_slice sl_list (pv 1) (po_some pe_int) po_none) pa_nil)))) (pss_cons (ps_for PassesOwn.never rfl (pi_enum (by rfl) T.enumerate (pa_cons (pv 4) pa_nil)) (pg_tup (by rfl) (pgs_cons (pg_name (i := 5) scTurn.nd rfl (Or.inl rfl)) (pgs_cons (pg_tup (by rfl) (pgs_cons (pg_name (i := 6) scTurn.nd rfl (Or.inl rfl)) (pgs_cons (pg_name (i := 7) scTurn.nd rfl (Or.inl rfl)) pgs_nil))) pgs_nil))) (pss_cons (ps_set (i := 8) scTurn.nd rfl (Or.inl rfl) (pe_ifExp (pt_cmpR op_eq (pe_op op_mod (pv 5) pe_int) pe_int (nomark _)) (pv 2) (pv 3))) (pss_cons (ps_expr (pe_dpop1 (pe_dget hu (pe_fld (pv 0) rfl) (pv 6) (fun _ _ => rfl)) (pv 8) (⟨rfl, rfl, rfl, rfl⟩))) (pss_one (ps_expr (pe_dpop1 (pe_dget hu (pe_fld (pv 0) rfl) (pv 7) (fun _ _ => rfl)) (pv 8) (⟨rfl, rfl, rfl, rfl⟩))))))) (pss_one (ps_for PassesOwn.never rfl (pi_enum (by rfl) T.enumerate (pa_cons (pv 4) pa_nil)) (pg_tup (by rfl) (pgs_cons (pg_name (i := 5) scTurn.nd rfl (Or.inl rfl)) (pgs_cons (pg_tup (by rfl) (pgs_cons (pg_name (i := 6) scTurn.nd rfl (Or.inl rfl)) (pgs_cons (pg_name (i := 7) scTurn.nd rfl (Or.inl rfl)) pgs_nil))) pgs_nil))) (pss_one (ps_expr (pe_mt mP L.cl hr (pv 0) (pa_cons (pv 6) (pa_cons (pv 7) (pa_cons (pe_ifExp (pt_cmpR op_eq (pe_op op_mod (pv 5) pe_int) pe_int (nomark _)) (pv 3) (pv 2)) pa_nil))))))))), ?_⟩
    have hne := TR.ch.way.ne
    have lq : (qs.map V.ref).length = ns.length := by rw [List.length_map, n2]
    refine ⟨_, rfl, _, rfl, _, rfl, f, _, rfl, SqL.of n1, fun z hz => ?_⟩
    have f1 : Fr S0 H (upd H z (.lst (cutV (qs.map V.ref) (some 1) none))) := (Fr.refl _ _).new hz
    refine ⟨f, z, _, _, rfl, SqL.of (f1.keep _ _ n1 (fun z => z)), SqL.of upd_same, fun S as H2 hS keep eS lenS prs => ?_⟩
    rw [cut_drop1] at prs lenS
    have f2 : Fr S0 H H2 := f1.trans ⟨fun a o e _ => keep a o e, fun a xs e => keep a _ e⟩
    rw [List.length_drop, lq] at lenS
    have lenA : as.length = ns.length - 1 := by omega
    have pr : ∀ j tq, as[j]? = some tq → j + 1 < ns.length ∧ ∃ qa qb, H2 tq = some (.tup [.ref qa, .ref qb]) ∧ NdAt H2 qa (nd ns j) ∧ NdAt H2 qb (nd ns (j + 1)) := by
      intro j tq hj
      have hjl : j < as.length := (List.getElem?_eq_some_iff.mp hj).1
      have hj1 : j + 1 < ns.length := by omega
      obtain ⟨x1, y1, e1, e2, e3⟩ := prs j tq hj
      obtain ⟨qa, a1, a2⟩ := n3 j ns[j] (List.getElem?_eq_getElem (by omega))
      obtain ⟨qb, b1, b2⟩ := n3 (j + 1) ns[j + 1] (List.getElem?_eq_getElem hj1)
      rw [List.getElem?_map, a1] at e1
      rw [List.getElem?_drop, Nat.add_comm 1 j, List.getElem?_map, b1] at e2
      cases Option.some.inj e1
      cases Option.some.inj e2
      refine ⟨hj1, qa, qb, e3, ?_, ?_⟩
      · rw [nd_get (by omega)]; exact a2.fr f2
      · rw [nd_get hj1]; exact b2.fr f2
    have la : (as.map V.ref).length = ns.length - 1 := by rw [List.length_map, lenA]
    have hR2 := hR.fr0 f2
    have fd2 : FD H H2 := FD.of f2
    clear prs keep hz f1
    refine ⟨_, rfl, S, _, rfl, SqL.of eS, for_it (walk_enum (K := K) (a := S) (xs := as.map V.ref)) (fun i σ H' => ∃ (v5 v6 v7 v8 : Option V), σ = [some (.ref c), some (.ref f), some (iv h), some (iv t), some (.ref S), v5, v6, v7, v8] ∧ RS C B H' c p m (delN P0 h t ns i) ∧ FD H2 H') ?_ ?_ ?_ ?_⟩
    · exact ⟨none, none, none, none, rfl, hR2, FD.refl _⟩
    · rintro i σ H' _ ⟨_, _, _, _, _, _, f3⟩
      exact SqL.of (f3 _ _ eS notD_lst)
    · rintro i x1 σ H3 H4 hi ⟨v5, v6, v7, v8, rfl, hR3, f3⟩ ⟨tt, y1, y2, rfl, ht, rfl, hy1, hy2⟩
      cases Option.some.inj hy1
      obtain ⟨tq, htq, rfl⟩ : ∃ tq, as[i]? = some tq ∧ y2 = .ref tq := by
        have : (as.map V.ref)[i]? = some y2 := hy2
        rw [List.getElem?_map] at this
        cases e : as[i]? with
        | none => rw [e] at this; cases this
        | some tq => rw [e] at this; exact ⟨tq, rfl, (Option.some.inj this).symm⟩
      obtain ⟨hi1, qa, qb, e3, ha, hb⟩ := pr i tq htq
      have n4 : Fr S0 H3 (upd H3 tt (.tup [.int (i : Nat), .ref tq])) := (Fr.refl _ _).new ht
      have f4 : FD H2 (upd H3 tt (.tup [.int (i : Nat), .ref tq])) := f3.trans (FD.of n4)
      have hR4 := hR3.fr0 n4
      refine ⟨tt, _, rfl, SqT.of upd_same, rfl, _, _, rfl, _, _, rfl, tq, _, rfl, SqT.of (f4 _ _ e3 notD_tup), rfl, _, _, rfl, _, _, rfl, rfl, rfl, ?_⟩
      generalize upd H3 tt (.tup [.int (i : Nat), .ref tq]) = H4 at n4 f4 hR4
      refine par_if (s := 5) (a := 2) (b := 3) rfl rfl rfl ?_
      have ha4 := ha.fd f4
      have hb4 := hb.fd f4
      -- first pop
      obtain ⟨⟨dx, g1⟩, ⟨kvs, R⟩, _⟩ := id hR4
      have there := TR.del_there hi1
      obtain ⟨v, ev⟩ : ∃ v, valV kvs (ndK (nd ns i)) = some v := by
        cases ev : valV kvs (ndK (nd ns i)) with
        | some v => exact ⟨v, rfl⟩
        | none => rw [R.no _ ev] at there; cases there
      obtain ⟨a, dk, rfl, _, dd⟩ := R.yes _ v ev
      obtain ⟨q1, w1, _⟩ := dd.yes _ _ there
      have dg := DGet.t R.at_ ha4
      rw [ev] at dg
      obtain ⟨r1, r2, r3⟩ := hR4.inner R ev (dd.drop (k := col h t i)) (fun v hv => by funext y; unfold del1; rw [if_neg fun q => hv q.1]) dd
      refine ⟨_, rfl, c, C, dx, _, _, rfl, g1, L.cl, L.nP, fldsR_part _ _, _, rfl, p, _, rfl, dg, a, rfl, .inl ⟨_, Rd.of dd.at_⟩, _, rfl, dk, Sum.inl ((col h t i : Nat) : Int), _, dd.at_, rfl, w1, ?_⟩
      have f5 := f4.trans r3
      have hb5 := hb4.fd r3
      generalize upd H4 a (.dK (dropK dk (Sum.inl ((col h t i : Nat) : Int)))) = H5 at r1 r2 r3 f5 hb5
      -- second pop
      obtain ⟨⟨dx5, g5⟩, ⟨kvs5, R5⟩, _⟩ := id r1
      have there2 := TR.del_there2 hi1
      obtain ⟨v', ev'⟩ : ∃ v, valV kvs5 (ndK (nd ns (i + 1))) = some v := by
        cases ev : valV kvs5 (ndK (nd ns (i + 1))) with
        | some v => exact ⟨v, rfl⟩
        | none => rw [R5.no _ ev] at there2; cases there2
      obtain ⟨a2, dk2, rfl, _, dd2⟩ := R5.yes _ v' ev'
      obtain ⟨q2, w2, _⟩ := dd2.yes _ _ there2
      have dg2 := DGet.t R5.at_ hb5
      rw [ev'] at dg2
      obtain ⟨s1, s2, s3⟩ := r1.inner R5 ev' (dd2.drop (k := col h t i)) (fun v hv => by funext y; unfold del1; rw [if_neg fun q => hv q.1]) dd2
      refine ⟨_, rfl, c, C, dx5, _, _, rfl, g5, L.cl, L.nP, fldsR_part _ _, _, rfl, p, _, rfl, dg2, a2, rfl, .inl ⟨_, Rd.of dd2.at_⟩, _, rfl, dk2, Sum.inl ((col h t i : Nat) : Int), _, dd2.at_, rfl, w2, ?_⟩
      exact ⟨_, _, _, _, rfl, s1, f5.trans s3⟩
    · rintro σ H3 ⟨v5, v6, v7, v8, rfl, hR3, f3⟩
      rw [la] at hR3
      have nop : (fldsR m p).lookup ("put" : Str) = none := fldsR_no _ _ (by decide +kernel) (by decide +kernel)
      refine ⟨_, rfl, S, _, rfl, SqL.of (f3 _ _ eS notD_lst), for_it (walk_enum (K := K) (a := S) (xs := as.map V.ref)) (fun i σ H' => ∃ (v5 v6 v7 v8 : Option V), σ = [some (.ref c), some (.ref f), some (iv h), some (iv t), some (.ref S), v5, v6, v7, v8] ∧ RS C B H' c p m (putN (delN P0 h t ns (ns.length - 1)) h t ns i) ∧ FD H2 H') ?_ ?_ ?_ ?_⟩
      · exact ⟨_, _, _, _, rfl, hR3, f3⟩
      · rintro i σ H' _ ⟨_, _, _, _, _, _, f4⟩
        exact SqL.of (f4 _ _ eS notD_lst)
      · rintro i x1 σ H4 H5 hi ⟨v5, v6, v7, v8, rfl, hR4, f4⟩ ⟨tt, y1, y2, rfl, ht, rfl, hy1, hy2⟩
        cases Option.some.inj hy1
        obtain ⟨tq, htq, rfl⟩ : ∃ tq, as[i]? = some tq ∧ y2 = .ref tq := by
          have : (as.map V.ref)[i]? = some y2 := hy2
          rw [List.getElem?_map] at this
          cases e : as[i]? with
          | none => rw [e] at this; cases this
          | some tq => rw [e] at this; exact ⟨tq, rfl, (Option.some.inj this).symm⟩
        obtain ⟨hi1, qa, qb, e3, ha, hb⟩ := pr i tq htq
        have n5 : Fr S0 H4 (upd H4 tt (.tup [.int (i : Nat), .ref tq])) := (Fr.refl _ _).new ht
        have f5 : FD H2 (upd H4 tt (.tup [.int (i : Nat), .ref tq])) := f4.trans (FD.of n5)
        have hR5 := hR4.fr0 n5
        refine ⟨tt, _, rfl, SqT.of upd_same, rfl, _, _, rfl, _, _, rfl, tq, _, rfl, SqT.of (f5 _ _ e3 notD_tup), rfl, _, _, rfl, _, _, rfl, rfl, rfl, ?_⟩
        generalize upd H4 tt (.tup [.int (i : Nat), .ref tq]) = H5 at n5 f5 hR5
        obtain ⟨⟨dx, g1⟩, _⟩ := id hR5
        have cl : col t h i < m := by rcases col_or t h i with q | q <;> rw [q] <;> assumption
        refine ⟨_, rfl, c, dx, _, rfl, g1, nop, _, rfl, _, rfl, ?_⟩
        refine par_if (s := 5) (a := 3) (b := 2) rfl rfl rfl ?_
        refine ⟨B, c, p, m, _, qa, qb, nd ns i, nd ns (i + 1), col t h i, rfl, hR5, ha.fd f5, hb.fd f5, ?_, ?_, cl, hm, fun H6 hR6 f6 => ?_⟩
        · rw [nd_get (by omega)]; exact hnb _ (List.getElem_mem _)
        · rw [nd_get hi1]; exact hnb _ (List.getElem_mem _)
        · exact ⟨_, _, _, _, rfl, hR6, f5.trans f6⟩
      · rintro σ H4 ⟨v5, v6, v7, v8, rfl, hR4, f4⟩
        rw [la] at hR4
        exact k H4 hR4 (fd2.trans f4)
/-! ### add -/
def spAdd (K : PySem.W.Frag) (C : Addr) : Sp := fun vs H Q _ => ∃ (B : Hp) (c p : Addr) (m : Nat) (P : Pt) (D : List (Nat × Nat)) (qa qb : Addr) (i t : Nat), vs = [.ref c, .ref qa, .ref qb] ∧ RS C B H c p m P ∧ Col P D m ∧ NdAt H qa (.row i) ∧ NdAt H qb (.th t) ∧
  degR D i < m ∧ degT D t < m ∧ (∀ e ∈ D, e.1 < 1000 ∧ e.2 < 1000) ∧ i < 1000 ∧ t < 1000 ∧ m ≤ 1000 ∧ D.length ≤ 5000 ∧ ∀ H', RS C B H' c p m (addP P m i t) → FD H H' → Q .non H'
abbrev sAdd : Stmt := inClass rds 5
abbrev psAdd : List Str := ["self", "one", "other"]
abbrev nAdd : List Str := ["self", "one", "other", "here", "there"]
theorem scAdd : FnScope nAdd psAdd (defScope sAdd) := ⟨rfl, rfl, rfl, by decide +kernel, rfl, by decide +kernel, by decide +kernel⟩
theorem ok_add {C : Addr} (D : Dm K C "add" "Rounds.add" sAdd psAdd) (T : Bi mg) (L : Rcl K C) (mF : Mt P w K mg base C "free" psFree 2 (spFree K C)) (mC : Mt P w K mg base C "chain" psChain 2 (spChain K C)) (mT : Mt P w K mg base C "turn" psTurn 2 (spTurn K C)) (mP : Mt P w K mg base C "put" psPut 2 (spPut K C)) :
    Mt P w K mg base C "add" psAdd 3 (spAdd K C) := by
  refine D.ok scAdd (fun vs H Q E h => ?_) (fun f cdv A outer s H vs Q E hr h => ?_)
  · obtain ⟨B, c, p, m, P0, D0, qa, qb, i, t, rfl, _⟩ := h
    rfl
  · obtain ⟨B, c, p, m, P0, D0, qa, qb, i, t, rfl, hR, hC, ha, hb, hdi, hdt, hDb, hi, ht, hm, hDl, k⟩ := h
    refine ⟨_, pss_cons (ps_par (by rfl) scAdd.nd (i := 3) (j := 4) rfl rfl (by decide) rfl rfl (pa_cons (pe_mt mF L.cl hr (pv 0) (pa_cons (pv 1) pa_nil)) (pa_cons (pe_mt mF L.cl hr (pv 0) (pa_cons (pv 2) pa_nil)) pa_nil)) (by rfl)) (pss_cons (ps_if (pt_cmpR op_ne (pv 3) (pv 4) (nomark _)) (pss_one (ps_expr (pe_mt mT L.cl hr (pv 0) (pa_cons (pe_mt mC L.cl hr (pv 0) (pa_cons (pv 2) (pa_cons (pv 3) (pa_cons (pv 4) pa_nil)))) (pa_cons (pv 3) (pa_cons (pv 4) pa_nil)))))) pss_nil) (pss_one (ps_expr (pe_mt mP L.cl hr (pv 0) (pa_cons (pv 1) (pa_cons (pv 2) (pa_cons (pv 3) pa_nil))))))), ?_⟩
    have A0 := addOk hC hdi hdt
    have no : ∀ {x : Str}, ¬ x = "partners" → ¬ x = "many" → (fldsR m p).lookup x = none := fun h1 h2 => fldsR_no _ _ h1 h2
    obtain ⟨⟨dx, g1⟩, _⟩ := id hR
    refine ⟨_, rfl, c, dx, _, rfl, g1, no (by decide +kernel) (by decide +kernel), _, rfl, B, c, p, m, P0, qa, .row i, rfl, hR, ha, hm, ⟨_, A0.hl, A0.hn⟩, fun H1 f1 => ?_⟩
    have hR1 := hR.fr0 f1
    obtain ⟨⟨dx1, g1⟩, _⟩ := id hR1
    refine ⟨_, rfl, c, dx1, _, rfl, g1, no (by decide +kernel) (by decide +kernel), _, rfl, B, c, p, m, P0, qb, .th t, rfl, hR1, hb.fr f1, hm, ⟨_, A0.kl, A0.kn⟩, fun H2 f2 => ?_⟩
    have f02 := f1.trans f2
    have hR2 := hR.fr0 f02
    obtain ⟨⟨dx2, g2⟩, _⟩ := id hR2
    refine ⟨_, _, rfl, _, rfl, _, rfl, rfl, _, rfl, ?_⟩
    have A1 := A0.hl; have A2 := A0.hn; have A3 := A0.kl; have A4 := A0.kn
    unfold addP at k
    generalize eh : free P0 m (.row i) = h at A1 A2 k
    generalize ek : free P0 m (.th t) = kk at A3 A4 k
    simp only at k
    by_cases hk : h = kk
    · rw [if_pos hk] at k
      rw [show (!decide (iv h = iv kk)) = false from by rw [ivT hk]; rfl]
      refine iteF ?_
      exact ⟨_, rfl, c, dx2, _, rfl, g2, no (by decide +kernel) (by decide +kernel), _, rfl, _, rfl, _, rfl, B, c, p, m, P0, qa, qb, .row i, .th t, h, rfl, hR2, ha.fr f02, hb.fr f02, hi, ht, A1, hm, fun H3 hR3 f3 => k H3 hR3 ((FD.of f02).trans f3)⟩
    · rw [if_neg hk] at k
      rw [show (!decide (iv h = iv kk)) = true from by rw [ivF hk]; rfl]
      refine iteT ?_
      refine ⟨_, rfl, c, dx2, _, rfl, g2, no (by decide +kernel) (by decide +kernel), ?_⟩
      refine ⟨_, rfl, c, dx2, _, rfl, g2, no (by decide +kernel) (by decide +kernel), _, rfl, _, rfl, _, rfl, B, c, p, m, P0, D0, qb, t, h, kk, rfl, hR2, hb.fr f02, hC, A4, hDl, fun f qs ns H3 hf nl ch f3 => ?_⟩
      have TR : Trn P0 D0 m h kk t ns := ⟨hC, ch, A4, hk⟩
      rw [TR.kempe] at k
      have hsh := ch.way.short hC ch.fst A4
      refine ⟨_, rfl, _, rfl, B, c, p, m, P0, D0, f, t, h, kk, qs, ns, rfl, hR2.fr0 f3, nl, TR, fun u hu => ?_, A1, A3, hm, by omega, fun H4 hR4 f4 => ?_⟩
      · obtain ⟨j, hj, rfl⟩ := List.getElem_of_mem hu
        cases j with
        | zero =>
          have := ch.fst
          rw [List.getElem?_eq_getElem hj] at this
          rw [Option.some.inj this]; exact ht
        | succ j => exact node_bound hC hDb (ch.way.st j hj)
      · obtain ⟨⟨dx4, g4⟩, _⟩ := id hR4
        have fd : FD H H4 := (FD.of (f02.trans f3)).trans f4
        exact ⟨_, rfl, c, dx4, _, rfl, g4, no (by decide +kernel) (by decide +kernel), _, rfl, _, rfl, _, rfl, B, c, p, m, _, qa, qb, .row i, .th t, h, rfl, hR4, ha.fd fd, hb.fd fd, hi, ht, A1, hm, fun H5 hR5 f5 => k H5 hR5 (fd.trans f5)⟩
end
end K12
set_option linter.all false
set_option maxRecDepth 100000
set_option maxHeartbeats 1600000
/-! K12w33: rounds. -/
namespace K12
open PySem PySem.Spec PyProof.Rows L2
def ndD : Nd → PyData | .row i => .tuple [.str "row", .int (i : Int)] | .th t => .tuple [.str "thing", .int (t : Int)]
theorem NdAt.dt {K : PySem.W.Frag} {H : Hp} {q : Addr} {u : Nd} (h : NdAt H q u) : DT K H (.ref q) (ndD u) := by
  cases u with
  | row i => exact .tup (.of h) (.cons (.str _) (.one (.int _)))
  | th t => exact .tup (.of h) (.cons (.str _) (.one (.int _)))
theorem shaped_nd (u : Nd) : SeqAt.shaped (ndD u) = true := by
  have h : ∀ (x : Str) (i : Int), PyData.strOk x = true → SeqAt.shaped (.tuple [.str x, .int i]) = true := by
    intro x i hx
    unfold SeqAt.shaped
    simp only [PyData.canLay0, PyData.canLayAll0, PyData.depth, PyData.depthAll, Bool.true_and, Bool.and_true, hx]
    rfl
  cases u
  · exact h _ _ (by decide +kernel)
  · exact h _ _ (by decide +kernel)
theorem eqv_nd (u v : Nd) : PyData.eqv (ndD u) (ndD v) = decide (u = v) := by
  have k1 : (("row" : Str) == ("thing" : Str)) = false := by decide +kernel
  have k2 : (("thing" : Str) == ("row" : Str)) = false := by decide +kernel
  cases u <;> cases v <;> simp only [ndD, PyData.eqv, PyData.eqvAll, k1, k2, beq_self_eq_true, Bool.true_and, Bool.and_true, Bool.false_and]
  · rename_i a b
    by_cases h : a = b
    · subst h; simp
    · rw [decide_eq_false (fun q => h (by cases q; rfl))]; simp; omega
  · symm; exact decide_eq_false fun q => by cases q
  · symm; exact decide_eq_false fun q => by cases q
  · rename_i a b
    by_cases h : a = b
    · subst h; simp
    · rw [decide_eq_false (fun q => h (by cases q; rfl))]; simp; omega
/-- the rounds' dicts: what stands is right, and they are apart -/
structure FS (P : Pt) (H0 H : Hp) (f : Addr) (ds : List Addr) (m b : Nat) (dn : Nat → Nat → Nat → Prop) : Prop where
  at_ : H f = some (.lst (ds.map V.ref))
  len : ds.length = m
  nd : ds.Nodup
  free : ∀ d ∈ ds, H0 d = none
  ff : H0 f = none
  ct : ∀ (k : Nat) (d : Addr), ds[k]? = some d → ∃ dk, H d = some (.dK dk) ∧ dk.length ≤ b ∧ (∀ (i : Nat) (v : V), valV dk (.inl (i : Int)) = some v → ∃ t, v = iv t ∧ dealt P k i = some t) ∧ ∀ i t, dn k i t → P (.row i) k = some (.th t) → valV dk (.inl (i : Int)) = some (iv t)
theorem FS.fr0 {P : Pt} {H0 H H' : Hp} {f : Addr} {ds : List Addr} {m b : Nat} {dn : Nat → Nat → Nat → Prop} (h : FS P H0 H f ds m b dn) (g : Fr S0 H H') : FS P H0 H' f ds m b dn :=
  ⟨g.keep _ _ h.at_ (fun z => z), h.len, h.nd, h.free, h.ff, fun k d e => by obtain ⟨dk, a1, a2⟩ := h.ct k d e; exact ⟨dk, g.keep _ _ a1 (fun z => z), a2⟩⟩
theorem FS.imp {P : Pt} {H0 H : Hp} {f : Addr} {ds : List Addr} {m b b' : Nat} {dn dn' : Nat → Nat → Nat → Prop} (h : FS P H0 H f ds m b dn) (hb : b ≤ b') (hd : ∀ k i t, k < m → dn' k i t → P (.row i) k = some (.th t) → dn k i t) : FS P H0 H f ds m b' dn' :=
  ⟨h.at_, h.len, h.nd, h.free, h.ff, fun k d e => by
    obtain ⟨dk, a1, a2, a3, a4⟩ := h.ct k d e
    have hk : k < m := by have := (List.getElem?_eq_some_iff.mp e).1; have := h.len; omega
    exact ⟨dk, a1, by omega, a3, fun i t x y => a4 i t (hd k i t hk x y) y⟩⟩
theorem upd_comm {H : Hp} {a b : Addr} {x y : HO} (h : a ≠ b) : upd (upd H a x) b y = upd (upd H b y) a x := by
  funext c
  unfold upd
  by_cases h1 : c = b
  · subst h1; simp [h.symm]
  · by_cases h2 : c = a
    · subst h2; simp [h]
    · simp [h1, h2]
theorem upd_self {H : Hp} {a : Addr} {x : HO} (h : H a = some x) : upd H a x = H := by
  funext c
  unfold upd
  by_cases h1 : c = a
  · subst h1; simp [h]
  · simp [h1]
theorem val_mem {κ : Type} [DecidableEq κ] : ∀ {kvs : List (κ × V)} {e : κ × V}, (kvs.map (·.1)).Nodup → e ∈ kvs → valV kvs e.1 = some e.2
  | x :: kvs, e, nd, h => by
    rw [List.map_cons, List.nodup_cons] at nd
    rcases List.mem_cons.mp h with rfl | h
    · exact valV_pos rfl
    · have : ¬ x.1 = e.1 := fun q => nd.1 (by rw [q]; exact List.mem_map.mpr ⟨e, h, rfl⟩)
      rw [valV_neg this]
      exact val_mem nd.2 h
theorem mem_val {κ : Type} [DecidableEq κ] {kvs : List (κ × V)} {k : κ} {v : V} (h : valV kvs k = some v) : ∃ e ∈ kvs, e.1 = k := by
  unfold valV at h
  cases q : kvs.find? fun kv => decide (kv.1 = k) with
  | none => rw [q] at h; cases h
  | some e => exact ⟨e, List.mem_of_find?_eq_some q, by simpa using List.find?_some q⟩
/-- one entry is stored -/
theorem FS.store {P : Pt} {H0 H : Hp} {f : Addr} {ds : List Addr} {m b : Nat} {dn : Nat → Nat → Nat → Prop} (h : FS P H0 H f ds m b dn) {k a t : Nat} {d : Addr} {dk : List (L2.Key × V)} (hd : ds[k]? = some d) (hdk : H d = some (.dK dk)) (hP : P (.row a) k = some (.th t)) :
    FS P H0 (upd H d (.dK (putK dk (.inl (a : Int)) (iv t)))) f ds m (b + 1) (fun k' i t' => dn k' i t' ∨ (k' = k ∧ i = a ∧ t' = t)) := by
  have kk : ∀ j : Nat, ((Sum.inl (j : Int) : L2.Key) = Sum.inl (a : Int)) ↔ j = a := fun j => ⟨fun h => by have := Sum.inl.inj h; omega, fun h => by rw [h]⟩
  have nfd : f ≠ d := fun q => by have := h.at_; rw [q, hdk] at this; cases this
  refine ⟨by rw [upd_ne nfd]; exact h.at_, h.len, h.nd, h.free, h.ff, fun k' d' e => ?_⟩
  by_cases hkk : k' = k
  · subst hkk
    rw [hd] at e; cases Option.some.inj e
    obtain ⟨dk2, a1, a2, a3, a4⟩ := h.ct k' d hd
    rw [hdk] at a1; cases a1
    have hl := length_putK dk (.inl (a : Int) : L2.Key) (iv t)
    refine ⟨_, upd_same, by omega, fun i v hv => ?_, fun i t' hdn hPt => ?_⟩
    · rw [valV_put] at hv
      split at hv
      · rename_i q
        have := (kk i).mp q
        subst this
        exact ⟨t, (Option.some.inj hv).symm, dealt_iff.mpr hP⟩
      · exact a3 i v hv
    · rw [valV_put]
      by_cases q : i = a
      · subst q
        rw [if_pos rfl]
        rw [hP] at hPt; cases hPt; rfl
      · rw [if_neg fun z => q ((kk i).mp z)]
        rcases hdn with hdn | ⟨_, z, _⟩
        · exact a4 i t' hdn hPt
        · exact absurd z q
  · have ndd : d' ≠ d := fun q => by
      subst q
      have h1 := (List.getElem?_eq_some_iff.mp e)
      have h2 := (List.getElem?_eq_some_iff.mp hd)
      obtain ⟨l1, e1⟩ := h1
      obtain ⟨l2, e2⟩ := h2
      exact hkk ((List.getElem_inj h.nd (h₀ := l1) (h₁ := l2)).mp (by rw [e1, e2]))
    obtain ⟨dk2, a1, a2, a3, a4⟩ := h.ct k' d' e
    refine ⟨dk2, by rw [upd_ne ndd]; exact a1, by omega, a3, fun i t' hdn hPt => ?_⟩
    rcases hdn with hdn | ⟨z, _⟩
    · exact a4 i t' hdn hPt
    · exact absurd z hkk
section
variable {P : Program} {w : World} {K : PySem.W.Frag} {mg : Str → Option Value} {base : Heap}
theorem degR_take {D : List (Nat × Nat)} {m i : Nat} (h : degR D i ≤ m) (n : Nat) : degR (D.take n) i ≤ m := by
  have : degR D i = degR (D.take n) i + degR (D.drop n) i := by rw [← degR_app, List.take_append_drop]
  omega
theorem degT_take {D : List (Nat × Nat)} {m i : Nat} (h : degT D i ≤ m) (n : Nat) : degT (D.take n) i ≤ m := by
  have : degT D i = degT (D.take n) i + degT (D.drop n) i := by rw [← degT_app, List.take_append_drop]
  omega
def spRounds (K : PySem.W.Frag) : Sp := fun vs H Q _ => ∃ (pl : Addr) (m : Nat) (xs : List V) (prs : List (Nat × Nat)), vs = [.ref pl, iv m] ∧ H pl = some (.lst xs) ∧ DTs K H xs (prs.map p2D) ∧ prs.Nodup ∧ (∀ i, degR prs i ≤ m) ∧ (∀ t, degT prs t ≤ m) ∧
  (∀ e ∈ prs, e.1 < 1000 ∧ e.2 < 1000) ∧ m ≤ 1000 ∧ prs.length ≤ 5000 ∧ ∀ f (ds : List Addr) H', H f = none → H' f = some (.lst (ds.map V.ref)) → ds.length = m →
    (∀ (k : Nat) (d : Addr), ds[k]? = some d → ∃ dk, H' d = some (.dK dk) ∧ ∀ i : Nat, valV dk (.inl (i : Int)) = (dealt (roundsM prs m) k i).map iv) → Fr S0 H H' → Q (.ref f) H'
abbrev sRounds : Stmt := top 4
abbrev psRounds : List Str := ["pairs", "many"]
abbrev nRounds : List Str := ["pairs", "many", "dealt", "one", "other", "found", "number", "partner"]
theorem scRounds : FnScope nRounds psRounds (defScope sRounds) := ⟨rfl, rfl, rfl, by decide +kernel, rfl, by decide +kernel, by decide +kernel⟩
theorem ok_rounds {C : Addr} (D : Df K mg "rounds" sRounds psRounds) (T : Bi mg) (L : Rcl K C) (cI : Ini P w K mg base C "Rounds" psRI 2 (spRI K C)) (mA : Mt P w K mg base C "add" psAdd 3 (spAdd K C)) : Cl P w K mg base "rounds" psRounds 4 (spRounds K) := by
  refine D.ok scRounds (fun vs H Q E h => ?_) (fun f cdv A outer s H vs Q E hr h => ?_)
  · obtain ⟨pl, m, xs, prs, rfl, _⟩ := h
    rfl
  · obtain ⟨pl, m, xs, prs, rfl, hpl, hx, nd, hdR, hdT, hb, hm, hl, k⟩ := h
    have hu := hu_of hr
    refine ⟨_, pss_cons (ps_set (i := 2) scRounds.nd rfl (Or.inl rfl) (pe_mk cI hr (pa_cons (pv 1) pa_nil))) (pss_cons (ps_for PassesOwn.never rfl (pi_list (pv 0)) (pg_tup (by rfl) (pgs_cons (pg_name (i := 3) scRounds.nd rfl (Or.inl rfl)) (pgs_cons (pg_name (i := 4) scRounds.nd rfl (Or.inl rfl)) pgs_nil))) (pss_one (ps_expr (pe_mt mA L.cl hr (pv 2) (pa_cons (pe_tup (pa_cons pe_str (pa_cons (pv 3) pa_nil))) (pa_cons (pe_tup (pa_cons pe_str (pa_cons (pv 4) pa_nil))) pa_nil)))))) (pss_cons (ps_setLc (i := 5) (own := [("number", 6)]) (g := gName 6) (tt := tYes) rfl scRounds.nd rfl rfl (sw_true rfl rfl rfl (by decide +kernel)) (pi_range1 rfl T.range (pa_cons (pv 1) pa_nil)) (blkOk_by (N := nRounds) (sc := defScope sRounds) (by decide +kernel)) (fun _ _ _ _ _ => pg_name (i := 6) scRounds.nd rfl (Or.inl rfl)) (fun _ _ _ _ _ => pts_nil) (fun _ _ _ _ _ => pe_dnewK)) (pss_cons (ps_for PassesOwn.never rfl (pi_list (pv 0)) (pg_tup (by rfl) (pgs_cons (pg_name (i := 3) scRounds.nd rfl (Or.inl rfl)) (pgs_cons (pg_name (i := 4) scRounds.nd rfl (Or.inl rfl)) pgs_nil))) (pss_one (ps_lock (ps_for PassesOwn.never rfl (pi_items (pe_dget hu (pe_fld (pv 2) rfl) (pe_tup (pa_cons pe_str (pa_cons (pv 3) pa_nil))) (fun _ _ => rfl))) (pg_tup (by rfl) (pgs_cons (pg_name (i := 6) scRounds.nd rfl (Or.inl rfl)) (pgs_cons (pg_name (i := 7) scRounds.nd rfl (Or.inl rfl)) pgs_nil))) (pss_one (ps_if (pt_cmpR (op_eqD hr.units) (pv 7) (pe_tup (pa_cons pe_str (pa_cons (pv 4) pa_nil))) (nomark _)) (pss_one (ps_dput hu (pe_ix ix_list (pv 5) (pv 6) (fun _ _ => rfl)) (pv 3) (pv 4) rfl)) pss_nil)))))) (pss_one (ps_ret (pv 5)))))), ?_⟩
    have lx : xs.length = prs.length := by rw [hx.len, List.length_map]
    refine ⟨_, rfl, fun c dx hc hdx ne => ?_⟩
    have n1 : Fr S0 H (upd (upd H dx (.own c)) c (.ins C dx [])) := by
      refine ((Fr.refl _ _).new hdx).new ?_
      rw [upd_ne ne.symm]; exact hc
    refine ⟨c, dx, m, rfl, upd_same, fun p H1 hp ec ep f1 => ⟨rfl, ?_⟩⟩
    have hp0 : H p = none := n1.free hp
    have f01 : Fr S0 H H1 := Fr.back ((n1.mono fun a z => z.elim).trans f1) hc
    have hR0 : RS C H H1 c p m noPt := RS.start f01 hc hp0 ec ep
    have noa : (fldsR m p).lookup ("add" : Str) = none := fldsR_no _ _ (by decide +kernel) (by decide +kernel)
    have colN : ∀ n, Col (roundsM (prs.take n) m) (prs.take n) m := fun n => rounds_col (List.Pairwise.sublist (List.take_sublist n prs) nd) (fun i => degR_take (hdR i) n) (fun t => degT_take (hdT t) n)
    refine ⟨_, rfl, pl, rfl, ⟨_, SqL.of (f01.keep _ _ hpl (fun z => z))⟩, for_list (K := K) (a := pl) (xs := xs) (fun n σ H' => ∃ (v3 v4 : Option V), σ = [some (.ref pl), some (iv m), some (.ref c), v3, v4, none, none, none] ∧ RS C H H' c p m (roundsM (prs.take n) m)) ?_ ?_ ?_ ?_⟩
    · exact ⟨none, none, rfl, hR0⟩
    · rintro n σ H' _ ⟨_, _, _, hR⟩
      exact SqL.of (hR.fr.keep _ _ hpl (fun z => z))
    · rintro n x σ H2 hx1 ⟨v3, v4, rfl, hR⟩
      obtain ⟨pr, q, er, rfl, tr⟩ := p2_at (hx.fr hR.fr) hx1
      obtain ⟨b1, b2⟩ := hb pr (List.mem_of_getElem? er)
      have tk : prs.take (n + 1) = prs.take n ++ [pr] := by rw [List.take_succ, er]; rfl
      obtain ⟨⟨dx2, g2⟩, _⟩ := id hR
      refine ⟨q, _, rfl, tr.sq, rfl, _, _, rfl, _, _, rfl, rfl, ?_⟩
      refine ⟨_, rfl, c, dx2, _, rfl, g2, noa, _, rfl, by show 2 ≤ sizeLine; decide, fun t1 ht1 => ?_⟩
      have n3 : Fr S0 H2 (upd H2 t1 (.tup [.str "row", iv pr.1])) := (Fr.refl _ _).new ht1
      refine ⟨_, rfl, by show 2 ≤ sizeLine; decide, fun t2 ht2 => ?_⟩
      have n4 := n3.new (o := .tup [.str "thing", iv pr.2]) ht2
      have a1 : NdAt (upd (upd H2 t1 (.tup [.str "row", iv pr.1])) t2 (.tup [.str "thing", iv pr.2])) t1 (.row pr.1) := by
        show upd _ t2 _ t1 = _
        rw [upd_ne (ne_of_none (show upd H2 t1 (.tup [.str "row", iv pr.1]) t1 = _ from upd_same) ht2), upd_same]; rfl
      have a2 : NdAt (upd (upd H2 t1 (.tup [.str "row", iv pr.1])) t2 (.tup [.str "thing", iv pr.2])) t2 (.th pr.2) := upd_same
      have eR : degR (prs.take (n + 1)) pr.1 = degR (prs.take n) pr.1 + 1 := by rw [tk, degR_app]; simp [degR]
      have eT : degT (prs.take (n + 1)) pr.2 = degT (prs.take n) pr.2 + 1 := by rw [tk, degT_app]; simp [degT]
      have dR := degR_take (hdR pr.1) (n + 1)
      have dT := degT_take (hdT pr.2) (n + 1)
      refine ⟨H, c, p, m, _, prs.take n, t1, t2, pr.1, pr.2, rfl, hR.fr0 n4, colN n, a1, a2, by omega, by omega, fun e he => hb e (List.mem_of_mem_take he), b1, b2, hm, by rw [List.length_take]; omega, fun H3 hR3 _ => ?_⟩
      refine ⟨_, _, rfl, ?_⟩
      have : roundsM (prs.take (n + 1)) m = addP (roundsM (prs.take n) m) m pr.1 pr.2 := by
        rw [tk]; unfold roundsM; rw [List.foldl_append]; rfl
      rw [this]; exact hR3
    · rintro σ H2 ⟨v3, v4, rfl, hR⟩
      rw [lx, List.take_length] at hR
      have hC : Col (roundsM prs m) prs m := by have := colN prs.length; rwa [List.take_length] at this
      generalize hPP : roundsM prs m = PP at hR hC k
      -- found
      refine ⟨_, rfl, _, rfl, by omega, by omega, fun f hf => lc_range (lo := 0) (n := m) (fun i H' => Fr S0 H2 H' ∧ ∃ ds : List Addr, ds.length = i ∧ ds.Nodup ∧ (∀ d ∈ ds, H2 d = none ∧ H' d = some (.dK [])) ∧ H' f = some (.lst (ds.map V.ref))) ?_ ?_ ?_⟩
      · exact ⟨(Fr.refl _ _).new hf, [], rfl, List.nodup_nil, by simp, upd_same⟩
      · rintro i H' hi ⟨f2, ds, l1, l2, l3, l4⟩
        refine ⟨rfl, ?_⟩
        dsimp only [tYes]
        refine iteT ?_
        intro d hd
        have n5 : Fr S0 H' (upd H' d (.dK [])) := (Fr.refl _ _).new hd
        have l4' := n5.keep _ _ l4 (fun z => z)
        have ndf : d ≠ f := fun q => by rw [q, l4] at hd; cases hd
        refine ⟨_, l4', by rw [List.length_map, l1]; exact sz (by omega), (f2.trans n5).mut hf, ds ++ [d], by simp [l1], ?_, ?_, by rw [upd_same]; simp⟩
        · rw [List.nodup_append]
          refine ⟨l2, by simp, fun a ha b hb' e => ?_⟩
          simp at hb'
          subst hb'
          subst e
          rw [(l3 a ha).2] at hd; cases hd
        · intro e he
          rcases List.mem_append.mp he with h | h
          · obtain ⟨a1, a2⟩ := l3 e h
            have ne2 : e ≠ f := fun q => by rw [q, l4] at a2; cases a2
            exact ⟨a1, by rw [upd_ne ne2]; exact n5.keep _ _ a2 (fun z => z)⟩
          · simp at h; subst h
            exact ⟨f2.free hd, by rw [upd_ne ndf]; exact upd_same⟩
      · rintro H3 ⟨f2, ds, l1, l2, l3, l4⟩
        have FS0 : FS PP H2 H3 f ds m 0 (fun _ _ _ => False) := ⟨l4, l1, l2, fun d hd => (l3 d hd).1, hf, fun kk d e => ⟨[], (l3 d (List.mem_of_getElem? e)).2, Nat.le_refl _, fun i v hv => (by cases hv), fun i t h => h.elim⟩⟩
        obtain ⟨⟨dxc, gc⟩, ⟨kvs, R⟩, frH, _⟩ := id hR
        refine ⟨_, rfl, pl, rfl, ⟨_, SqL.of ((frH.trans f2).keep _ _ hpl (fun z => z))⟩, for_list (K := K) (a := pl) (xs := xs) (fun n σ H' => ∃ (v3 v4 v6 v7 : Option V), σ = [some (.ref pl), some (iv m), some (.ref c), v3, v4, some (.ref f), v6, v7] ∧ Fr S0 H2 H' ∧ FS PP H2 H' f ds m (1000 * n) (fun _ i t => (i, t) ∈ prs.take n)) ?_ ?_ ?_ ?_⟩
        · exact ⟨_, _, none, none, rfl, f2, FS0.imp (Nat.zero_le _) fun kk i t _ h => by simp at h⟩
        · rintro n σ H' _ ⟨_, _, _, _, _, f3, _⟩
          exact SqL.of ((frH.trans f3).keep _ _ hpl (fun z => z))
        · rintro n x σ H4 hx1 ⟨v3, v4, v6, v7, rfl, f3, FSn⟩
          obtain ⟨pr, q, er, rfl, tr⟩ := p2_at (hx.fr (frH.trans f3)) hx1
          have hprm := List.mem_of_getElem? er
          have tk : prs.take (n + 1) = prs.take n ++ [pr] := by rw [List.take_succ, er]; rfl
          have hn : n < prs.length := (List.getElem?_eq_some_iff.mp er).1
          refine ⟨q, _, rfl, tr.sq, rfl, _, _, rfl, _, _, rfl, rfl, ?_⟩
          obtain ⟨c0, hc0⟩ := (hC.mem pr.1 pr.2).mpr hprm
          obtain ⟨v, ev⟩ : ∃ v, valV kvs (ndK (.row pr.1)) = some v := by
            cases ev : valV kvs (ndK (.row pr.1)) with
            | some v => exact ⟨v, rfl⟩
            | none => rw [R.no _ ev] at hc0; cases hc0
          obtain ⟨d, dk, rfl, _, dd⟩ := R.yes _ v ev
          have hd4 := f3.keep _ _ dd.at_ (fun z => z)
          have dkl := dd.len
          refine ⟨d, .dK dk, hd4, trivial, fun od => ?_⟩
          have ncd : c ≠ d := fun z => by rw [z, dd.at_] at gc; cases gc
          have npd : p ≠ d := fun z => by have := R.at_; rw [z, dd.at_] at this; cases this
          have gc4 : upd H4 d (.frz od (.dK dk)) c = some (.ins C dxc (fldsR m p)) := by rw [upd_ne ncd]; exact f3.keep _ _ gc (fun z => z)
          refine ⟨_, rfl, c, C, dxc, _, _, rfl, gc4, L.cl, L.nP, fldsR_part _ _, _, rfl, by show 2 ≤ sizeLine; decide, fun t1 ht1 => ?_⟩
          have ntd : t1 ≠ d := (ne_of_none (show upd H4 d (.frz od (.dK dk)) d = _ from upd_same) ht1).symm
          have hp4 : upd (upd H4 d (.frz od (.dK dk))) t1 (.tup [.str "row", iv pr.1]) p = some (.dT kvs) := by
            have e1 : upd H4 d (.frz od (.dK dk)) p = some (.dT kvs) := by rw [upd_ne npd]; exact f3.keep _ _ R.at_ (fun z => z)
            rw [upd_ne (ne_of_none e1 ht1)]; exact e1
          have dg : DGet (upd (upd H4 d (.frz od (.dK dk))) t1 (.tup [.str "row", iv pr.1])) p (.ref t1) (valV kvs (ndK (.row pr.1))) := DGet.t hp4 (show _ = some (.tup ((ndK (.row pr.1)).map kV)) from upd_same)
          rw [ev] at dg
          refine ⟨p, _, rfl, dg, d, od, dk, rfl, by rw [upd_ne ntd.symm]; exact upd_same, for_it (walk_items (d := d) (o := od) (kvs := dk)) (fun j σ HF => (∃ v6 v7, σ = [some (.ref pl), some (iv m), some (.ref c), some (iv pr.1), some (iv pr.2), some (.ref f), v6, v7]) ∧ HF d = some (.frz od (.dK dk)) ∧ Fr S0 H2 (upd HF d (.dK dk)) ∧
            FS PP H2 (upd HF d (.dK dk)) f ds m (1000 * n + j) (fun kk i t => (i, t) ∈ prs.take n ∨ (i = pr.1 ∧ t = pr.2 ∧ ∃ e ∈ dk.take j, e.1 = .inl (kk : Int)))) ?_ ?_ ?_ ?_⟩
          · have ht1' : H4 t1 = none := by rw [upd_ne ntd] at ht1; exact ht1
            have e1 : upd (upd (upd H4 d (.frz od (.dK dk))) t1 (.tup [.str "row", iv pr.1])) d (.dK dk) = upd H4 t1 (.tup [.str "row", iv pr.1]) := by
              rw [upd_comm ntd, upd_upd, upd_self hd4]
            have n5 : Fr S0 H4 (upd H4 t1 (.tup [.str "row", iv pr.1])) := (Fr.refl _ _).new ht1'
            refine ⟨⟨_, _, rfl⟩, by rw [upd_ne ntd.symm]; exact upd_same, by rw [e1]; exact f3.trans n5, ?_⟩
            rw [e1]
            exact (FSn.fr0 n5).imp (Nat.le_refl _) fun kk i t _ h hP => h.elim id fun ⟨_, _, e, he, _⟩ => by simp at he
          · rintro j σ HF _ ⟨_, h, _⟩
            exact h
          · rintro j x1 σ HF HF' hj ⟨⟨v6, v7, rfl⟩, hfz, g1, g2⟩ ⟨T1, y1, y2, rfl, hT1, rfl, hy1, hy2⟩
            obtain ⟨e, he⟩ : ∃ e, dk[j]? = some e := ⟨_, List.getElem?_eq_getElem hj⟩
            have hem := List.mem_of_getElem? he
            have hy1 : (dk[j]?).map (fun kv => kV kv.1) = some y1 := hy1
            have hy2 : (dk[j]?).map Prod.snd = some y2 := hy2
            rw [he] at hy1 hy2
            cases Option.some.inj hy1
            cases Option.some.inj hy2
            obtain ⟨kk, hkm, ekk⟩ := dd.ks e hem
            have hval := val_mem dd.nd hem
            rw [ekk] at hval
            obtain ⟨s, hs⟩ : ∃ s, PP (.row pr.1) kk = some (.th s) := by
              cases ep : PP (.row pr.1) kk with
              | none => rw [dd.no kk ep] at hval; cases hval
              | some v => obtain ⟨s, rfl⟩ := hC.bipR _ _ _ ep; exact ⟨s, rfl⟩
            obtain ⟨qv, w1, w2⟩ := dd.yes kk _ hs
            rw [w1] at hval
            have e2 : e.2 = .ref qv := (Option.some.inj hval).symm
            have nTd : T1 ≠ d := (ne_of_none hfz hT1).symm
            have n5 : Fr S0 (upd HF d (.dK dk)) (upd (upd HF d (.dK dk)) T1 (.tup [kV e.1, e.2])) := (Fr.refl _ _).new (by rw [upd_ne nTd]; exact hT1)
            have c5 : upd (upd HF T1 (.tup [kV e.1, e.2])) d (.dK dk) = upd (upd HF d (.dK dk)) T1 (.tup [kV e.1, e.2]) := upd_comm nTd
            have hfz5 : upd HF T1 (.tup [kV e.1, e.2]) d = some (.frz od (.dK dk)) := by rw [upd_ne nTd.symm]; exact hfz
            refine ⟨T1, _, rfl, SqT.of upd_same, rfl, _, _, rfl, _, _, rfl, rfl, ?_⟩
            have g15 := g1.trans n5
            have g25 := g2.fr0 n5
            rw [← c5] at g15 g25
            generalize upd HF T1 (.tup [kV e.1, e.2]) = H5 at hfz5 g15 g25
            refine ⟨_, rfl, _, rfl, by show 2 ≤ sizeLine; decide, fun t3 ht3 => ?_⟩
            have ntd3 : t3 ≠ d := (ne_of_none hfz5 ht3).symm
            have n6 : Fr S0 (upd H5 d (.dK dk)) (upd (upd H5 d (.dK dk)) t3 (.tup [.str "thing", iv pr.2])) := (Fr.refl _ _).new (by rw [upd_ne ntd3]; exact ht3)
            have c6 : upd (upd H5 t3 (.tup [.str "thing", iv pr.2])) d (.dK dk) = upd (upd H5 d (.dK dk)) t3 (.tup [.str "thing", iv pr.2]) := upd_comm ntd3
            have hfz6 : upd H5 t3 (.tup [.str "thing", iv pr.2]) d = some (.frz od (.dK dk)) := by rw [upd_ne ntd3.symm]; exact hfz5
            have hq6 : NdAt (upd H5 t3 (.tup [.str "thing", iv pr.2])) qv (.th s) := by
              have h1 : NdAt (upd (upd H5 d (.dK dk)) t3 (.tup [.str "thing", iv pr.2])) qv (.th s) := w2.fr (g15.trans n6)
              have nqd : qv ≠ d := fun z => by have := w2; unfold NdAt at this; rw [z, dd.at_] at this; cases this
              unfold NdAt at h1 ⊢
              rw [← c6, upd_ne nqd] at h1; exact h1
            have h36 : NdAt (upd H5 t3 (.tup [.str "thing", iv pr.2])) t3 (.th pr.2) := upd_same
            have g16 := g15.trans n6
            have g26 := g25.fr0 n6
            rw [← c6] at g16 g26
            refine ⟨ndD (.th s), ndD (.th pr.2), by rw [e2]; exact (hq6.dt (K := K)).dp, (h36.dt (K := K)).dp, shaped_nd _, shaped_nd _, _, rfl, ?_⟩
            rw [eqv_nd]
            generalize upd H5 t3 (.tup [.str "thing", iv pr.2]) = H6 at hfz6 hq6 h36 g16 g26
            have tkj : dk.take (j + 1) = dk.take j ++ [e] := by rw [List.take_succ, he]; rfl
            by_cases hsb : s = pr.2
            · subst hsb
              rw [decide_eq_true rfl]
              refine iteT ?_
              obtain ⟨dk_, edk⟩ : ∃ x, ds[kk]? = some x := ⟨_, List.getElem?_eq_getElem (by rw [l1]; exact hkm)⟩
              obtain ⟨dkk, ec1, ec2, _⟩ := g26.ct kk dk_ edk
              have nkd : dk_ ≠ d := fun z => by have := g26.free dk_ (List.mem_of_getElem? edk); rw [z, dd.at_] at this; cases this
              have nfd : f ≠ d := fun z => by have := g26.ff; rw [z, dd.at_] at this; cases this
              have ef : H6 f = some (.lst (ds.map V.ref)) := by have := g26.at_; rw [upd_ne nfd] at this; exact this
              have ek : H6 dk_ = some (.dK dkk) := by rw [upd_ne nkd] at ec1; exact ec1
              have st := g26.store (t := pr.2) edk ec1 hs
              have cc : upd (upd H6 dk_ (.dK (putK dkk (.inl (pr.1 : Int)) (iv pr.2)))) d (.dK dk) = upd (upd H6 d (.dK dk)) dk_ (.dK (putK dkk (.inl (pr.1 : Int)) (iv pr.2))) := upd_comm nkd
              refine ⟨_, rfl, _, rfl, _, rfl, f, ds.map V.ref, (kk : Int), .ref dk_, rfl, (show kV e.1 = V.int (kk : Int) by rw [ekk]; rfl), SqL.of ef, atI_nat (by rw [List.getElem?_map, edk]; rfl), _, rfl, dk_, _, rfl, DPut.k (k := Sum.inl (pr.1 : Int)) ek (by rw [sizeLine_eq]; omega), ?_⟩
              refine ⟨⟨_, _, rfl⟩, by rw [upd_ne nkd.symm]; exact hfz6, ?_, ?_⟩
              · rw [cc]; exact g16.mut (g26.free dk_ (List.mem_of_getElem? edk))
              · rw [cc]
                refine st.imp (Nat.le_refl _) fun k' i t _ h hP => ?_
                rcases h with h | ⟨h1, h2, e', he', ee'⟩
                · exact .inl (.inl h)
                · rw [tkj] at he'
                  rcases List.mem_append.mp he' with h | h
                  · exact .inl (.inr ⟨h1, h2, e', h, ee'⟩)
                  · simp at h; subst h
                    rw [ekk] at ee'
                    have : k' = kk := by have := Sum.inl.inj ee'; omega
                    exact .inr ⟨this, h1, h2⟩
            · rw [decide_eq_false (fun z => hsb (by cases z; rfl))]
              refine iteF ⟨⟨_, _, rfl⟩, hfz6, g16, ?_⟩
              refine g26.imp (by omega) fun k' i t _ h hP => ?_
              rcases h with h | ⟨h1, h2, e', he', ee'⟩
              · exact .inl h
              · rw [tkj] at he'
                rcases List.mem_append.mp he' with h | h
                · exact .inr ⟨h1, h2, e', h, ee'⟩
                · simp at h; subst h
                  rw [ekk] at ee'
                  have : k' = kk := by have := Sum.inl.inj ee'; omega
                  subst this
                  rw [h1, hs, h2] at hP
                  exact absurd (by cases hP; rfl) hsb
          · rintro σ HF ⟨⟨v6, v7, rfl⟩, hfz, g1, g2⟩
            refine ⟨hfz, _, _, _, _, rfl, g1, g2.imp (by omega) fun kk i t hkm h hP => ?_⟩
            rw [tk] at h
            rcases List.mem_append.mp h with h | h
            · exact .inl h
            · simp at h
              obtain ⟨h1, h2⟩ : i = pr.1 ∧ t = pr.2 := by cases pr; simpa using h
              refine .inr ⟨h1, h2, ?_⟩
              rw [h1] at hP
              obtain ⟨qv, w1, _⟩ := dd.yes kk _ hP
              obtain ⟨e, he, ee⟩ := mem_val w1
              exact ⟨e, by rw [List.take_length]; exact he, ee⟩
        · rintro σ H4 ⟨v3, v4, v6, v7, rfl, f3, FSn⟩
          rw [lx, List.take_length] at FSn
          refine ⟨_, rfl, k f ds H4 (frH.free hf) FSn.at_ l1 (fun kk d e => ?_) (frH.trans f3)⟩
          obtain ⟨dk, a1, _, a3, a4⟩ := FSn.ct kk d e
          refine ⟨dk, a1, fun i => ?_⟩
          cases ed : dealt PP kk i with
          | some t =>
            have hP := dealt_iff.mp ed
            exact a4 i t ((hC.mem i t).mp ⟨kk, hP⟩) hP
          | none =>
            cases ev : valV dk (.inl (i : Int)) with
            | none => rfl
            | some v =>
              obtain ⟨t, _, h⟩ := a3 i v ev
              rw [ed] at h; cases h
end
end K12
set_option linter.all false
set_option maxRecDepth 100000
set_option maxHeartbeats 1600000
/-! K12w34: counts, lacking. -/
namespace K12
open PySem PySem.Spec PyProof.Rows L2
theorem get_listX {X : Cx} : PGet X (rIxL X.K) := by
  intro pins s σ H x y v u Q I rx ry h
  obtain ⟨p, xs, i, z, rfl, rfl, hq, he, q⟩ := h
  cases rx
  obtain ⟨t, rfl⟩ := ry
  obtain ⟨its, r, pl, hz⟩ := I.list hq
  obtain ⟨j, h1, h2, h3, h4, h5⟩ := atI_get he
  obtain ⟨w, ew, rw'⟩ := r.get h2
  have hl := r.length
  have hn := line63
  have fin : EP X pins σ Q w s := ⟨z, H, I, rw', q⟩
  by_cases h0 : 0 ≤ i
  · have hj : i.toNat = j := by
      rw [seqIndex_of h0 h5] at h1
      exact Option.some.inj h1
    exact wpAny_getItem_list pl.isList h0 (by omega) (by rw [hj]; simpa using ew) fin
  · have hj : (i + (its.toArray.size : Int)).toNat = j := by
      rw [seqIndex_neg (by omega) h4] at h1
      rw [List.size_toArray, ← hl]
      exact Option.some.inj h1
    exact wpAny_getItem_list_neg pl.isList (by omega) (by rw [List.size_toArray] <;> omega) (by omega) (by rw [hj]; simpa using ew) fin
section
variable {X : Cx} (K : PySem.W.Frag)
theorem op_notIn_seqk (h : X.K = K := by rfl) : OpR X (compareOp .NotIn) (rIn K true) := h ▸ op_notIn_seq
end
theorem inV_ivs (t : Nat) (r : List Nat) : inV (iv t) (ivs r) = r.contains t := by
  unfold inV ivs
  rw [List.any_map]
  induction r with
  | nil => rfl
  | cons a r ih =>
    rw [List.any_cons, ih, List.contains_cons]
    congr 1
    show ((a : Int) == (t : Int)) = (t == a)
    by_cases h : t = a
    · subst h; simp
    · rw [beq_eq_false_iff_ne.mpr (by omega), beq_eq_false_iff_ne.mpr h]
theorem flat_ivs (r : List Nat) : (ivs r).all flatV = true := by
  unfold ivs; rw [List.all_map, List.all_eq_true]; intros; rfl
section
variable {P : Program} {w : World} {K : PySem.W.Frag} {mg : Str → Option Value} {base : Heap}
def spCounts (K : PySem.W.Frag) : Sp := fun vs H Q _ => ∃ (v : V) (B : List (List Nat)) (N : Nat), vs = [v, iv N] ∧ DT K H v (tabD B) ∧ (∀ r ∈ B, ∀ x ∈ r, x < N) ∧ N ≤ 1000 ∧ (∀ i, i < B.length → (B.getD i []).length ≤ 1000) ∧ B.length ≤ 1000 ∧
  ∀ p ns H', H p = none → H' p = some (.lst (ivs ns)) → ns.length = N → Fr S0 H H' → Q (.ref p) H'
abbrev sCounts : Stmt := top 14
abbrev psCounts : List Str := ["block", "size"]
abbrev nCounts : List Str := ["block", "size", "found", "row", "thing"]
theorem scCounts : FnScope nCounts psCounts (defScope sCounts) := ⟨rfl, rfl, rfl, by decide +kernel, rfl, by decide +kernel, by decide +kernel⟩
theorem ok_counts (D : Df K mg "counts" sCounts psCounts) (T : Bi mg) : Cl P w K mg base "counts" psCounts 1 (spCounts K) := by
  refine D.ok scCounts (fun vs H Q E h => ?_) (fun f cdv A outer s H vs Q E hr h => ?_)
  · obtain ⟨v, B, N, rfl, _⟩ := h
    rfl
  · obtain ⟨v, B, N, rfl, hB, hb, hN, hw, hh, k⟩ := h
    refine ⟨_, pss_cons (ps_set (i := 2) scCounts.nd rfl (Or.inl rfl) (pe_op op_rep (pe_lst (pa_cons pe_int pa_nil)) (pv 1))) (pss_cons (ps_for PassesOwn.never rfl (pi_tup (pv 0)) (pg_name (i := 3) scCounts.nd rfl (Or.inl rfl)) (pss_one (ps_for PassesOwn.never rfl (pi_tup (pv 3)) (pg_name (i := 4) scCounts.nd rfl (Or.inl rfl)) (pss_one (ps_augS (pv 2) (pv 4) get_listX pe_int ip_add set_list))))) (pss_one (ps_ret (pv 2)))), ?_⟩
    obtain ⟨pt, ts, rfl, tt, lt, ct⟩ := tab_inv hB
    refine ⟨by show 1 ≤ sizeLine; decide, fun l hl => ?_⟩
    have n1 : Fr S0 H (upd H l (.lst [V.int 0])) := (Fr.refl _ _).new hl
    refine ⟨_, rfl, l, N, [V.int 0], rfl, rfl, upd_same, by omega, by omega, by rw [sizeLine_eq]; simp; omega, fun p hp => ?_⟩
    have e0 : (List.replicate (N : Int).toNat [V.int 0]).flatten = ivs (List.replicate N 0) := by
      rw [show (N : Int).toNat = N from by omega]
      have : ∀ n : Nat, (List.replicate n [V.int 0]).flatten = ivs (List.replicate n 0) := by
        intro n
        induction n with
        | zero => rfl
        | succ n ih => rw [List.replicate_succ, List.flatten_cons, ih, List.replicate_succ]; rfl
      exact this N
    have n2 := n1.new (o := .lst (List.replicate (N : Int).toNat [V.int 0]).flatten) hp
    have hp0 := n1.free hp
    have ep : upd (upd H l (.lst [V.int 0])) p (.lst (List.replicate (N : Int).toNat [V.int 0]).flatten) p = some (.lst (ivs (List.replicate N 0))) := by rw [upd_same, e0]
    generalize upd (upd H l (.lst [V.int 0])) p (.lst (List.replicate (N : Int).toNat [V.int 0]).flatten) = H1 at n2 ep
    refine ⟨_, rfl, pt, rfl, ⟨_, (tt.fr n2).sq⟩, for_tup (K := K) (a := pt) (xs := ts) (fun i σ H' => ∃ (ns : List Nat) (v3 v4 : Option V), σ = [some (.ref pt), some (iv N), some (.ref p), v3, v4] ∧ Fr S0 H H' ∧ H' p = some (.lst (ivs ns)) ∧ ns.length = N) ?_ ?_ ?_ ?_⟩
    · exact ⟨_, none, none, rfl, n2, ep, by simp⟩
    · rintro i σ H' _ ⟨_, _, _, _, f1, _⟩
      exact (tt.fr f1).sq
    · rintro i x σ H2 hx ⟨ns, v3, v4, rfl, f1, e1, l1⟩
      have hi : i < B.length := by have := (List.getElem?_eq_some_iff.mp hx).1; omega
      obtain ⟨rq, c1, c2⟩ := ct i hi
      rw [c1] at hx
      cases Option.some.inj hx
      have hrow : ∀ x ∈ B.getD i [], x < N := fun x hx => by
        rw [getD_lt hi] at hx
        exact hb _ (List.getElem_mem _) x hx
      refine ⟨_, rfl, rq, rfl, ⟨_, (c2.fr f1).sq⟩, for_tup (K := K) (a := rq) (xs := ivs (B.getD i [])) (fun j σ H' => ∃ (ns : List Nat) (v4 : Option V), σ = [some (.ref pt), some (iv N), some (.ref p), some (.ref rq), v4] ∧ Fr S0 H H' ∧ H' p = some (.lst (ivs ns)) ∧ ns.length = N) ?_ ?_ ?_ ?_⟩
      · exact ⟨ns, v4, rfl, f1, e1, l1⟩
      · rintro j σ H' _ ⟨_, _, _, f2, _⟩
        exact (c2.fr f2).sq
      · rintro j x σ H3 hx3 ⟨ns, v4, rfl, f2, e2, l2⟩
        obtain ⟨t, et, rfl⟩ := iv_at hx3
        have ht := hrow t (List.mem_of_getElem? et)
        refine ⟨_, rfl, _, rfl, p, _, _, _, rfl, rfl, SqL.of e2, atI_nat (ivs_at (by rw [l2]; exact ht)), _, _, rfl, rfl, p, _, _, _, rfl, rfl, e2, Evl.ixN_nat (by rw [ivs_len, l2]; exact ht), ?_⟩
        have e3 : (V.int (((ns.getD t 0 : Nat) : Int) + 1)) = iv (ns.getD t 0 + 1) := by simp
        refine ⟨ns.set t (ns.getD t 0 + 1), _, rfl, f2.mut hp0, ?_, by rw [List.length_set]; exact l2⟩
        rw [upd_same, ← ivs_set]; rfl
      · rintro σ H3 ⟨ns, v4, rfl, f2, e2, l2⟩
        exact ⟨ns, _, _, rfl, f2, e2, l2⟩
    · rintro σ H2 ⟨ns, v3, v4, rfl, f1, e1, l1⟩
      exact ⟨_, rfl, k p ns H2 hp0 e1 l1 f1⟩
/-! ### lacking: nothing -/
def spLacking (K : PySem.W.Frag) : Sp := fun vs H Q _ => ∃ (v : V) (B : List (List Nat)) (n : Nat), vs = [v, iv (n + n)] ∧ DT K H v (tabD B) ∧ Blk n (n + n) B ∧ 0 < n ∧ n ≤ 400 ∧
  ∀ p H', H p = none → H' p = some (.tup []) → Fr S0 H H' → Q (.ref p) H'
abbrev sLacking : Stmt := top 15
abbrev nLacking : List Str := ["block", "size", "least", "thing", "many"]
theorem scLacking : FnScope nLacking psCounts (defScope sLacking) := ⟨rfl, rfl, rfl, by decide +kernel, rfl, by decide +kernel, by decide +kernel⟩
theorem ok_lacking (D : Df K mg "lacking" sLacking psCounts) (T : Bi mg) (cC : Cl P w K mg base "counts" psCounts 1 (spCounts K)) : Cl P w K mg base "lacking" psCounts 2 (spLacking K) := by
  refine D.ok scLacking (fun vs H Q E h => ?_) (fun f cdv A outer s H vs Q E hr h => ?_)
  · obtain ⟨v, B, n, rfl, _⟩ := h
    rfl
  · obtain ⟨v, B, n, rfl, hB, bk, hn0, hn, k⟩ := h
    refine ⟨_, pss_cons (ps_set (i := 2) scLacking.nd rfl (Or.inr rfl) (pe_op op_sub (pe_op op_add (pe_callB call_len_seq (by rfl) T.len PySem.boot_len (pa_cons (pv 0) pa_nil)) (pe_callB call_len_seq (by rfl) T.len PySem.boot_len (pa_cons (pe_ix ix_tup (pv 0) pe_int (fun _ _ => rfl)) pa_nil))) (pv 1))) (pss_one (ps_ret (pe_callTy call_tuple_of (by rfl) T.tuple PyProof.Rows.boot_tuple (pa_cons (pe_lc (own := [("thing", 3), ("many", 4)]) (g := _) (tt := _) rfl scLacking.nd (pi_enum (by rfl) T.enumerate (pa_cons (pe_cl cC hr (pa_cons (pv 0) (pa_cons (pv 1) pa_nil))) pa_nil)) (blkOk_by (N := nLacking) (sc := defScope sLacking) (by decide +kernel)) (fun _ _ _ _ _ => pg_tupk (n := 2) K (by rfl) (pgs_cons (pg_name (i := 3) scLacking.nd rfl (Or.inl rfl)) (pgs_cons (pg_name (i := 4) scLacking.nd rfl (Or.inl rfl)) pgs_nil))) (fun _ _ _ _ _ => pts_one (pt_cmpR op_lt (pv 4) (pv 2) (nomark _))) (fun _ _ _ _ _ => pv 3)) pa_nil)))), ?_⟩
    obtain ⟨pt, ts, rfl, tt, lt, ct⟩ := tab_inv hB
    have lts : ts.length = n := by rw [lt, bk.len]
    obtain ⟨rq, c1, c2⟩ := ct 0 (by rw [bk.len]; exact hn0)
    obtain ⟨d1, d2, d3⟩ := bk.rowOf hn0
    refine ⟨_, rfl, pt, _, rfl, .inr tt.sq, _, rfl, pt, _, _, _, rfl, rfl, tt.sq, atI_nat (j := 0) c1, rq, _, rfl, .inr c2.sq, _, _, rfl, rfl, _, rfl, _, _, rfl, rfl, ?_⟩
    refine ⟨_, rfl, _, rfl, .ref pt, B, n + n, rfl, hB, fun r hr x hx => (bk.row r hr).2.2 x hx, by omega, fun i hi => by rw [(bk.rowOf (by rw [← bk.len]; exact hi)).1]; omega, by rw [bk.len]; omega, fun p ns H1 hp e1 l1 f1 => ?_⟩
    refine ⟨p, _, rfl, SqL.of e1, fun d hd => lc_it (walk_enum (K := K) (a := p) (xs := ivs ns)) (fun i H' => Fr S0 H1 H' ∧ H' d = some (.lst [])) ?_ ?_ ?_ ?_⟩
    · exact ⟨(Fr.refl _ _).new hd, upd_same⟩
    · rintro i H' _ ⟨f2, _⟩
      exact SqL.of (f2.keep _ _ e1 (fun z => z))
    · rintro i x H2 H3 hi ⟨f2, e2⟩ ⟨T1, y1, y2, rfl, hT, rfl, hy1, hy2⟩
      cases Option.some.inj hy1
      obtain ⟨t, _, rfl⟩ := iv_at (show (ivs ns)[i]? = some y2 from hy2)
      have n3 : Fr S0 H2 (upd H2 T1 (.tup [.int (i : Nat), iv t])) := (Fr.refl _ _).new hT
      refine ⟨T1, _, rfl, SqT.of upd_same, rfl, _, _, rfl, _, _, rfl, rfl, rfl, ?_⟩
      refine ⟨_, rfl, _, rfl, _, _, rfl, rfl, _, rfl, ?_⟩
      rw [decide_eq_false (by rw [lts, ivs_len, d1]; omega)]
      exact iteF ⟨f2.trans n3, n3.keep _ _ e2 (fun z => z)⟩
    · rintro H2 ⟨f2, e2⟩
      refine ⟨d, _, rfl, .inl ⟨SqL.of e2, fun q hq => ?_⟩⟩
      have f3 := (f1.trans f2)
      exact k q _ (f3.free hq) upd_same (f3.new hq)
end
end K12
set_option linter.all false
set_option maxRecDepth 100000
set_option maxHeartbeats 1600000
/-! K12w35: widened. -/
namespace K12
open PySem PySem.Spec PyProof.Rows L2
section
variable {X : Cx} (K : PySem.W.Frag)
theorem call_list_ofk (h : X.K = K := by rfl) : CallR X (.type "list") (fun xs H Q => ∃ p ys, xs = [.ref p] ∧ (SqL K H p ys ∨ SqT K H p ys) ∧ ∀ l, H l = none → Q (.ref l) (upd H l (.lst ys))) := h ▸ call_list_of
end
/-- a list of lists -/
structure LL (H : Hp) (p : Addr) (rs : List Addr) (R : List (List Nat)) : Prop where
  at_ : H p = some (.lst (rs.map V.ref))
  len : rs.length = R.length
  nd : rs.Nodup
  row : ∀ (i : Nat) (q : Addr), rs[i]? = some q → H q = some (.lst (ivs (R.getD i [])))
theorem pairsOf_succ (k N : Nat) (p : Nat → Nat → Bool) : pairsOf (k + 1) N p = pairsOf k N p ++ ((List.range N).filter (p k)).map fun t => (k, t) := by
  unfold pairsOf
  rw [List.range_succ, List.flatMap_append]; simp
theorem pairsOf_len (k N : Nat) (p : Nat → Nat → Bool) : (pairsOf k N p).length ≤ k * N := by
  induction k with
  | zero => simp [pairsOf]
  | succ k ih =>
    rw [pairsOf_succ, List.length_append, List.length_map]
    have := List.length_filter_le (p k) (List.range N)
    rw [List.length_range] at this
    rw [Nat.add_mul]; omega
theorem Blk.deg {n : Nat} {B : List (List Nat)} (b : Blk n (n + n) B) : (∀ i, degR (pairsW B (n + n)) i ≤ n) ∧ ∀ t, degT (pairsW B (n + n)) t ≤ n := by
  refine ⟨fun i => ?_, fun t => ?_⟩
  · by_cases hi : i < n
    · refine Nat.le_trans (degR_pairsOf _ _ _ _) ?_
      obtain ⟨h1, h2, h3⟩ := b.rowOf hi
      rw [count_not h2 h3, h1]; omega
    · have : degR (pairsW B (n + n)) i = 0 := by
        unfold degR
        rw [List.length_eq_zero_iff, List.filter_eq_nil_iff]
        rintro ⟨j, t⟩ hm q
        simp at q; subst q
        have := (mem_pairsOf.mp hm).1
        rw [b.len] at this
        exact hi this
      omega
  · refine Nat.le_trans (degT_pairsOf _ _ _ _) ?_
    have := List.length_filter_le (fun i => !(B.getD i []).contains t) (List.range B.length)
    rw [List.length_range, b.len] at this
    rw [b.len]; exact this
theorem getD_eq {α : Type} {l : List α} {i : Nat} {d a : α} (h : l[i]? = some a) : l.getD i d = a := by
  rw [List.getD_eq_getElem?_getD, h]; rfl
section
variable {P : Program} {w : World} {K : PySem.W.Frag} {mg : Str → Option Value} {base : Heap}
def spWidened (K : PySem.W.Frag) : Sp := fun vs H Q _ => ∃ (v : V) (B : List (List Nat)) (n : Nat), vs = [v, iv (n + n)] ∧ DT K H v (tabD B) ∧ Blk n (n + n) B ∧ 0 < n ∧ n ≤ 30 ∧
  ∀ p rs H', H p = none → LL H' p rs (widenedM B (n + n) n) → Fr S0 H H' → Q (.ref p) H'
abbrev sWidened : Stmt := top 16
abbrev nWidened : List Str := ["block", "size", "pairs", "number", "row", "thing", "found", "dealt"]
theorem scWidened : FnScope nWidened psCounts (defScope sWidened) := ⟨rfl, rfl, rfl, by decide +kernel, rfl, by decide +kernel, by decide +kernel⟩
theorem ok_widened (D : Df K mg "widened" sWidened psCounts) (T : Bi mg) (cR : Cl P w K mg base "rounds" psRounds 4 (spRounds K)) : Cl P w K mg base "widened" psCounts 5 (spWidened K) := by
  refine D.ok scWidened (fun vs H Q E h => ?_) (fun f cdv A outer s H vs Q E hr h => ?_)
  · obtain ⟨v, B, n, rfl, _⟩ := h
    rfl
  · obtain ⟨v, B, n, rfl, hB, bk, hn0, hn, k⟩ := h
    have hu := hu_of hr
    refine ⟨_, pss_cons (ps_set (i := 2) scWidened.nd rfl (Or.inl rfl) (pe_lst pa_nil)) (pss_cons (ps_for PassesOwn.never rfl (pi_enumT (by rfl) T.enumerate (pa_cons (pv 0) pa_nil)) (pg_tup (by rfl) (pgs_cons (pg_name (i := 3) scWidened.nd rfl (Or.inr rfl)) (pgs_cons (pg_name (i := 4) scWidened.nd rfl (Or.inr rfl)) pgs_nil))) (pss_one (ps_expr (pe_bm PySem.F.plainAttrs_list PySem.F.slot_list_extend PySem.F.type_list_extend mt_extend (pv 2) (pa_cons (pe_lc (own := [("thing", 5)]) (g := gName 5) (tt := _) rfl scWidened.nd (pi_range1 rfl T.range (pa_cons (pv 1) pa_nil)) (blkOk_by (N := nWidened) (sc := defScope sWidened) (by decide +kernel)) (fun _ _ _ _ _ => pg_name (i := 5) scWidened.nd rfl (Or.inl rfl)) (fun _ _ _ _ _ => pts_one (pt_cmpR (op_notIn_seqk K) (pv 5) (pv 4) (by rfl))) (fun _ _ _ _ _ => pe_tup (pa_cons (pv 3) (pa_cons (pv 5) pa_nil)))) pa_nil))))) (pss_cons (ps_setLc (i := 6) (own := [("row", 4)]) (g := gName 4) (tt := tYes) rfl scWidened.nd rfl rfl (sw_true rfl rfl rfl (by decide +kernel)) (pi_tup (pv 0)) (blkOk_by (N := nWidened) (sc := defScope sWidened) (by decide +kernel)) (fun _ _ _ _ _ => pg_name (i := 4) scWidened.nd rfl (Or.inl rfl)) (fun _ _ _ _ _ => pts_nil) (fun _ _ _ _ _ => pe_callTy (call_list_ofk K) (by rfl) T.list PyProof.Rows.boot_list (pa_cons (pv 4) pa_nil))) (pss_cons (ps_for PassesOwn.never rfl (pi_list (pe_cl cR hr (pa_cons (pv 2) (pa_cons (pe_op op_sub (pv 1) (pe_callB call_len_seq (by rfl) T.len PySem.boot_len (pa_cons (pe_ix ix_tup (pv 0) pe_int (fun _ _ => rfl)) pa_nil))) pa_nil)))) (pg_name (i := 7) scWidened.nd rfl (Or.inl rfl)) (pss_one (ps_for PassesOwn.never rfl (pi_enum (by rfl) T.enumerate (pa_cons (pv 6) pa_nil)) (pg_tup (by rfl) (pgs_cons (pg_name (i := 3) scWidened.nd rfl (Or.inr rfl)) (pgs_cons (pg_name (i := 4) scWidened.nd rfl (Or.inr rfl)) pgs_nil))) (pss_one (ps_expr (pe_bm PySem.F.plainAttrs_list PySem.F.slot_list_append PySem.F.type_list_append mt_append (pv 4) (pa_cons (pe_dget hu (pv 7) (pv 3) (fun _ _ => rfl)) pa_nil))))))) (pss_one (ps_ret (pv 6)))))), ?_⟩
    obtain ⟨pt, ts, rfl, tt, lt, ct⟩ := tab_inv hB
    have lts : ts.length = n := by rw [lt, bk.len]
    refine ⟨Nat.zero_le _, fun pp hpp => ?_⟩
    have n1 : Fr S0 H (upd H pp (.lst [])) := (Fr.refl _ _).new hpp
    let pr : Nat → Nat → Bool := fun i t => !(B.getD i []).contains t
    refine ⟨_, rfl, pt, ts, rfl, (tt.fr n1).sq, for_it (walk_enumT (K := K) (a := pt) (xs := ts)) (fun i σ H' => ∃ (v3 v4 : Option V) (xs : List V), σ = [some (.ref pt), some (iv (n + n)), some (.ref pp), v3, v4, none, none, none] ∧ Fr S0 H H' ∧ H' pp = some (.lst xs) ∧ DTs K H' xs ((pairsOf i (n + n) pr).map p2D)) ?_ ?_ ?_ ?_⟩
    · exact ⟨none, none, [], rfl, n1, upd_same, .nil⟩
    · rintro i σ H' _ ⟨_, _, _, _, f1, _⟩
      exact (tt.fr f1).sq
    · rintro i x σ H1 H2 hi ⟨v3, v4, xs, rfl, f1, e1, t1⟩ ⟨tup, y1, y2, rfl, ht1, rfl, hy1, hy2⟩
      cases Option.some.inj hy1
      have hin : i < n := by omega
      obtain ⟨rq, c1, c2⟩ := ct i (by rw [bk.len]; exact hin)
      cases Option.some.inj (c1.symm.trans hy2)
      obtain ⟨d1, d2, d3⟩ := bk.rowOf hin
      have n2 : Fr S0 H1 (upd H1 tup (.tup [.int (i : Nat), .ref rq])) := (Fr.refl _ _).new ht1
      have f2 := f1.trans n2
      have e2 := n2.keep _ _ e1 (fun z => z)
      have t2 := t1.fr n2
      have lx : xs.length = (pairsOf i (n + n) pr).length := by rw [t1.len, List.length_map]
      have lp := pairsOf_len i (n + n) pr
      have lp2 : i * (n + n) ≤ 1800 := Nat.le_trans (Nat.mul_le_mul (show i ≤ 30 by omega) (show n + n ≤ 60 by omega)) (by decide)
      refine ⟨tup, _, rfl, SqT.of upd_same, rfl, _, _, rfl, _, _, rfl, rfl, ?_⟩
      generalize upd H1 tup (.tup [.int (i : Nat), .ref rq]) = H2 at n2 f2 e2 t2
      refine ⟨_, rfl, .inl ⟨rfl, _, SqL.of e2⟩, _, rfl, _, rfl, by omega, by omega, fun d hd => lc_range (lo := 0) (n := n + n) (fun j H' => Fr S0 H2 H' ∧ ∃ zs : List V, H' d = some (.lst zs) ∧ DTs K H' zs ((((List.range j).filter (pr i)).map fun t => (i, t)).map p2D)) ?_ ?_ ?_⟩
      · exact ⟨(Fr.refl _ _).new hd, [], upd_same, .nil⟩
      · rintro j H' hj ⟨f3, zs, e3, t3⟩
        have ee : ((0 : Int) + (j : Int)) = (j : Int) := by omega
        rw [ee]
        have lz : zs.length ≤ j := by
          have := List.length_filter_le (pr i) (List.range j)
          rw [List.length_range] at this
          rw [t3.len, List.length_map, List.length_map]; exact this
        refine ⟨rfl, _, rfl, _, rfl, rq, _, rfl, .inr ((c2.fr f2).fr f3).sq, rfl, flat_ivs _, _, rfl, ?_⟩
        rw [inV_ivs, List.range_succ, List.filter_append, List.map_append, List.map_append]
        show if (if true = true then !(B.getD i []).contains j else (B.getD i []).contains j) = true then _ else _
        rw [if_pos rfl]
        cases hc : (B.getD i []).contains j with
        | true =>
          refine iteF ⟨f3, zs, e3, ?_⟩
          have hp : pr i j = false := by show (!(B.getD i []).contains j) = false; rw [hc]; rfl
          have : (([j] : List Nat).filter (pr i)) = [] := by simp [hp]
          rw [this]; simpa using t3
        | false =>
          refine iteT ?_
          refine ⟨_, rfl, _, rfl, by show 2 ≤ sizeLine; decide, fun t ht => ?_⟩
          have n4 : Fr S0 H' (upd H' t (.tup [.int (i : Nat), iv j])) := (Fr.refl _ _).new ht
          have e4 := n4.keep _ _ e3 (fun z => z)
          have g : Fr (S1 d) (upd H' t (.tup [.int (i : Nat), iv j])) (upd (upd H' t (.tup [.int (i : Nat), iv j])) d (.lst (zs ++ [.ref t]))) := (Fr.refl _ _).set rfl (lst_ne_tup e4)
          refine ⟨_, e4, sz (by omega), (f3.trans n4).mut hd, zs ++ [.ref t], upd_same, ?_⟩
          have hp : pr i j = true := by show (!(B.getD i []).contains j) = true; rw [hc]; rfl
          have : (([j] : List Nat).filter (pr i)) = [j] := by simp [hp]
          rw [this]
          exact ((t3.fr n4).fr g).append (.one (dt_row (ns := [i, j]) (g.tup _ _ upd_same)))
      · rintro H3 ⟨f3, zs, e3, t3⟩
        have e4 := f3.keep _ _ e2 (fun z => z)
        have lz : zs.length ≤ n + n := by
          have := List.length_filter_le (pr i) (List.range (n + n))
          rw [List.length_range] at this
          rw [t3.len, List.length_map, List.length_map]; exact this
        have g : Fr (S1 pp) H3 (upd H3 pp (.lst (xs ++ zs))) := (Fr.refl _ _).set rfl (lst_ne_tup e4)
        refine ⟨pp, d, xs, zs, rfl, rfl, e4, e3, szl (by omega), _, _, xs ++ zs, rfl, (f2.trans f3).mut hpp, upd_same, ?_⟩
        rw [pairsOf_succ, List.map_append]
        exact ((t2.fr f3).fr g).append (t3.fr g)
    · rintro σ H1 ⟨v3, v4, xs, rfl, f1, e1, t1⟩
      rw [lts] at t1
      -- found
      refine ⟨_, rfl, pt, rfl, ⟨_, (tt.fr f1).sq⟩, fun pf hpf => lc_tup (K := K) (a := pt) (xs := ts) (fun i H' => Fr S0 H1 H' ∧ ∃ rs : List Addr, H' pf = some (.lst (rs.map V.ref)) ∧ rs.length = i ∧ rs.Nodup ∧ ∀ (j : Nat) (q : Addr), rs[j]? = some q → H1 q = none ∧ q ≠ pf ∧ H' q = some (.lst (ivs (B.getD j [])))) ?_ ?_ ?_ ?_⟩
      · exact ⟨(Fr.refl _ _).new hpf, [], upd_same, rfl, List.nodup_nil, fun j q e => by simp at e⟩
      · rintro i H' _ ⟨f2, _⟩
        exact ((tt.fr f1).fr f2).sq
      · rintro i x H2 hx ⟨f2, rs, e2, l2, nd2, r2⟩
        have hin : i < n := by have := (List.getElem?_eq_some_iff.mp hx).1; omega
        obtain ⟨rq, c1, c2⟩ := ct i (by rw [bk.len]; exact hin)
        rw [c1] at hx
        cases Option.some.inj hx
        refine ⟨rfl, ?_⟩
        dsimp only [tYes]
        refine iteT ?_
        refine ⟨_, rfl, rq, _, rfl, .inr ((c2.fr f1).fr f2).sq, fun l hl => ?_⟩
        have n3 : Fr S0 H2 (upd H2 l (.lst (ivs (B.getD i [])))) := (Fr.refl _ _).new hl
        have e3 := n3.keep _ _ e2 (fun z => z)
        have nlp : l ≠ pf := (ne_of_none e2 hl).symm
        refine ⟨_, e3, by rw [List.length_map, l2]; exact sz (by omega), (f2.trans n3).mut hpf, rs ++ [l], by rw [upd_same]; simp, by simp [l2], ?_, fun j q e => ?_⟩
        · rw [List.nodup_append]
          refine ⟨nd2, by simp, fun a ha b hb' e => ?_⟩
          simp at hb'
          subst hb'
          subst e
          obtain ⟨j, hj⟩ := List.getElem?_of_mem ha
          rw [(r2 j _ hj).2.2] at hl; cases hl
        · by_cases hj : j < rs.length
          · rw [List.getElem?_append_left hj] at e
            obtain ⟨a1, a0, a2⟩ := r2 j q e
            exact ⟨a1, a0, by rw [upd_ne a0]; exact n3.keep _ _ a2 (fun z => z)⟩
          · rw [List.getElem?_append_right (by omega)] at e
            have ej : j = rs.length := by
              have := (List.getElem?_eq_some_iff.mp e).1
              simp at this; omega
            subst ej
            simp at e; subst e
            rw [l2]
            exact ⟨f2.free hl, nlp, by rw [upd_ne nlp]; exact upd_same⟩
      · rintro H2 ⟨f2, rs, e2, l2, nd2, r2⟩
        rw [lts] at l2
        have hrf : ∀ q ∈ rs, H q = none := fun q hq => by
          obtain ⟨j, hj⟩ := List.getElem?_of_mem hq
          exact f1.free (r2 j q hj).1
        have hpf0 : H pf = none := f1.free hpf
        have f02 := f1.trans f2
        have e12 := f2.keep _ _ e1 (fun z => z)
        obtain ⟨rq0, c1, c2⟩ := ct 0 (by rw [bk.len]; exact hn0)
        obtain ⟨d1, _, _⟩ := bk.rowOf hn0
        have hC := bk.col_
        have lpw := pairsOf_len n (n + n) pr
        have lp2 : n * (n + n) ≤ 1800 := Nat.le_trans (Nat.mul_le_mul (show n ≤ 30 by omega) (show n + n ≤ 60 by omega)) (by decide)
        have epw : pairsW B (n + n) = pairsOf n (n + n) pr := by unfold pairsW; rw [bk.len]
        refine ⟨_, rfl, _, rfl, _, rfl, pt, _, _, _, rfl, rfl, (tt.fr f02).sq, atI_nat (j := 0) c1, rq0, _, rfl, .inr (c2.fr f02).sq, _, _, rfl, rfl, ?_⟩
        have em : ((n + n : Nat) : Int) - ((ivs (B.getD 0 [])).length : Int) = ((n : Nat) : Int) := by rw [ivs_len, d1]; omega
        refine ⟨pp, n, xs, pairsOf n (n + n) pr, (show ([V.ref pp, V.int (((n + n : Nat) : Int) - ((ivs (B.getD 0 [])).length : Int))] : List V) = [V.ref pp, iv n] by rw [em]), e12, t1.fr f2, nodup_pairsOf _ _ _, fun i => ?_, fun t => ?_, fun e he => ?_, by omega, by omega, fun fd ds H3 hfd e3 l3 c3 f3 => ?_⟩
        · rw [← epw]; exact bk.deg.1 i
        · rw [← epw]; exact bk.deg.2 t
        · obtain ⟨a, b⟩ := e
          obtain ⟨h1, h2, _⟩ := mem_pairsOf.mp he
          exact ⟨by show a < 1000; omega, by show b < 1000; omega⟩
        · have c3' : ∀ (k : Nat) (d : Addr), ds[k]? = some d → ∃ dk, H3 d = some (.dK dk) ∧ ∀ i : Nat, valV dk (.inl (i : Int)) = (K12.dealt (roundsM (pairsW B (n + n)) n) k i).map iv := by rw [epw]; exact c3
          have f03 := f02.trans f3
          have e33 := f3.keep _ _ e2 (fun z => z)
          have hrow : ∀ (j : Nat) (q : Addr), rs[j]? = some q → q ≠ pf ∧ H3 q = some (.lst (ivs (B.getD j []))) := fun j q e => by
            obtain ⟨_, a1, a2⟩ := r2 j q e
            exact ⟨a1, f3.keep _ _ a2 (fun z => z)⟩
          let W : Nat → Nat → List Nat := fun c i => B.getD i [] ++ (List.range c).map fun c => (K12.dealt (roundsM (pairsW B (n + n)) n) c i).getD 0
          have lW : ∀ c i, i < n → (W c i).length = n + c := fun c i hi => by
            show (B.getD i [] ++ _).length = _
            rw [List.length_append, List.length_map, List.length_range, (bk.rowOf hi).1]
          have wid : (widenedM B (n + n) n) = (List.range n).map (W n) := by unfold widenedM; rw [bk.len]; rfl
          let S : Addr → Prop := fun a => a ∈ rs
          refine ⟨fd, rfl, ⟨_, SqL.of e3⟩, for_list (K := K) (a := fd) (xs := ds.map V.ref) (fun c σ H' => ∃ (v3 v4 v7 : Option V), σ = [some (.ref pt), some (iv (n + n)), some (.ref pp), v3, v4, none, some (.ref pf), v7] ∧ Fr S0 H H' ∧ Fr S H3 H' ∧ ∀ (j : Nat) (q : Addr), rs[j]? = some q → H' q = some (.lst (ivs (W c j)))) ?_ ?_ ?_ ?_⟩
          · refine ⟨_, _, none, rfl, f03, Fr.refl _ _, fun j q e => ?_⟩
            rw [(hrow j q e).2]
            show _ = some (HO.lst (ivs (B.getD j [] ++ [])))
            rw [List.append_nil]
          · rintro c σ H' _ ⟨_, _, _, _, _, f4, _⟩
            refine SqL.of (f4.keep _ _ e3 fun z => ?_)
            obtain ⟨j, hj⟩ := List.getElem?_of_mem (show fd ∈ rs from z)
            have := (r2 j fd hj).2.2
            rw [this] at hfd; cases hfd
          · rintro c x σ H4 hx ⟨v3, v4, v7, rfl, f04, f34, w4⟩
            obtain ⟨d, hd, rfl⟩ : ∃ d, ds[c]? = some d ∧ x = .ref d := by
              rw [List.getElem?_map] at hx
              cases e : ds[c]? with
              | none => rw [e] at hx; cases hx
              | some d => rw [e] at hx; exact ⟨d, rfl, (Option.some.inj hx).symm⟩
            have hcn : c < n := by have := (List.getElem?_eq_some_iff.mp hd).1; omega
            obtain ⟨dk, hdk, hval⟩ := c3' c d hd
            have hds : ¬ S d := fun z => by
              obtain ⟨j, hj⟩ := List.getElem?_of_mem (show d ∈ rs from z)
              have := (hrow j d hj).2
              rw [this] at hdk; cases hdk
            have hpfs : ¬ S pf := fun z => by
              obtain ⟨j, hj⟩ := List.getElem?_of_mem (show pf ∈ rs from z)
              exact (hrow j pf hj).1 rfl
            refine ⟨_, rfl, pf, _, rfl, SqL.of (f34.keep _ _ e33 hpfs), for_it (walk_enum (K := K) (a := pf) (xs := rs.map V.ref)) (fun i σ H' => ∃ (v3 v4 : Option V), σ = [some (.ref pt), some (iv (n + n)), some (.ref pp), v3, v4, none, some (.ref pf), some (.ref d)] ∧ Fr S0 H H' ∧ Fr S H3 H' ∧ ∀ (j : Nat) (q : Addr), rs[j]? = some q → H' q = some (.lst (ivs (if j < i then W (c + 1) j else W c j)))) ?_ ?_ ?_ ?_⟩
            · exact ⟨_, _, rfl, f04, f34, fun j q e => by rw [if_neg (Nat.not_lt_zero _)]; exact w4 j q e⟩
            · rintro i σ H' _ ⟨_, _, _, _, f5, _⟩
              exact SqL.of (f5.keep _ _ e33 hpfs)
            · rintro i x σ H5 H6 hi ⟨v3, v4, rfl, f05, f35, w5⟩ ⟨tup, y1, y2, rfl, ht1, rfl, hy1, hy2⟩
              cases Option.some.inj hy1
              obtain ⟨q, hq, rfl⟩ : ∃ q, rs[i]? = some q ∧ y2 = .ref q := by
                have h : (rs.map V.ref)[i]? = some y2 := hy2
                rw [List.getElem?_map] at h
                cases e : rs[i]? with
                | none => rw [e] at h; cases h
                | some q => rw [e] at h; exact ⟨q, rfl, (Option.some.inj h).symm⟩
              have hin : i < n := by have := (List.getElem?_eq_some_iff.mp hq).1; omega
              have n6 : Fr S0 H5 (upd H5 tup (.tup [.int (i : Nat), .ref q])) := (Fr.refl _ _).new ht1
              have f36 := f35.trans (n6.mono (S' := S) fun a z => z.elim)
              have wq := n6.keep _ _ (w5 i q hq) (fun z => z)
              rw [if_neg (Nat.lt_irrefl _)] at wq
              obtain ⟨t, ht, _⟩ := bk.dealt hin hcn
              have dg := DGet.k (k := Sum.inl (i : Int)) (f36.keep _ _ hdk hds)
              rw [hval, ht] at dg
              refine ⟨tup, _, rfl, SqT.of upd_same, rfl, _, _, rfl, _, _, rfl, rfl, ?_⟩
              refine ⟨_, rfl, .inl ⟨rfl, _, SqL.of wq⟩, _, rfl, _, rfl, d, _, rfl, dg, q, _, _, rfl, rfl, wq, by rw [ivs_len, lW c i hin]; exact sz (by omega), ?_⟩
              have f05' := f05.trans n6
              have ndup : ∀ (j : Nat) (q' : Addr), rs[j]? = some q' → q' = q → j = i := fun j q' e1 e2 => by
                subst e2
                obtain ⟨l1', e1'⟩ := List.getElem?_eq_some_iff.mp e1
                obtain ⟨l2', e2'⟩ := List.getElem?_eq_some_iff.mp hq
                exact (List.getElem_inj nd2 (h₀ := l1') (h₁ := l2')).mp (by rw [e1', e2'])
              refine ⟨_, _, rfl, f05'.mut (hrf q (List.mem_of_getElem? hq)), f36.set (show q ∈ rs from List.mem_of_getElem? hq) (lst_ne_tup wq), fun j q' e => ?_⟩
              by_cases hjq : q' = q
              · have hji := ndup j q' e hjq
                subst hji hjq
                rw [upd_same, if_pos (Nat.lt_succ_self _)]
                show _ = some (HO.lst (ivs (B.getD j [] ++ (List.range (c + 1)).map fun c => (K12.dealt (roundsM (pairsW B (n + n)) n) c j).getD 0)))
                rw [List.range_succ, List.map_append, ← List.append_assoc, ivs_app]
                simp [ht, ivs, W]
              · rw [upd_ne hjq]
                have := n6.keep _ _ (w5 j q' e) (fun z => z)
                rw [this]
                have hji : j ≠ i := fun z => by
                  subst z
                  rw [e] at hq; exact hjq (Option.some.inj hq)
                by_cases hj : j < i
                · rw [if_pos hj, if_pos (by omega)]
                · rw [if_neg hj, if_neg (by omega)]
            · rintro σ H5 ⟨v3, v4, rfl, f05, f35, w5⟩
              refine ⟨_, _, _, rfl, f05, f35, fun j q e => ?_⟩
              have := w5 j q e
              rw [if_pos (by rw [List.length_map]; exact (List.getElem?_eq_some_iff.mp e).1)] at this
              exact this
          · rintro σ H4 ⟨v3, v4, v7, rfl, f04, f34, w4⟩
            rw [List.length_map, l3] at w4
            have hpfs : ¬ S pf := fun z => by
              obtain ⟨j, hj⟩ := List.getElem?_of_mem (show pf ∈ rs from z)
              exact (hrow j pf hj).1 rfl
            refine ⟨_, rfl, k pf rs H4 hpf0 ⟨f34.keep _ _ e33 hpfs, by rw [wid, List.length_map, List.length_range]; exact l2, nd2, fun i q e => ?_⟩ f04⟩
            have hin : i < n := by have := (List.getElem?_eq_some_iff.mp e).1; omega
            rw [w4 i q e, wid]
            congr 3
            rw [List.getD_eq_getElem?_getD, List.getElem?_map, List.getElem?_range hin]; rfl
end
end K12
set_option linter.all false
set_option maxRecDepth 100000
set_option maxHeartbeats 1600000
/-! K12w36: lengthened, completed. -/
namespace K12
open PySem PySem.Spec PyProof.Rows L2
theorem Rect.deg {n m : Nat} {R : List (List Nat)} (b : Rect n (n + m) R) : (∀ j, degR (pairsL R (n + m)) j ≤ m) ∧ ∀ t, degT (pairsL R (n + m)) t ≤ m := by
  refine ⟨fun j => ?_, fun t => ?_⟩
  · by_cases hj : j < n + m
    · refine Nat.le_trans (degR_pairsOf _ _ _ _) ?_
      obtain ⟨h1, h2, h3⟩ := b.colOf hj
      rw [count_not h2 h3, h1]; omega
    · have : degR (pairsL R (n + m)) j = 0 := by
        unfold degR
        rw [List.length_eq_zero_iff, List.filter_eq_nil_iff]
        rintro ⟨j', t⟩ hm q
        simp at q; subst q
        exact hj (mem_pairsOf.mp hm).1
      omega
  · by_cases ht : t < n + m
    · refine Nat.le_trans (degT_pairsOf _ _ _ _) ?_
      -- the columns in which t stands: one for each row
      have ex : ∀ i, i < n → ∃ j, j < n + m ∧ cell R i j = t := by
        intro i hi
        obtain ⟨h1, h2, h3⟩ := b.rowOf hi
        obtain ⟨j, hj, e⟩ := List.getElem_of_mem (nodup_all h2 h1 h3 t ht)
        refine ⟨j, by omega, ?_⟩
        unfold cell
        rw [getD_lt hj, e]
      let g : Nat → Nat := fun i => firstK (n + m) fun j => cell R i j == t
      have hg : ∀ i, i < n → g i < n + m ∧ cell R i (g i) = t := by
        intro i hi
        obtain ⟨j, hj, e⟩ := ex i hi
        have : g i = j := firstK_is hj (by simp [e]) fun k' hk' q => by
          simp at q
          obtain ⟨h1, h2, h3⟩ := b.rowOf hi
          unfold cell at q e
          rw [getD_lt (l := R.getD i []) (by rw [h1]; exact hk')] at q
          rw [getD_lt (l := R.getD i []) (by rw [h1]; exact hj)] at e
          exact nodup_inj h2 _ _ (q.trans e.symm)
        rw [this]; exact ⟨hj, e⟩
      have nd : ((List.range n).map g ++ (List.range (n + m)).filter fun j => !(K12.colOf R j).contains t).Nodup := by
        rw [List.nodup_append]
        refine ⟨nodup_map_of List.nodup_range ?_, nd_filter _ List.nodup_range, ?_⟩
        · intro i hi i' hi' q
          have h1 := hg i (List.mem_range.mp hi)
          have h2 := hg i' (List.mem_range.mp hi')
          rw [q] at h1
          exact b.col i i' _ (List.mem_range.mp hi) (List.mem_range.mp hi') h1.1 (h1.2.trans h2.2.symm)
        · intro j hj j' hj' q
          subst q
          obtain ⟨i, hi, rfl⟩ := List.mem_map.mp hj
          have h1 := hg i (List.mem_range.mp hi)
          have h2 := (List.mem_filter.mp hj').2
          have h3 := colOf_get R (g i) (i := i) (by rw [b.len]; exact List.mem_range.mp hi)
          have h4 : t ∈ K12.colOf R (g i) := by rw [← h1.2]; exact List.mem_of_getElem? h3
          simp [h4] at h2
      have := nodup_len nd (u := List.range (n + m)) (by
        intro x hx
        rcases List.mem_append.mp hx with hx | hx
        · obtain ⟨i, hi, rfl⟩ := List.mem_map.mp hx
          exact List.mem_range.mpr (hg i (List.mem_range.mp hi)).1
        · exact (List.mem_filter.mp hx).1)
      simp only [List.length_append, List.length_map, List.length_range] at this
      omega
    · have : degT (pairsL R (n + m)) t = 0 := by
        unfold degT
        rw [List.length_eq_zero_iff, List.filter_eq_nil_iff]
        rintro ⟨j', t'⟩ hm q
        simp at q; subst q
        exact ht (mem_pairsOf.mp hm).2.1
      omega
section
variable {P : Program} {w : World} {K : PySem.W.Frag} {mg : Str → Option Value} {base : Heap}
def spLengthened (K : PySem.W.Frag) : Sp := fun vs H Q _ => ∃ (p : Addr) (rs : List Addr) (R : List (List Nat)) (n : Nat), vs = [.ref p, iv (n + n)] ∧ LL H p rs R ∧ Rect n (n + n) R ∧ 0 < n ∧ n ≤ 30 ∧
  ∀ v H', DT K H' v (tabD (lengthenedM R (n + n) n)) → Fr S0 H H' → Q v H'
abbrev sLengthened : Stmt := top 17
abbrev psLengthened : List Str := ["rows", "size"]
abbrev nLengthened : List Str := ["rows", "size", "pairs", "column", "own", "row", "thing", "found", "dealt"]
theorem scLengthened : FnScope nLengthened psLengthened (defScope sLengthened) := ⟨rfl, rfl, rfl, by decide +kernel, rfl, by decide +kernel, by decide +kernel⟩
theorem ok_lengthened (D : Df K mg "lengthened" sLengthened psLengthened) (T : Bi mg) (cR : Cl P w K mg base "rounds" psRounds 4 (spRounds K)) : Cl P w K mg base "lengthened" psLengthened 5 (spLengthened K) := by
  refine D.ok scLengthened (fun vs H Q E h => ?_) (fun f cdv A outer s H vs Q E hr h => ?_)
  · obtain ⟨p, rs, R, n, rfl, _⟩ := h
    rfl
  · obtain ⟨p, rs, R, n, rfl, hL, bk, hn0, hn, k⟩ := h
    have hu := hu_of hr
    refine ⟨_, pss_cons (ps_set (i := 2) scLengthened.nd rfl (Or.inl rfl) (pe_lst pa_nil)) (pss_cons (ps_for PassesOwn.never rfl (pi_range1 rfl T.range (pa_cons (pv 1) pa_nil)) (pg_name (i := 3) scLengthened.nd rfl (Or.inr rfl)) (pss_cons (ps_set (i := 4) scLengthened.nd rfl (Or.inr rfl) (pe_lc (own := [("row", 5)]) (g := gName 5) (tt := tYes) rfl scLengthened.nd (pi_list (pv 0)) (blkOk_by (N := nLengthened) (sc := defScope sLengthened) (by decide +kernel)) (fun _ _ _ _ _ => pg_name (i := 5) scLengthened.nd rfl (Or.inl rfl)) (fun _ _ _ _ _ => pts_nil) (fun _ _ _ _ _ => pe_ix (ix_listk K) (pv 5) (pv 3) (fun _ _ => rfl)))) (pss_one (ps_expr (pe_bm PySem.F.plainAttrs_list PySem.F.slot_list_extend PySem.F.type_list_extend mt_extend (pv 2) (pa_cons (pe_lc (own := [("thing", 6)]) (g := gName 6) (tt := _) rfl scLengthened.nd (pi_range1 rfl T.range (pa_cons (pv 1) pa_nil)) (blkOk_by (N := nLengthened) (sc := defScope sLengthened) (by decide +kernel)) (fun _ _ _ _ _ => pg_name (i := 6) scLengthened.nd rfl (Or.inl rfl)) (fun _ _ _ _ _ => pts_one (pt_cmpR (op_notIn_seqk K) (pv 6) (pv 4) (by rfl))) (fun _ _ _ _ _ => pe_tup (pa_cons (pv 3) (pa_cons (pv 6) pa_nil)))) pa_nil)))))) (pss_cons (ps_setLc (i := 7) (own := [("row", 5)]) (g := gName 5) (tt := tYes) rfl scLengthened.nd rfl rfl (sw_true rfl rfl rfl (by decide +kernel)) (pi_list (pv 0)) (blkOk_by (N := nLengthened) (sc := defScope sLengthened) (by decide +kernel)) (fun _ _ _ _ _ => pg_name (i := 5) scLengthened.nd rfl (Or.inl rfl)) (fun _ _ _ _ _ => pts_nil) (fun _ _ _ _ _ => pe_callTy (call_tuple_ofk K) (by rfl) T.tuple PyProof.Rows.boot_tuple (pa_cons (pv 5) pa_nil))) (pss_cons (ps_for PassesOwn.never rfl (pi_list (pe_cl cR hr (pa_cons (pv 2) (pa_cons (pe_op op_sub (pv 1) (pe_callB call_len_seq (by rfl) T.len PySem.boot_len (pa_cons (pv 0) pa_nil))) pa_nil)))) (pg_name (i := 8) scLengthened.nd rfl (Or.inr rfl)) (pss_one (ps_expr (pe_bm PySem.F.plainAttrs_list PySem.F.slot_list_append PySem.F.type_list_append mt_append (pv 7) (pa_cons (pe_callTy call_tuple_of (by rfl) T.tuple PyProof.Rows.boot_tuple (pa_cons (pe_lc (own := [("column", 3)]) (g := gName 3) (tt := tYes) rfl scLengthened.nd (pi_range1 rfl T.range (pa_cons (pv 1) pa_nil)) (blkOk_by (N := nLengthened) (sc := defScope sLengthened) (by decide +kernel)) (fun _ _ _ _ _ => pg_name (i := 3) scLengthened.nd rfl (Or.inl rfl)) (fun _ _ _ _ _ => pts_nil) (fun _ _ _ _ _ => pe_dget hu (pv 8) (pv 3) (fun _ _ => rfl))) pa_nil)) pa_nil))))) (pss_one (ps_ret (pe_callTy call_tuple_of (by rfl) T.tuple PyProof.Rows.boot_tuple (pa_cons (pv 7) pa_nil))))))), ?_⟩
    have lrs : rs.length = n := by rw [hL.len, bk.len]
    have lrv : (rs.map V.ref).length = n := by rw [List.length_map, lrs]
    -- a row of the list
    have row_at' : ∀ {H' : Hp} {i : Nat} {x : V}, Fr S0 H H' → (rs.map V.ref)[i]? = some x → ∃ q, x = .ref q ∧ i < n ∧ H' q = some (.lst (ivs (R.getD i []))) := fun f hx => by
      rw [List.getElem?_map] at hx
      rename_i H' i x
      cases e : rs[i]? with
      | none => rw [e] at hx; cases hx
      | some q =>
        rw [e] at hx
        exact ⟨q, (Option.some.inj hx).symm, by have := (List.getElem?_eq_some_iff.mp e).1; omega, f.keep _ _ (hL.row i q e) (fun z => z)⟩
    refine ⟨Nat.zero_le _, fun pp hpp => ?_⟩
    have n1 : Fr S0 H (upd H pp (.lst [])) := (Fr.refl _ _).new hpp
    let pr : Nat → Nat → Bool := fun j t => !(K12.colOf R j).contains t
    refine ⟨_, rfl, _, rfl, by omega, by omega, for_range (lo := 0) (n := n + n) (fun i σ H' => ∃ (v3 v4 : Option V) (xs : List V), σ = [some (.ref p), some (iv (n + n)), some (.ref pp), v3, v4, none, none, none, none] ∧ Fr S0 H H' ∧ H' pp = some (.lst xs) ∧ DTs K H' xs ((pairsOf i (n + n) pr).map p2D)) ?_ ?_ ?_⟩
    · exact ⟨none, none, [], rfl, n1, upd_same, .nil⟩
    · rintro i σ H1 hi ⟨v3, v4, xs, rfl, f1, e1, t1⟩
      have ee : ((0 : Int) + (i : Int)) = (i : Int) := by omega
      rw [ee]
      obtain ⟨d1, d2, d3⟩ := bk.colOf hi
      have lx : xs.length = (pairsOf i (n + n) pr).length := by rw [t1.len, List.length_map]
      have lp := pairsOf_len i (n + n) pr
      have lp2 : i * (n + n) ≤ 3600 := Nat.le_trans (Nat.mul_le_mul (show i ≤ 60 by omega) (show n + n ≤ 60 by omega)) (by decide)
      refine ⟨_, rfl, p, rfl, ⟨_, SqL.of (f1.keep _ _ hL.at_ (fun z => z))⟩, fun ow how => lc_list (K := K) (a := p) (xs := rs.map V.ref) (fun j H' => Fr S0 H1 H' ∧ H' ow = some (.lst (ivs ((K12.colOf R i).take j)))) ?_ ?_ ?_ ?_⟩
      · exact ⟨(Fr.refl _ _).new how, upd_same⟩
      · rintro j H' _ ⟨f2, _⟩
        exact SqL.of ((f1.trans f2).keep _ _ hL.at_ (fun z => z))
      · rintro j x H2 hx ⟨f2, e2⟩
        obtain ⟨q, rfl, hjn, hq⟩ := row_at' (f1.trans f2) hx
        have cg := colOf_get R i (i := j) (by rw [bk.len]; exact hjn)
        refine ⟨rfl, ?_⟩
        dsimp only [tYes]
        refine iteT ?_
        refine ⟨_, rfl, _, rfl, q, _, _, _, rfl, rfl, SqL.of hq, atI_nat (ivs_at (by rw [(bk.rowOf hjn).1]; exact hi)), ?_⟩
        refine ⟨_, e2, by rw [ivs_len, List.length_take]; exact sz (by omega), f2.mut how, ?_⟩
        rw [upd_same, List.take_succ, cg, ivs_app]; rfl
      · rintro H2 ⟨f2, e2⟩
        rw [lrv, List.take_of_length_le (by rw [d1]; exact Nat.le_refl _)] at e2
        have e12 := f2.keep _ _ e1 (fun z => z)
        have t2 := t1.fr f2
        have f02 := f1.trans f2
        refine ⟨_, rfl, .inl ⟨rfl, _, SqL.of e12⟩, _, rfl, _, rfl, by omega, by omega, fun d hd => lc_range (lo := 0) (n := n + n) (fun j H' => Fr S0 H2 H' ∧ ∃ zs : List V, H' d = some (.lst zs) ∧ DTs K H' zs ((((List.range j).filter (pr i)).map fun t => (i, t)).map p2D)) ?_ ?_ ?_⟩
        · exact ⟨(Fr.refl _ _).new hd, [], upd_same, .nil⟩
        · rintro j H' hj ⟨f3, zs, e3, t3⟩
          have ee : ((0 : Int) + (j : Int)) = (j : Int) := by omega
          rw [ee]
          have lz : zs.length ≤ j := by
            have := List.length_filter_le (pr i) (List.range j)
            rw [List.length_range] at this
            rw [t3.len, List.length_map, List.length_map]; exact this
          refine ⟨rfl, _, rfl, _, rfl, ow, _, rfl, .inl (SqL.of (f3.keep _ _ e2 (fun z => z))), rfl, flat_ivs _, _, rfl, ?_⟩
          rw [inV_ivs, List.range_succ, List.filter_append, List.map_append, List.map_append]
          show if (if true = true then !(K12.colOf R i).contains j else (K12.colOf R i).contains j) = true then _ else _
          rw [if_pos rfl]
          cases hc : (K12.colOf R i).contains j with
          | true =>
            refine iteF ⟨f3, zs, e3, ?_⟩
            have hp : pr i j = false := by show (!(K12.colOf R i).contains j) = false; rw [hc]; rfl
            have : (([j] : List Nat).filter (pr i)) = [] := by simp [hp]
            rw [this]; simpa using t3
          | false =>
            refine iteT ?_
            refine ⟨_, rfl, _, rfl, by show 2 ≤ sizeLine; decide, fun t ht => ?_⟩
            have n4 : Fr S0 H' (upd H' t (.tup [.int (i : Nat), iv j])) := (Fr.refl _ _).new ht
            have e4 := n4.keep _ _ e3 (fun z => z)
            have g : Fr (S1 d) (upd H' t (.tup [.int (i : Nat), iv j])) (upd (upd H' t (.tup [.int (i : Nat), iv j])) d (.lst (zs ++ [.ref t]))) := (Fr.refl _ _).set rfl (lst_ne_tup e4)
            refine ⟨_, e4, sz (by omega), (f3.trans n4).mut hd, zs ++ [.ref t], upd_same, ?_⟩
            have hp : pr i j = true := by show (!(K12.colOf R i).contains j) = true; rw [hc]; rfl
            have : (([j] : List Nat).filter (pr i)) = [j] := by simp [hp]
            rw [this]
            exact ((t3.fr n4).fr g).append (.one (dt_row (ns := [i, j]) (g.tup _ _ upd_same)))
        · rintro H3 ⟨f3, zs, e3, t3⟩
          have e4 := f3.keep _ _ e12 (fun z => z)
          have lz : zs.length ≤ n + n := by
            have := List.length_filter_le (pr i) (List.range (n + n))
            rw [List.length_range] at this
            rw [t3.len, List.length_map, List.length_map]; exact this
          have g : Fr (S1 pp) H3 (upd H3 pp (.lst (xs ++ zs))) := (Fr.refl _ _).set rfl (lst_ne_tup e4)
          refine ⟨pp, d, xs, zs, rfl, rfl, e4, e3, szl (by omega), _, _, xs ++ zs, rfl, (f02.trans f3).mut hpp, upd_same, ?_⟩
          rw [pairsOf_succ, List.map_append]
          exact ((t2.fr f3).fr g).append (t3.fr g)
    · rintro σ H1 ⟨v3, v4, xs, rfl, f1, e1, t1⟩
      refine ⟨_, rfl, p, rfl, ⟨_, SqL.of (f1.keep _ _ hL.at_ (fun z => z))⟩, fun pf hpf => lc_list (K := K) (a := p) (xs := rs.map V.ref) (fun i H' => Fr S0 H1 H' ∧ ∃ ys, H' pf = some (.lst ys) ∧ DTs K H' ys ((R.take i).map rowD)) ?_ ?_ ?_ ?_⟩
      · exact ⟨(Fr.refl _ _).new hpf, [], upd_same, .nil⟩
      · rintro i H' _ ⟨f2, _⟩
        exact SqL.of ((f1.trans f2).keep _ _ hL.at_ (fun z => z))
      · rintro i x H2 hx ⟨f2, ys, e2, t2⟩
        obtain ⟨q, rfl, hin, hq⟩ := row_at' (f1.trans f2) hx
        refine ⟨rfl, ?_⟩
        dsimp only [tYes]
        refine iteT ?_
        refine ⟨_, rfl, q, _, rfl, .inl ⟨SqL.of hq, fun l hl => ?_⟩⟩
        have n3 : Fr S0 H2 (upd H2 l (.tup (ivs (R.getD i [])))) := (Fr.refl _ _).new hl
        have e3 := n3.keep _ _ e2 (fun z => z)
        have g : Fr (S1 pf) (upd H2 l (.tup (ivs (R.getD i [])))) (upd (upd H2 l (.tup (ivs (R.getD i [])))) pf (.lst (ys ++ [.ref l]))) := (Fr.refl _ _).set rfl (lst_ne_tup e3)
        refine ⟨_, e3, by rw [t2.len, List.length_map, List.length_take]; exact sz (by omega), (f2.trans n3).mut hpf, ys ++ [.ref l], upd_same, ?_⟩
        have er : R[i]? = some (R.getD i []) := by rw [getD_lt (by rw [bk.len]; exact hin)]; exact List.getElem?_eq_getElem _
        rw [List.take_succ, er, List.map_append]
        exact ((t2.fr n3).fr g).append (.one (dt_row (g.tup _ _ upd_same)))
      · rintro H2 ⟨f2, ys, e2, t2⟩
        rw [lrv, List.take_of_length_le (by rw [bk.len]; exact Nat.le_refl _)] at t2
        have f02 := f1.trans f2
        have hpf0 : H pf = none := f1.free hpf
        have e12 := f2.keep _ _ e1 (fun z => z)
        have lpw := pairsOf_len (n + n) (n + n) pr
        have lp2 : (n + n) * (n + n) ≤ 3600 := Nat.le_trans (Nat.mul_le_mul (show n + n ≤ 60 by omega) (show n + n ≤ 60 by omega)) (by decide)
        have em : ((n + n : Nat) : Int) - ((rs.map V.ref).length : Int) = ((n : Nat) : Int) := by rw [lrv]; omega
        refine ⟨_, rfl, _, rfl, _, rfl, p, _, rfl, .inl (SqL.of (f02.keep _ _ hL.at_ (fun z => z))), _, _, rfl, rfl, ?_⟩
        refine ⟨pp, n, xs, pairsL R (n + n), (show ([V.ref pp, V.int (((n + n : Nat) : Int) - ((rs.map V.ref).length : Int))] : List V) = [V.ref pp, iv n] by rw [em]), e12, t1.fr f2, nodup_pairsOf _ _ _, bk.deg.1, bk.deg.2, fun e he => ?_, by omega, by show (pairsOf (n + n) (n + n) pr).length ≤ 5000; omega, fun fd ds H3 hfd e3 l3 c3 f3 => ?_⟩
        · obtain ⟨a, b⟩ := e
          obtain ⟨h1, h2, _⟩ := mem_pairsOf.mp he
          exact ⟨by show a < 1000; omega, by show b < 1000; omega⟩
        · have f03 := f02.trans f3
          have e23 := f3.keep _ _ e2 (fun z => z)
          have hpf2 := hpf
          refine ⟨fd, rfl, ⟨_, SqL.of e3⟩, for_list (K := K) (a := fd) (xs := ds.map V.ref) (fun c σ H' => ∃ (v3 v4 v8 : Option V) (ys : List V), σ = [some (.ref p), some (iv (n + n)), some (.ref pp), v3, v4, none, none, some (.ref pf), v8] ∧ Fr S0 H H' ∧ Fr (S1 pf) H3 H' ∧ H' pf = some (.lst ys) ∧ DTs K H' ys ((R ++ (List.range c).map (longRow R (n + n) n)).map rowD)) ?_ ?_ ?_ ?_⟩
          · refine ⟨_, _, none, ys, rfl, f03, Fr.refl _ _, e23, ?_⟩
            simpa using t2.fr f3
          · rintro c σ H' _ ⟨_, _, _, _, _, _, f4, _⟩
            refine SqL.of (f4.keep _ _ e3 fun z => ?_)
            rw [show fd = pf from z, e2] at hfd; cases hfd
          · rintro c x σ H4 hx ⟨v3, v4, v8, ys4, rfl, f04, f34, e4, t4⟩
            obtain ⟨d, hd, rfl⟩ : ∃ d, ds[c]? = some d ∧ x = .ref d := by
              rw [List.getElem?_map] at hx
              cases e : ds[c]? with
              | none => rw [e] at hx; cases hx
              | some d => rw [e] at hx; exact ⟨d, rfl, (Option.some.inj hx).symm⟩
            have hcn : c < n := by have := (List.getElem?_eq_some_iff.mp hd).1; omega
            obtain ⟨dk, hdk, hval⟩ := c3 c d hd
            have hds : ¬ S1 pf d := fun z => by rw [show d = pf from z, e23] at hdk; cases hdk
            refine ⟨_, rfl, .inl ⟨rfl, _, SqL.of e4⟩, _, rfl, _, rfl, by omega, by omega, fun l hl => lc_range (lo := 0) (n := n + n) (fun j H' => Fr S0 H4 H' ∧ H' l = some (.lst (ivs ((longRow R (n + n) n c).take j)))) ?_ ?_ ?_⟩
            · exact ⟨(Fr.refl _ _).new hl, upd_same⟩
            · rintro j H' hj ⟨f5, e5⟩
              have ee : ((0 : Int) + (j : Int)) = (j : Int) := by omega
              rw [ee]
              have ld : (longRow R (n + n) n c)[j]? = some ((longRow R (n + n) n c).getD j 0) := by
                unfold longRow
                rw [List.getD_eq_getElem?_getD, List.getElem?_map, List.getElem?_range hj]; rfl
              have dg := DGet.k (k := Sum.inl (j : Int)) (f5.keep _ _ (f34.keep _ _ hdk hds) (fun z => z))
              rw [hval, bk.long_get hj hcn] at dg
              refine ⟨rfl, ?_⟩
              dsimp only [tYes]
              refine iteT ?_
              refine ⟨_, rfl, _, rfl, d, _, rfl, dg, _, e5, by rw [ivs_len, List.length_take]; exact sz (by omega), f5.mut hl, ?_⟩
              rw [upd_same, List.take_succ, ld, ivs_app]; rfl
            · rintro H5 ⟨f5, e5⟩
              have ll : (longRow R (n + n) n c).length = n + n := by unfold longRow; rw [List.length_map, List.length_range]
              rw [List.take_of_length_le (by rw [ll]; exact Nat.le_refl _)] at e5
              refine ⟨l, _, rfl, .inl ⟨SqL.of e5, fun t ht => ?_⟩⟩
              have n6 := f5.new (o := .tup (ivs (longRow R (n + n) n c))) ht
              have e6 := n6.keep _ _ e4 (fun z => z)
              have ly : ys4.length ≤ 100 := by rw [t4.len, List.length_map, List.length_append, List.length_map, List.length_range, bk.len]; omega
              have g : Fr (S1 pf) (upd H5 t (.tup (ivs (longRow R (n + n) n c)))) (upd (upd H5 t (.tup (ivs (longRow R (n + n) n c)))) pf (.lst (ys4 ++ [.ref t]))) := (Fr.refl _ _).set rfl (lst_ne_tup e6)
              refine ⟨pf, _, _, rfl, rfl, e6, sz (by omega), _, _, _, ys4 ++ [.ref t], rfl, (f04.trans n6).mut hpf0, (f34.trans (n6.mono (S' := S1 pf) fun a z => z.elim)).trans g, upd_same, ?_⟩
              have e9 : R ++ (List.range (c + 1)).map (longRow R (n + n) n) = (R ++ (List.range c).map (longRow R (n + n) n)) ++ [longRow R (n + n) n c] := by
                rw [List.range_succ, List.map_append, List.append_assoc]; rfl
              rw [e9, List.map_append]
              exact ((t4.fr n6).fr g).append (.one (dt_row (g.tup _ _ upd_same)))
          · rintro σ H4 ⟨v3, v4, v8, ys4, rfl, f04, f34, e4, t4⟩
            rw [List.length_map, l3] at t4
            refine ⟨_, rfl, pf, _, rfl, .inl ⟨SqL.of e4, fun t ht => ?_⟩⟩
            have n5 : Fr S0 H4 (upd H4 t (.tup ys4)) := (Fr.refl _ _).new ht
            exact k _ _ (.tup (.of upd_same) (t4.fr n5)) (f04.trans n5)
/-! ### completed -/
def spCompleted (K : PySem.W.Frag) : Sp := fun vs H Q _ => ∃ (v : V) (B : List (List Nat)) (n : Nat), vs = [v, iv (n + n)] ∧ DT K H v (tabD B) ∧ Blk n (n + n) B ∧ 0 < n ∧ n ≤ 30 ∧ ∀ v H', DT K H' v (tabD (completedM B n)) → Fr S0 H H' → Q v H'
abbrev sCompleted : Stmt := top 18
theorem scCompleted : FnScope psCounts psCounts (defScope sCompleted) := ⟨rfl, rfl, rfl, by decide +kernel, rfl, by decide +kernel, by decide +kernel⟩
theorem ok_completed (D : Df K mg "completed" sCompleted psCounts) (T : Bi mg) (cL : Cl P w K mg base "lacking" psCounts 5 (spLacking K)) (cW : Cl P w K mg base "widened" psCounts 5 (spWidened K)) (cG : Cl P w K mg base "lengthened" psLengthened 5 (spLengthened K)) :
    Cl P w K mg base "completed" psCounts 6 (spCompleted K) := by
  refine D.ok scCompleted (fun vs H Q E h => ?_) (fun f cdv A outer s H vs Q E hr h => ?_)
  · obtain ⟨v, B, n, rfl, _⟩ := h
    rfl
  · obtain ⟨v, B, n, rfl, hB, bk, hn0, hn, k⟩ := h
    refine ⟨_, pss_one (ps_ret (pe_ifExp (pt_cmpR (op_eqD hr.units) (pe_cl cL hr (pa_cons (pv 0) (pa_cons (pv 1) pa_nil))) (pe_tup pa_nil) (nomark _)) (pe_cl cG hr (pa_cons (pe_cl cW hr (pa_cons (pv 0) (pa_cons (pv 1) pa_nil))) (pa_cons (pv 1) pa_nil))) pe_non)), ?_⟩
    refine ⟨_, rfl, _, rfl, v, B, n, rfl, hB, bk, hn0, by omega, fun p H1 hp e1 f1 => ?_⟩
    refine ⟨Nat.zero_le _, fun q hq => ?_⟩
    have n2 : Fr S0 H1 (upd H1 q (.tup [])) := (Fr.refl _ _).new hq
    have d1 : DT K (upd H1 q (.tup [])) (.ref p) (rowD []) := dt_row (ns := []) (n2.tup _ _ e1)
    have d2 : DT K (upd H1 q (.tup [])) (.ref q) (rowD []) := dt_row (ns := []) upd_same
    refine ⟨_, _, d1.dp, d2.dp, by decide, by decide, _, rfl, ?_⟩
    rw [show PyData.eqv (rowD []) (rowD []) = true from by simp [rowD, PyData.eqv, PyData.eqvAll]]
    have f2 := f1.trans n2
    refine iteT ?_
    refine ⟨_, rfl, _, rfl, v, B, n, rfl, hB.fr f2, bk, hn0, hn, fun p2 rs H3 hp2 hL f3 => ?_⟩
    refine ⟨_, rfl, p2, rs, _, n, rfl, hL, bk.rect, hn0, hn, fun v' H4 d4 f4 => ?_⟩
    exact k v' H4 d4 ((f2.trans f3).trans f4)
end
end K12
set_option linter.all false
set_option maxRecDepth 100000
set_option maxHeartbeats 1600000
/-! K12w37: block_of. -/
namespace K12
open PySem PySem.Spec PyProof.Rows L2
theorem LL.fr0 {H H' : Hp} {p : Addr} {rs : List Addr} {R : List (List Nat)} (h : LL H p rs R) (f : Fr S0 H H') : LL H' p rs R :=
  ⟨f.keep _ _ h.at_ (fun z => z), h.len, h.nd, fun i q e => f.keep _ _ (h.row i q e) (fun z => z)⟩
theorem LL.apart {H : Hp} {p : Addr} {rs : List Addr} {B : List (List Nat)} (h : LL H p rs B) {q : Addr} (hq : q ∈ rs) : p ≠ q := by
  intro c
  obtain ⟨i, hi⟩ := List.getElem?_of_mem hq
  have h1 := h.at_
  have h2 := h.row i q hi
  rw [c, h2] at h1
  injection h1 with h1
  injection h1 with h1
  have hh : V.ref q ∈ rs.map V.ref := List.mem_map.mpr ⟨q, hq, rfl⟩
  rw [← h1] at hh
  unfold ivs at hh
  obtain ⟨_, _, z⟩ := List.mem_map.mp hh
  cases z
theorem LL.snoc {H : Hp} {p : Addr} {rs : List Addr} {R : List (List Nat)} (h : LL H p rs R) {d : Addr} {row : List Nat} (hd : H d = some (.lst (ivs row))) (hn : d ∉ rs) (hp : d ≠ p) : LL (upd H p (.lst (rs.map V.ref ++ [.ref d]))) p (rs ++ [d]) (R ++ [row]) := by
  refine ⟨by rw [upd_same]; simp, by simp [h.len], ?_, fun k r e => ?_⟩
  · rw [List.nodup_append]
    refine ⟨h.nd, by simp, fun a ha b hb e => ?_⟩
    simp at hb
    rw [e, hb] at ha; exact hn ha
  · by_cases hk : k < rs.length
    · rw [List.getElem?_append_left hk] at e
      rw [upd_ne (h.apart (List.mem_of_getElem? e)).symm, h.row k r e]
      congr 3
      rw [List.getD_eq_getElem?_getD, List.getD_eq_getElem?_getD, List.getElem?_append_left (by rw [← h.len]; exact hk)]
    · rw [List.getElem?_append_right (by omega)] at e
      have ej : k = rs.length := by have := (List.getElem?_eq_some_iff.mp e).1; simp at this; omega
      subst ej
      simp at e; subst e
      rw [upd_ne hp, hd]
      congr 3
      rw [List.getD_eq_getElem?_getD, List.getElem?_append_right (by rw [h.len]; exact Nat.le_refl _), h.len]; simp
/-- one cell is set -/
theorem LL.set {H : Hp} {p : Addr} {rs : List Addr} {B : List (List Nat)} (h : LL H p rs B) {i j v : Nat} {q : Addr} (hq : rs[i]? = some q) : LL (upd H q (.lst (ivs ((B.getD i []).set j v)))) p rs (setCell B i j v) := by
  have hi : i < B.length := by have := (List.getElem?_eq_some_iff.mp hq).1; have := h.len; omega
  refine ⟨?_, by unfold setCell; rw [List.length_set]; exact h.len, h.nd, fun k r e => ?_⟩
  · by_cases c : p = q
    · exfalso
      have h1 := h.at_
      have h2 := h.row i q hq
      rw [c, h2] at h1
      injection h1 with h1
      injection h1 with h1
      have hh : V.ref q ∈ rs.map V.ref := List.mem_map.mpr ⟨q, List.mem_of_getElem? hq, rfl⟩
      rw [← h1] at hh
      unfold ivs at hh
      obtain ⟨_, _, z⟩ := List.mem_map.mp hh
      cases z
    · rw [upd_ne c]; exact h.at_
  · rw [setCell_row hi]
    by_cases c : k = i
    · subst c
      rw [hq] at e; cases Option.some.inj e
      rw [upd_same, if_pos rfl]
    · rw [if_neg c]
      have nrq : r ≠ q := fun z => by
        subst z
        obtain ⟨l1, e1⟩ := List.getElem?_eq_some_iff.mp e
        obtain ⟨l2, e2⟩ := List.getElem?_eq_some_iff.mp hq
        exact c ((List.getElem_inj h.nd (h₀ := l1) (h₁ := l2)).mp (by rw [e1, e2]))
      rw [upd_ne nrq]; exact h.row k r e
/-- the places' dict -/
structure PD (nums : List Nat) (dk : List (L2.Key × V)) : Prop where
  le : dk.length ≤ nums.length
  val : ∀ (j x : Nat), nums[j]? = some x → valV dk (.inl (x : Int)) = some (iv j)
theorem PD.snoc {nums : List Nat} {dk : List (L2.Key × V)} (h : PD nums dk) {x : Nat} (nx : x ∉ nums) : PD (nums ++ [x]) (putK dk (.inl (x : Int)) (iv nums.length)) := by
  refine ⟨by rw [List.length_append]; have := length_putK dk (.inl (x : Int) : L2.Key) (iv nums.length); have := h.le; simp; omega, fun j y e => ?_⟩
  rw [valV_put]
  by_cases hj : j < nums.length
  · rw [List.getElem?_append_left hj] at e
    have hy : y ≠ x := fun z => nx (by rw [← z]; exact List.mem_of_getElem? e)
    rw [if_neg (fun z => hy (by have := Sum.inl.inj z; omega))]
    exact h.val j y e
  · rw [List.getElem?_append_right (by omega)] at e
    have ej : j = nums.length := by have := (List.getElem?_eq_some_iff.mp e).1; simp at this; omega
    subst ej
    simp at e; subst e
    rw [if_pos rfl]
section
variable {P : Program} {w : World} {K : PySem.W.Frag} {mg : Str → Option Value} {base : Heap}
def spBlock (K : PySem.W.Frag) (C : Addr) : Sp := fun vs H Q _ => ∃ (c e r : Addr) (el : List Nat) (rows : List T3), vs = [.ref c, iv (numbered el).length] ∧ CS K C H c e r el rows ∧ Good el rows ∧ el.length ≤ 100 ∧ 0 < (numbered el).length ∧
  ∀ v H', DT K H' v (tabD (blockM el rows)) → Fr S0 H H' → Q v H'
abbrev sBlock : Stmt := top 37
abbrev psBlock : List Str := ["closing", "many"]
abbrev nBlock : List Str := ["closing", "many", "places", "found", "number", "thing", "one", "other", "out", "row"]
theorem scBlock : FnScope nBlock psBlock (defScope sBlock) := ⟨rfl, rfl, rfl, by decide +kernel, rfl, by decide +kernel, by decide +kernel⟩
theorem ok_block {C : Addr} (D : Df K mg "block_of" sBlock psBlock) (T : Bi mg) (L : Clg K C) (mN : Mt P w K mg base C "numbered" ["self"] 1 (spNumbered K C)) : Cl P w K mg base "block_of" psBlock 2 (spBlock K C) := by
  refine D.ok scBlock (fun vs H Q E h => ?_) (fun f cdv A outer s H vs Q E hr h => ?_)
  · obtain ⟨c, e, r, el, rows, rfl, _⟩ := h
    rfl
  · obtain ⟨c, e, r, el, rows, rfl, hc, G, hel, hn0, k⟩ := h
    have hu := hu_of hr
    refine ⟨_, pss_cons (ps_par (by rfl) scBlock.nd (i := 2) (j := 3) rfl rfl (by decide) rfl rfl (pa_cons pe_dnewK (pa_cons (pe_lst pa_nil) pa_nil)) (by rfl)) (pss_cons (ps_for PassesOwn.never rfl (pi_enum (by rfl) T.enumerate (pa_cons (pe_mt0 mN L.cl hr (pv 0)) pa_nil)) (pg_tup (by rfl) (pgs_cons (pg_name (i := 4) scBlock.nd rfl (Or.inl rfl)) (pgs_cons (pg_name (i := 5) scBlock.nd rfl (Or.inl rfl)) pgs_nil))) (pss_one (ps_dput hu (pv 2) (pv 5) (pv 4) rfl))) (pss_cons (ps_for PassesOwn.never rfl (pi_range1 rfl T.range (pa_cons (pv 1) pa_nil)) (pg_name (i := 6) scBlock.nd rfl (Or.inr rfl)) (pss_one (ps_expr (pe_bm PySem.F.plainAttrs_list PySem.F.slot_list_append PySem.F.type_list_append mt_append (pv 3) (pa_cons (pe_lc (own := [("other", 7)]) (g := gName 7) (tt := tYes) rfl scBlock.nd (pi_range1 rfl T.range (pa_cons (pv 1) pa_nil)) (blkOk_by (N := nBlock) (sc := defScope sBlock) (by decide +kernel)) (fun _ _ _ _ _ => pg_name (i := 7) scBlock.nd rfl (Or.inl rfl)) (fun _ _ _ _ _ => pts_nil) (fun _ _ _ _ _ => pe_op op_add (pv 1) (pe_op op_mod (pe_op op_add (pv 6) (pv 7)) (pv 1)))) pa_nil))))) (pss_cons (ps_for PassesOwn.never rfl (pi_list (pe_fld (pv 0) rfl)) (pg_tup (by rfl) (pgs_cons (pg_name (i := 6) scBlock.nd rfl (Or.inr rfl)) (pgs_cons (pg_name (i := 7) scBlock.nd rfl (Or.inl rfl)) (pgs_cons (pg_name (i := 8) scBlock.nd rfl (Or.inl rfl)) pgs_nil)))) (pss_one (ps_asg (pe_dget hu (pv 2) (pv 8) (fun _ _ => rfl)) (pg_sub (pe_ix ix_list (pv 3) (pe_dget hu (pv 2) (pv 6) (fun _ _ => rfl)) (fun _ _ => rfl)) (pe_dget hu (pv 2) (pv 7) (fun _ _ => rfl)) set_list)))) (pss_one (ps_ret (pe_callTy call_tuple_of (by rfl) T.tuple PyProof.Rows.boot_tuple (pa_cons (pe_lc (own := [("row", 9)]) (g := gName 9) (tt := tYes) rfl scBlock.nd (pi_list (pv 3)) (blkOk_by (N := nBlock) (sc := defScope sBlock) (by decide +kernel)) (fun _ _ _ _ _ => pg_name (i := 9) scBlock.nd rfl (Or.inl rfl)) (fun _ _ _ _ _ => pts_nil) (fun _ _ _ _ _ => pe_callTy (call_tuple_ofk K) (by rfl) T.tuple PyProof.Rows.boot_tuple (pa_cons (pv 9) pa_nil))) pa_nil))))))), ?_⟩
    obtain ⟨⟨dx, h1⟩, h2, ⟨xs, h3, h4⟩, hne⟩ := id hc
    generalize hnn : numbered el = nums at hn0
    have nnd : nums.Nodup := by rw [← hnn]; exact numbered_nodup el
    have nle : nums.length ≤ 100 := by rw [← hnn]; exact Nat.le_trans (numbered_le el) hel
    have inN : ∀ {x : Nat}, x ∈ nums → nums[ix el x]? = some x := fun h => by rw [← hnn] at h ⊢; exact ix_get h
    have ixl : ∀ {x : Nat}, x ∈ nums → ix el x < nums.length := fun h => by rw [← hnn] at h ⊢; exact ix_lt h
    have rowN : ∀ {rr : T3}, rr ∈ rows → rr.1 ∈ nums ∧ rr.2.1 ∈ nums ∧ rr.2.2 ∈ nums := fun h => by rw [← hnn]; exact G.inN h
    intro pd hpd
    refine ⟨Nat.zero_le _, fun pf hpf => ⟨_, _, rfl, ?_⟩⟩
    have n1 : Fr S0 H (upd H pd (.dK [])) := (Fr.refl _ _).new hpd
    have n2 := n1.new (o := .lst []) hpf
    have epd : upd (upd H pd (.dK [])) pf (.lst []) pd = some (.dK []) := by rw [upd_ne (ne_of_none (show upd H pd (.dK []) pd = _ from upd_same) hpf)]; exact upd_same
    have epf : upd (upd H pd (.dK [])) pf (.lst []) pf = some (.lst []) := upd_same
    have hpf0 := n1.free hpf
    generalize upd (upd H pd (.dK [])) pf (.lst []) = H1 at n2 epd epf
    have non : (flds e r).lookup ("numbered" : Str) = none := flds_no _ _ (by decide +kernel) (by decide +kernel)
    refine ⟨_, rfl, c, dx, _, rfl, n2.keep _ _ h1 (fun z => z), non, c, e, r, el, rows, rfl, hc.fr0 n2, by omega, fun p H2 hp e2 f2 => ?_⟩
    rw [hnn] at e2
    have f02 := n2.trans f2
    have lnv : (ivs nums).length = nums.length := ivs_len nums
    refine ⟨p, _, rfl, SqL.of e2, for_it (walk_enum (K := K) (a := p) (xs := ivs nums)) (fun i σ H' => ∃ (v4 v5 : Option V) (dk : List (L2.Key × V)), σ = [some (.ref c), some (iv nums.length), some (.ref pd), some (.ref pf), v4, v5, none, none, none, none] ∧ Fr S0 H H' ∧ H' p = some (.lst (ivs nums)) ∧ H' pf = some (.lst []) ∧ H' pd = some (.dK dk) ∧ PD (nums.take i) dk) ?_ ?_ ?_ ?_⟩
    · exact ⟨none, none, [], rfl, f02, e2, f2.keep _ _ epf (fun z => z), f2.keep _ _ epd (fun z => z), Nat.zero_le _, fun j x h => by simp at h⟩
    · rintro i σ H' _ ⟨_, _, _, _, _, h, _⟩
      exact SqL.of h
    · rintro i x σ H3 H4 hi ⟨v4, v5, dk, rfl, f3, e3, g3, d3, pd3⟩ ⟨tup, y1, y2, rfl, ht1, rfl, hy1, hy2⟩
      cases Option.some.inj hy1
      obtain ⟨y, ey, rfl⟩ := iv_at (show (ivs nums)[i]? = some y2 from hy2)
      have hin : i < nums.length := by omega
      have n4 : Fr S0 H3 (upd H3 tup (.tup [.int (i : Nat), iv y])) := (Fr.refl _ _).new ht1
      refine ⟨tup, _, rfl, SqT.of upd_same, rfl, _, _, rfl, _, _, rfl, rfl, ?_⟩
      have d4 := n4.keep _ _ d3 (fun z => z)
      have g4 := n4.keep _ _ g3 (fun z => z)
      have e4 := n4.keep _ _ e3 (fun z => z)
      have dl := pd3.le
      rw [List.length_take] at dl
      refine ⟨_, rfl, _, rfl, _, rfl, pd, _, rfl, DPut.k (k := Sum.inl (y : Int)) d4 (sz (by omega)), ?_⟩
      have npp : p ≠ pd := fun z => by rw [z, d3] at e3; cases e3
      have nfp : pf ≠ pd := fun z => by rw [z, d3] at g3; cases g3
      refine ⟨_, _, _, rfl, (f3.trans n4).mut hpd, by rw [upd_ne npp]; exact e4, by rw [upd_ne nfp]; exact g4, upd_same, ?_⟩
      have lt : (nums.take i).length = i := by rw [List.length_take]; omega
      have nx : y ∉ nums.take i := fun h => by
        obtain ⟨j, hj⟩ := List.getElem?_of_mem h
        have hji : j < i := by have := (List.getElem?_eq_some_iff.mp hj).1; omega
        rw [List.getElem?_take_of_lt hji] at hj
        obtain ⟨l1, e1⟩ := List.getElem?_eq_some_iff.mp hj
        obtain ⟨l2, e2⟩ := List.getElem?_eq_some_iff.mp ey
        have := (List.getElem_inj nnd (h₀ := l1) (h₁ := l2)).mp (by rw [e1, e2])
        omega
      have sn := pd3.snoc nx
      rw [lt] at sn
      rw [List.take_succ, ey]; exact sn
    · rintro σ H3 ⟨v4, v5, dk, rfl, f3, _, g3, d3, pd3⟩
      rw [lnv, List.take_length] at pd3
      have dgv : ∀ {x : Nat}, x ∈ nums → valV dk (.inl (x : Int)) = some (iv (ix el x)) := fun h => pd3.val _ _ (inN h)
      let Bi : Nat → List (List Nat) := fun i => (List.range i).map fun a => (List.range nums.length).map fun b => nums.length + (a + b) % nums.length
      refine ⟨_, rfl, _, rfl, by omega, by omega, for_range (lo := 0) (n := nums.length) (fun i σ H' => ∃ (v6 : Option V) (rs : List Addr), σ = [some (.ref c), some (iv nums.length), some (.ref pd), some (.ref pf), v4, v5, v6, none, none, none] ∧ Fr S0 H H' ∧ H' pd = some (.dK dk) ∧ LL H' pf rs (Bi i) ∧ ∀ q ∈ rs, H q = none) ?_ ?_ ?_⟩
      · exact ⟨none, [], rfl, f3, d3, ⟨g3, rfl, List.nodup_nil, fun i q h => by simp at h⟩, by simp⟩
      · rintro i σ H4 hi ⟨v6, rs, rfl, f4, d4, LLi, fr4⟩
        have ee : ((0 : Int) + (i : Int)) = (i : Int) := by omega
        rw [ee]
        refine ⟨_, rfl, .inl ⟨rfl, _, SqL.of LLi.at_⟩, _, rfl, _, rfl, by omega, by omega, fun d hd => lc_range (lo := 0) (n := nums.length) (fun j H' => Fr S0 H4 H' ∧ H' d = some (.lst (ivs ((List.range j).map fun b => nums.length + (i + b) % nums.length)))) ?_ ?_ ?_⟩
        · exact ⟨(Fr.refl _ _).new hd, upd_same⟩
        · rintro j H' hj ⟨f5, e5⟩
          have ee : ((0 : Int) + (j : Int)) = (j : Int) := by omega
          rw [ee]
          refine ⟨rfl, ?_⟩
          dsimp only [tYes]
          refine iteT ?_
          refine ⟨_, rfl, _, rfl, _, rfl, _, _, rfl, rfl, _, rfl, _, _, rfl, rfl, (by omega : (0 : Int) < (nums.length : Int)), _, _, rfl, rfl, ?_⟩
          refine ⟨_, e5, by rw [ivs_len, List.length_map, List.length_range]; exact sz (by omega), f5.mut hd, ?_⟩
          rw [upd_same, List.range_succ, List.map_append, ivs_app]
          have ev : ((nums.length : Int) + ((i : Int) + (j : Int)) % (nums.length : Int)) = ((nums.length + (i + j) % nums.length : Nat) : Int) := by simp
          show some (HO.lst (_ ++ [V.int ((nums.length : Int) + ((i : Int) + (j : Int)) % (nums.length : Int))])) = _
          rw [ev]; rfl
        · rintro H5 ⟨f5, e5⟩
          have L5 := LLi.fr0 f5
          have hdr : d ∉ rs := fun z => by
            obtain ⟨jj, hjj⟩ := List.getElem?_of_mem z
            rw [LLi.row jj d hjj] at hd; cases hd
          have hdp : d ≠ pf := fun z => by rw [z, LLi.at_] at hd; cases hd
          have lrs : rs.length = i := by rw [LLi.len]; show ((List.range i).map _).length = i; rw [List.length_map, List.length_range]
          refine ⟨pf, _, _, rfl, rfl, L5.at_, by rw [List.length_map, lrs]; exact sz (by omega), ?_⟩
          have sn := L5.snoc e5 hdr hdp
          have npd : pd ≠ pf := fun z => by rw [z, LLi.at_] at d4; cases d4
          have eB : Bi (i + 1) = Bi i ++ [(List.range nums.length).map fun b => nums.length + (i + b) % nums.length] := by
            show (List.range (i + 1)).map _ = _
            rw [List.range_succ, List.map_append]; rfl
          refine ⟨_, rs ++ [d], rfl, (f4.trans f5).mut hpf0, by rw [upd_ne npd]; exact f5.keep _ _ d4 (fun z => z), by rw [eB]; exact sn, fun q hq => ?_⟩
          rcases List.mem_append.mp hq with h | h
          · exact fr4 q h
          · simp at h; subst h; exact f4.free hd
      · rintro σ H4 ⟨v6, rs, rfl, f4, d4, LLn, fr4⟩
        have eB : Bi nums.length = baseB nums.length := rfl
        rw [eB] at LLn
        have lrs : rs.length = nums.length := by rw [LLn.len, (baseB_shape nums.length).len]
        let st : List (List Nat) → T3 → List (List Nat) := fun B rr => setCell B (ix el rr.1) (ix el rr.2.1) (ix el rr.2.2)
        have shp : ∀ (l : List T3), (∀ rr ∈ l, rr ∈ rows) → Shape nums.length (l.foldl st (baseB nums.length)) := by
          intro l
          refine fun hl => foldl_inv (fun B => Shape nums.length B) st l _ (baseB_shape _) fun B hB rr hrr => ?_
          exact setCell_shape hB (ixl (rowN (hl rr hrr)).1)
        have lx : xs.length = rows.length := by rw [h4.len, List.length_map]
        refine ⟨_, rfl, c, C, dx, _, _, rfl, f4.keep _ _ h1 (fun z => z), L.cl, L.nR, flds_rows _ _, r, rfl, ⟨_, SqL.of (f4.keep _ _ h3 (fun z => z))⟩, for_list (K := K) (a := r) (xs := xs) (fun i σ H' => ∃ (v6 v7 v8 : Option V), σ = [some (.ref c), some (iv nums.length), some (.ref pd), some (.ref pf), v4, v5, v6, v7, v8, none] ∧ Fr S0 H H' ∧ H' pd = some (.dK dk) ∧ LL H' pf rs ((rows.take i).foldl st (baseB nums.length))) ?_ ?_ ?_ ?_⟩
        · exact ⟨_, none, none, rfl, f4, d4, LLn⟩
        · rintro i σ H' _ ⟨_, _, _, _, f5, _⟩
          exact SqL.of (f5.keep _ _ h3 (fun z => z))
        · rintro i x σ H5 hx ⟨v6, v7, v8, rfl, f5, d5, L5⟩
          obtain ⟨rr, q, er, rfl, tr⟩ := t3_at (h4.fr f5) hx
          have hm := List.mem_of_getElem? er
          obtain ⟨m1, m2, m3⟩ := rowN hm
          have S5 := shp (rows.take i) fun z hz => List.mem_of_mem_take hz
          have dg1 := DGet.k (k := Sum.inl (rr.1 : Int)) d5
          have dg2 := DGet.k (k := Sum.inl (rr.2.1 : Int)) d5
          have dg3 := DGet.k (k := Sum.inl (rr.2.2 : Int)) d5
          rw [dgv m1] at dg1
          rw [dgv m2] at dg2
          rw [dgv m3] at dg3
          obtain ⟨q1, hq1⟩ : ∃ q, rs[ix el rr.1]? = some q := ⟨_, List.getElem?_eq_getElem (by rw [lrs]; exact ixl m1)⟩
          have hr1 := L5.row _ _ hq1
          refine ⟨q, _, rfl, tr.sq, rfl, _, _, rfl, _, _, rfl, _, _, rfl, rfl, ?_⟩
          refine ⟨_, rfl, _, rfl, pd, _, rfl, dg3, _, rfl, _, rfl, _, rfl, pd, _, rfl, dg1, pf, _, _, _, rfl, rfl, SqL.of L5.at_, atI_nat (by rw [List.getElem?_map, hq1]; rfl), _, rfl, _, rfl, pd, _, rfl, dg2, q1, _, _, _, rfl, rfl, hr1, Evl.ixN_nat (by rw [ivs_len, S5.row _ (ixl m1)]; exact ixl m2), ?_⟩
          rw [ivs_set]
          have hq0 := fr4 q1 (List.mem_of_getElem? hq1)
          have nqd : pd ≠ q1 := fun z => by rw [z, hr1] at d5; cases d5
          refine ⟨_, _, _, rfl, f5.mut hq0, by rw [upd_ne nqd]; exact d5, ?_⟩
          rw [List.take_succ, er, List.foldl_append]
          exact L5.set hq1
        · rintro σ H5 ⟨v6, v7, v8, rfl, f5, d5, L5⟩
          rw [lx, List.take_length] at L5
          have eM : rows.foldl st (baseB nums.length) = blockM el rows := by unfold blockM; rw [hnn]
          rw [eM] at L5
          have lrs' : (rs.map V.ref).length = (blockM el rows).length := by rw [List.length_map, L5.len]
          have lbm : (blockM el rows).length ≤ 100 := by rw [← L5.len, lrs]; exact nle
          refine ⟨_, rfl, pf, rfl, ⟨_, SqL.of L5.at_⟩, fun d hd => lc_list (K := K) (a := pf) (xs := rs.map V.ref) (fun i H' => Fr S0 H5 H' ∧ ∃ ys, H' d = some (.lst ys) ∧ DTs K H' ys (((blockM el rows).take i).map rowD)) ?_ ?_ ?_ ?_⟩
          · exact ⟨(Fr.refl _ _).new hd, [], upd_same, .nil⟩
          · rintro i H' _ ⟨f6, _⟩
            exact SqL.of (f6.keep _ _ L5.at_ (fun z => z))
          · rintro i x H6 hx ⟨f6, ys, e6, t6⟩
            obtain ⟨q, hq, rfl⟩ : ∃ q, rs[i]? = some q ∧ x = .ref q := by
              rw [List.getElem?_map] at hx
              cases e : rs[i]? with
              | none => rw [e] at hx; cases hx
              | some q => rw [e] at hx; exact ⟨q, rfl, (Option.some.inj hx).symm⟩
            have hi : i < (blockM el rows).length := by have := (List.getElem?_eq_some_iff.mp hq).1; rw [← L5.len]; exact this
            refine ⟨rfl, ?_⟩
            dsimp only [tYes]
            refine iteT ?_
            refine ⟨_, rfl, q, _, rfl, .inl ⟨SqL.of (f6.keep _ _ (L5.row i q hq) (fun z => z)), fun l hl => ?_⟩⟩
            have n7 : Fr S0 H6 (upd H6 l (.tup (ivs ((blockM el rows).getD i [])))) := (Fr.refl _ _).new hl
            have e7 := n7.keep _ _ e6 (fun z => z)
            have g : Fr (S1 d) (upd H6 l (.tup (ivs ((blockM el rows).getD i [])))) (upd (upd H6 l (.tup (ivs ((blockM el rows).getD i [])))) d (.lst (ys ++ [.ref l]))) := (Fr.refl _ _).set rfl (lst_ne_tup e7)
            refine ⟨_, e7, by rw [t6.len, List.length_map, List.length_take]; exact sz (by omega), (f6.trans n7).mut hd, ys ++ [.ref l], upd_same, ?_⟩
            have er : (blockM el rows)[i]? = some ((blockM el rows).getD i []) := by rw [getD_lt hi]; exact List.getElem?_eq_getElem _
            rw [List.take_succ, er, List.map_append]
            exact ((t6.fr n7).fr g).append (.one (dt_row (g.tup _ _ upd_same)))
          · rintro H6 ⟨f6, ys, e6, t6⟩
            rw [lrs', List.take_length] at t6
            refine ⟨d, _, rfl, .inl ⟨SqL.of e6, fun t ht => ?_⟩⟩
            have n7 : Fr S0 H6 (upd H6 t (.tup ys)) := (Fr.refl _ _).new ht
            exact k _ _ (.tup (.of upd_same) (t6.fr n7)) ((f5.trans f6).trans n7)
end
end K12
set_option linter.all false
set_option maxRecDepth 100000
set_option maxHeartbeats 1600000
/-! K12w38: world_by, parted. -/
namespace K12
open PySem PySem.Spec PyProof.Rows L2
section
variable {X : Cx} (K : PySem.W.Frag)
theorem mt_indexk (h : X.K = K := by rfl) : MtR X "list.index" (rIndex K) := h ▸ mt_index
end
theorem pe_bmk {X : Cx} (K : PySem.W.Frag) {T : String} {name : Str} {id : String} {r : V → List V → Hp → VK → Prop} {o e : Expr} {es : List Expr} {apos cpos : Pos} {to : TE} {t : TA} (pa : PlainAttrs T) (slot : Slot T name id) (hty : typeOf (.builtin id) = pure (.type "method_descriptor")) (hm : MtR X id r) (ho : PE X o to) (ha : PA X (e :: es) t)
    (hbase : attributeBase o name X.env (eval o X.env) = eval o X.env := by rfl)
    (hfew : ((backTo cpos (starEach (e :: es) X.env)).all (fun x => !x.1) && (backToKw cpos (keywordEach [] X.env)).all (fun x => x.1.isSome)
      && decide ((e :: es).length + ([] : List Keyword).length + (if ([] : List Keyword).isEmpty then 0 else 1) < 30)) = true := by rfl)
    (hline : (apos.endLine == cpos.line) = true := by rfl) (hs : starEach (e :: es) X.env = (false, eval e X.env) :: starEach es X.env := by rfl) (hplain : (backTo cpos (starEach es X.env)).any (·.1) = false := by rfl) (hK : X.K = K := by rfl) :
    PE X (.Call (.Attribute o name apos) (e :: es) [] cpos) (tBM K T r to t) := hK ▸ pe_bm pa slot hty hm ho ha hbase hfew hline hs hplain
theorem eqV_iv (a b : Nat) : eqV (iv a) (iv b) = decide (a = b) := by
  show ((a : Int) == (b : Int)) = decide (a = b)
  by_cases h : a = b
  · subst h; simp
  · rw [decide_eq_false h, beq_eq_false_iff_ne.mpr (by omega)]
section
variable {P : Program} {w : World} {K : PySem.W.Frag} {mg : Str → Option Value} {base : Heap}
noncomputable def worldD (el : List Nat) (rows : List T3) (m : Nat) : PyData := .tuple [tabD (worldT el rows), rowD (worldP el m)]
def spWorld (K : PySem.W.Frag) (C : Addr) : Sp := fun vs H Q _ => ∃ (c e r : Addr) (el : List Nat) (rows : List T3) (m : Nat), vs = [.ref c, iv m, iv ((numbered el).length + (numbered el).length)] ∧ CS K C H c e r el rows ∧ Good el rows ∧ el.length ≤ 30 ∧ 0 < m ∧ m ≤ el.length ∧
  ∀ v H', DT K H' v (worldD el rows m) → Fr S0 H H' → Q v H'
abbrev sWorld : Stmt := top 38
abbrev psWorld : List Str := ["closing", "names", "size"]
abbrev nWorld : List Str := ["closing", "names", "size", "things", "block", "places", "name"]
theorem scWorld : FnScope nWorld psWorld (defScope sWorld) := ⟨rfl, rfl, rfl, by decide +kernel, rfl, by decide +kernel, by decide +kernel⟩
theorem ok_world {C : Addr} (D : Df K mg "world_by" sWorld psWorld) (T : Bi mg) (L : Clg K C) (mN : Mt P w K mg base C "numbered" ["self"] 6 (spNumbered K C)) (mR : Mt P w K mg base C "root" ["self", "thing"] 6 (spRoot K C)) (cB : Cl P w K mg base "block_of" psBlock 6 (spBlock K C)) (cC : Cl P w K mg base "completed" psCounts 6 (spCompleted K)) :
    Cl P w K mg base "world_by" psWorld 7 (spWorld K C) := by
  refine D.ok scWorld (fun vs H Q E h => ?_) (fun f cdv A outer s H vs Q E hr h => ?_)
  · obtain ⟨c, e, r, el, rows, m, rfl, _⟩ := h
    rfl
  · obtain ⟨c, e, r, el, rows, m, rfl, hc, G, hel, hm, hmel, k⟩ := h
    refine ⟨_, pss_cons (ps_set (i := 3) scWorld.nd rfl (Or.inr rfl) (pe_mt0 mN L.cl hr (pv 0))) (pss_cons (ps_set (i := 4) scWorld.nd rfl (Or.inl rfl) (pe_cl cB hr (pa_cons (pv 0) (pa_cons (pe_callB call_len_seq (by rfl) T.len PySem.boot_len (pa_cons (pv 3) pa_nil)) pa_nil)))) (pss_cons (ps_setLc (i := 5) (own := [("name", 6)]) (g := gName 6) (tt := tYes) rfl scWorld.nd rfl rfl (sw_true rfl rfl rfl (by decide +kernel)) (pi_range1 rfl T.range (pa_cons (pv 1) pa_nil)) (blkOk_by (N := nWorld) (sc := defScope sWorld) (by decide +kernel)) (fun _ _ _ _ _ => pg_name (i := 6) scWorld.nd rfl (Or.inl rfl)) (fun _ _ _ _ _ => pts_nil) (fun _ _ _ _ _ => (pe_bmk K PySem.F.plainAttrs_list PySem.F.slot_list_index PySem.F.type_list_index (mt_indexk K) (pv 3) (pa_cons (pe_mt mR L.cl hr (pv 0) (pa_cons (pv 6) pa_nil)) pa_nil)))) (pss_one (ps_ret (pe_tup (pa_cons (pe_cl cC hr (pa_cons (pv 4) (pa_cons (pv 2) pa_nil))) (pa_cons (pe_callTy call_tuple_of (by rfl) T.tuple PyProof.Rows.boot_tuple (pa_cons (pv 5) pa_nil)) pa_nil))))))), ?_⟩
    obtain ⟨⟨dx, h1⟩, _⟩ := id hc
    have non : ∀ {x : Str}, ¬ x = "rows" → ¬ x = "elder" → (flds e r).lookup x = none := fun a b => flds_no _ _ a b
    have hn0 : 0 < (numbered el).length := List.length_pos_of_mem (root_in G (k := 0) (by omega))
    have hnl := numbered_le el
    have lnv : (ivs (numbered el)).length = (numbered el).length := ivs_len _
    refine ⟨_, rfl, c, dx, _, rfl, h1, non (by decide +kernel) (by decide +kernel), c, e, r, el, rows, rfl, hc, by omega, fun p H1 hp e1 f1 => ?_⟩
    refine ⟨_, rfl, _, rfl, p, _, rfl, .inl (SqL.of e1), ?_⟩
    refine ⟨c, e, r, el, rows, by rw [lnv]; rfl, hc.fr0 f1, G, by omega, hn0, fun vb H2 db f2 => ?_⟩
    have f02 := f1.trans f2
    have hc2 := hc.fr0 f02
    have e2 := f2.keep _ _ e1 (fun z => z)
    refine ⟨_, rfl, _, rfl, by omega, by omega, fun d hd => lc_range (lo := 0) (n := m) (fun i H' => Fr S0 H2 H' ∧ H' d = some (.lst (ivs ((worldP el m).take i)))) ?_ ?_ ?_⟩
    · exact ⟨(Fr.refl _ _).new hd, upd_same⟩
    · rintro i H' hi ⟨f3, e3⟩
      have ee : ((0 : Int) + (i : Int)) = (i : Int) := by omega
      rw [ee]
      have hc3 := hc2.fr0 f3
      obtain ⟨⟨dx3, g3⟩, _⟩ := id hc3
      have hin := root_in G (k := i) (by omega)
      have hix := ix_get hin
      refine ⟨rfl, ?_⟩
      dsimp only [tYes]
      refine iteT ?_
      refine ⟨_, rfl, .inl ⟨rfl, _, SqL.of (f3.keep _ _ e2 (fun z => z))⟩, _, rfl, c, dx3, _, rfl, g3, non (by decide +kernel) (by decide +kernel), _, rfl, c, e, r, el, rows, i, rfl, hc3, G.F, by omega, ?_⟩
      refine ⟨p, ivs (numbered el), iv (root el i), ix el (root el i), iv (root el i), rfl, rfl, SqL.of (f3.keep _ _ e2 (fun z => z)), rfl, flat_ivs _, by unfold ivs; rw [List.getElem?_map, hix]; rfl, by rw [eqV_iv]; exact decide_eq_true rfl, fun j z hj hz => ?_, ?_⟩
      · obtain ⟨y, ey, rfl⟩ := iv_at hz
        rw [eqV_iv]
        refine decide_eq_false fun q => ?_
        subst q
        obtain ⟨l1, e1'⟩ := List.getElem?_eq_some_iff.mp ey
        obtain ⟨l2, e2'⟩ := List.getElem?_eq_some_iff.mp hix
        have := (List.getElem_inj (numbered_nodup el) (h₀ := l1) (h₁ := l2)).mp (by rw [e1', e2'])
        omega
      · refine ⟨_, e3, by rw [ivs_len, List.length_take]; exact sz (by omega), f3.mut hd, ?_⟩
        have ew : (worldP el m)[i]? = some (ix el (root el i)) := by unfold worldP; rw [List.getElem?_map, List.getElem?_range hi]; rfl
        rw [upd_same, List.take_succ, ew, ivs_app]; rfl
    · rintro H3 ⟨f3, e3⟩
      have lw : (worldP el m).length = m := by unfold worldP; rw [List.length_map, List.length_range]
      rw [List.take_of_length_le (by rw [lw]; exact Nat.le_refl _)] at e3
      refine ⟨_, rfl, _, rfl, vb, blockM el rows, (numbered el).length, rfl, db.fr f3, block_blk G, hn0, by omega, fun vc H4 dc f4 => ?_⟩
      have e4 := f4.keep _ _ e3 (fun z => z)
      refine ⟨_, rfl, d, _, rfl, .inl ⟨SqL.of e4, fun l hl => ?_⟩⟩
      have n5 : Fr S0 H4 (upd H4 l (.tup (ivs (worldP el m)))) := (Fr.refl _ _).new hl
      refine ⟨by show 2 ≤ sizeLine; decide, fun t ht => ?_⟩
      have n6 := n5.new (o := .tup [vc, .ref l]) ht
      have el_ : upd (upd H4 l (.tup (ivs (worldP el m)))) t (.tup [vc, .ref l]) l = some (.tup (ivs (worldP el m))) := by
        rw [upd_ne (ne_of_none (show upd H4 l (.tup (ivs (worldP el m))) l = _ from upd_same) ht)]; exact upd_same
      exact k _ _ (.tup (.of upd_same) (.cons (dc.fr n6) (.one (dt_row el_)))) (((f02.trans f3).trans f4).trans n6)
/-! ### parted -/
theorem settle_rlen : ∀ (k : Nat) (e : List Nat) (rows : List T3), (settle k e rows).2.length ≤ rows.length
  | 0, e, rows => rooted_len e rows
  | k + 1, e, rows => by
    rw [settle]
    split
    · exact Nat.le_trans (settle_rlen k _ _) (rooted_len _ _)
    · exact rooted_len _ _
noncomputable def finE (n : Nat) (es : List T3) (f g : Fm) : List Nat × List T3 := (thing g (thing f (closeOf n es).1 (closeOf n es).2).1.1 (thing f (closeOf n es).1 (closeOf n es).2).1.2).1
def spParted (K : PySem.W.Frag) : Sp := fun vs H Q _ => ∃ (vf va vb : V) (n : Nat) (es : List T3) (us : List (Nat × Nat)) (f g : Fm), vs = [vf, va, vb] ∧ DT K H vf (factsD n es us) ∧ FactsOk n es us ∧ NoClash n es us ∧ DT K H va (fmD f) ∧ DT K H vb (fmD g) ∧ f.bel n ∧ g.bel n ∧ f.depth < 5 ∧ g.depth < 5 ∧ f.size + g.size ≤ 22 ∧
  (plainF (closeOf n es).1 (closeOf n es).2 f = plainF (closeOf n es).1 (closeOf n es).2 g → ∀ H', Fr S0 H H' → Q .non H') ∧
  (plainF (closeOf n es).1 (closeOf n es).2 f ≠ plainF (closeOf n es).1 (closeOf n es).2 g → ∀ v H', DT K H' v (worldD (finE n es f g).1 (finE n es f g).2 n) → Fr S0 H H' → Q v H')
abbrev sParted : Stmt := top 39
abbrev nParted : List Str := ["facts", "one", "other", "closing", "first", "second"]
theorem scParted : FnScope nParted psSame (defScope sParted) := ⟨rfl, rfl, rfl, by decide +kernel, rfl, by decide +kernel, by decide +kernel⟩
theorem ok_parted {C : Addr} (D : Df K mg "parted" sParted psSame) (T : Bi mg) (L : Clg K C) (cC : Cl P w K mg base "closed" psF 9 (spOf K C)) (mT : Mt P w K mg base C "thing_of" psThing 8 (spThing K C 5)) (mN : Mt P w K mg base C "numbered" ["self"] 1 (spNumbered K C)) (cW : Cl P w K mg base "world_by" psWorld 7 (spWorld K C)) :
    Cl P w K mg base "parted" psSame 10 (spParted K) := by
  refine D.ok scParted (fun vs H Q E h => ?_) (fun f cdv A outer s H vs Q E hr h => ?_)
  · obtain ⟨vf, va, vb, n, es, us, f, g, rfl, _⟩ := h
    rfl
  · obtain ⟨vf, va, vb, n, es, us, f, g, rfl, hf, FO, NC, ha, hb, bf, bg, df, dg, zfg, k1, k2⟩ := h
    have hr8 : Room 8 _ := hr.mono (by decide)
    have hr7 : Room 7 _ := hr.mono (by decide)
    have hr1 : Room 1 _ := hr.mono (by decide)
    refine ⟨_, pss_cons (ps_set (i := 3) scParted.nd rfl (Or.inl rfl) (pe_cl cC hr (pa_cons (pv 0) pa_nil))) (pss_cons (ps_par (by rfl) scParted.nd (i := 4) (j := 5) rfl rfl (by decide) rfl rfl (pa_cons (pe_mt mT L.cl hr8 (pv 3) (pa_cons (pv 1) pa_nil)) (pa_cons (pe_mt mT L.cl hr8 (pv 3) (pa_cons (pv 2) pa_nil)) pa_nil)) (by rfl)) (pss_cons (ps_if (pt_cmpR op_eq (pv 4) (pv 5) (nomark _)) (pss_one (ps_ret pe_non)) pss_nil) (pss_one (ps_ret (pe_cl cW hr7 (pa_cons (pv 3) (pa_cons (pe_ix ix_tup (pv 0) pe_int (fun _ _ => rfl)) (pa_cons (pe_op op_mul pe_int (pe_callB call_len_seq (by rfl) T.len PySem.boot_len (pa_cons (pe_mt0 mN L.cl hr1 (pv 3)) pa_nil))) pa_nil)))))))), ?_⟩
    have G := closeOf_good FO.R
    have ln : (closeOf n es).1.length = n := closeOf_len FO.R
    have n5 := FO.le
    have hnp := FO.pos
    have PT := plain_thing G (f := f) (g := g) (by rw [ln]; exact bf) (by rw [ln]; exact bg)
    have not : ∀ (e r : Addr) {x : Str}, ¬ x = "rows" → ¬ x = "elder" → (flds e r).lookup x = none := fun e r x a b => flds_no _ _ a b
    refine ⟨_, rfl, vf, n, es, us, rfl, hf, FO, NC, fun c e r H1 hc he hr1' cs f1 => ?_⟩
    have lrows : (closeOf n es).2.length ≤ 10 := Nat.le_trans (settle_rlen _ _ _) FO.len
    obtain ⟨⟨dx1, h1⟩, _⟩ := id cs
    obtain ⟨pf, pe, pu, xs, ys, rfl, tf, te, re, tu, ru⟩ := facts_inv (hf.fr f1)
    have A1 := thing_ok f (closeOf n es).1 (closeOf n es).2 G (by rw [ln]; exact bf)
    have r1 := thing_rlen f (closeOf n es).1 (closeOf n es).2
    have bg1 : g.bel (thing f (closeOf n es).1 (closeOf n es).2).1.1.length := Fm.bel_mono A1.ext.le (by rw [ln]; exact bg)
    have A2 := thing_ok g _ _ A1.good bg1
    have z1 := A1.len
    have z2 := A2.len
    rw [ln] at z1
    refine ⟨_, rfl, c, dx1, _, rfl, h1, not e r (by decide +kernel) (by decide +kernel), _, rfl, c, e, r, _, _, va, f, rfl, df, ha.fr f1, cs, G, by rw [ln]; exact bf, by rw [ln]; omega, by omega, fun H2 c2 f2 => ?_⟩
    obtain ⟨⟨dx2, h2⟩, _⟩ := id c2
    refine ⟨_, rfl, c, dx2, _, rfl, h2, not e r (by decide +kernel) (by decide +kernel), _, rfl, c, e, r, _, _, vb, g, rfl, dg, (hb.fr f1).fr f2, c2, A1.good, bg1, by omega, by omega, fun H3 c3 f3 => ?_⟩
    have f13 : Fr S0 H H3 := by
      have := f1.trans (Fr.refl S0 _)
      refine ⟨fun a o ea _ => ?_, fun a xs ea => f3.tup _ _ (f2.tup _ _ (f1.tup _ _ ea))⟩
      have nS : ¬ SC c e r a := fun z => by
        rcases z with z | z | z
        · rw [z, hc] at ea; cases ea
        · rw [z, he] at ea; cases ea
        · rw [z, hr1'] at ea; cases ea
      exact f3.keep _ _ (f2.keep _ _ (f1.keep _ _ ea (fun z => z)) nS) nS
    obtain ⟨⟨dx3, h3⟩, _⟩ := id c3
    refine ⟨_, _, rfl, _, rfl, _, rfl, rfl, _, rfl, ?_⟩
    by_cases hq : (thing f (closeOf n es).1 (closeOf n es).2).2 = (thing g (thing f (closeOf n es).1 (closeOf n es).2).1.1 (thing f (closeOf n es).1 (closeOf n es).2).1.2).2
    · rw [ivT hq]
      exact iteT (k1 (PT.mp hq) H3 f13)
    · rw [ivF hq]
      refine iteF ?_
      have tf3 := (tf.fr f2).fr f3
      refine ⟨_, rfl, _, rfl, pf, _, 0, _, rfl, rfl, tf3.sq, rfl, _, rfl, c, dx3, _, rfl, h3, not e r (by decide +kernel) (by decide +kernel), c, e, r, _, _, rfl, c3, by omega, fun p H4 hp e4 f4 => ?_⟩
      refine ⟨p, _, rfl, .inl (SqL.of e4), _, _, rfl, rfl, .inl ⟨by decide, by decide⟩, ?_⟩
      have em : ((2 : Int) * ((ivs (numbered (finE n es f g).1)).length : Int)) = (((numbered (finE n es f g).1).length + (numbered (finE n es f g).1).length : Nat) : Int) := by rw [ivs_len]; omega
      have X1 := A1.ext.trans A2.ext
      refine ⟨c, e, r, (finE n es f g).1, (finE n es f g).2, n, (show ([V.ref c, iv n, V.int ((2 : Int) * ((ivs (numbered (finE n es f g).1)).length : Int))] : List V) = _ by rw [em]), c3.fr0 f4, A2.good, ?_, hnp, ?_, fun v H5 d5 f5 => k2 (fun h => hq (PT.mpr h)) v H5 d5 ((f13.trans f4).trans f5)⟩
      · show (thing g _ _).1.1.length ≤ 30
        omega
      · show n ≤ (thing g _ _).1.1.length
        have := X1.le
        rw [ln] at this; exact this
end
end K12
set_option linter.all false
set_option maxRecDepth 100000
set_option maxHeartbeats 1600000
/-! K12w39: repr of data, where no repr is under way. -/
namespace K12
open PySem PySem.Spec PyProof.Rows L2
/-- repr(t), t data laid in tuples -/
def rReprD (K : PySem.W.Frag) : List V → Hp → VK → Prop := fun vs H Q => ∃ (a : Addr) (d : PyData), vs = [.ref a] ∧ DT K H (.ref a) d ∧ d.showable = true ∧ d.hasDict = false ∧ d.depth ≤ 10 ∧ d.shown.length ≤ sizeLine ∧ Q (.str d.shown) H
theorem cr_reprD {X : Cx} (hg : X.A.guards = some []) (hu : X.A.units + 64 < cLine) : CallR X (.builtin "repr") (rReprD X.K) := by
  intro pins s σ H vs us Q I r h
  obtain ⟨a, d, rfl, hd, h1, h2, h3, h4, q⟩ := h
  rw [Vals.ref1 r]
  obtain ⟨as, rd⟩ := Dp.reads I d _ _ hd.dp (show L2.RelV (.ref a) (.ref a) from rfl)
  refine PySem.repr_of_reads' rd h1 (fun e => by rw [h2] at e; cases e) hg (by omega) (fun _ _ e => e) (fun h' u tk hk => ?_) h4
  exact ⟨.str d.shown, H, I.kept hk, ⟨u, rfl⟩, q⟩
end K12
set_option linter.all false
set_option maxRecDepth 100000
set_option maxHeartbeats 1600000
/-! K12w40: the law's own def entered from outside, where no repr is under way. -/
namespace K12
open PySem PySem.Spec PyProof.Rows L2
/-- the run of the def at fa, entered from outside with one value -/
def Ent (P : Program) (w : World) (K : PySem.W.Frag) (mg : Str → Option Value) (base : Heap) (fa : Addr) (fd : FuncData) (x : Str) (sp : Sp) : Prop :=
  ∀ (s : Shared) (H : Hp) (u : Value) (v : V) (Q : VK), Env0 P w K mg base callerA [] s H → BindsTo s fd ⟨[u], []⟩ [(x, u)] → RelV v u → sp [v] H Q E0 →
    codeAny (model P w) callerA (.call (.ref fa) ⟨[u], []⟩) (CR CX0 [] P w H s Q E0) s
section
variable {P : Program} {w : World} {K : PySem.W.Frag} {mg : Str → Option Value} {base : Heap}
theorem ent_of {x : Str} {st : Stmt} {fa : Addr} {fd : FuncData} {N : List Str} {p : Str} {sp : Sp} (F : Fun K x x st fa fd) (S : FnScope N [p] (defScope st))
    (B : ∀ (cdv : Value) (s : Shared) (H : Hp) (v : V) (Q : VK), sp [v] H Q E0 →
      ∃ t, PSs (cxOf CX0 P w K mg base N x (defScope st) fa cdv callerA [] s H E0).nox (defBody st) t ∧ t { nx := fun _ H' => Q .non H', rt := Q } (start N [v]) H) :
    Ent P w K mg base fa fd p sp := by
  intro s H u v Q e0 hb rv hs
  obtain ⟨oc, od, kV, doc, pm, an, cdv, ct, osl, rfl, lk, hcd⟩ := F.ex
  have kin : K.In s.heap := e0.mod.kin.keeps fun b o z => (e0.bs b o z).1
  have nolim : s.heap.NoLimit := e0.mod.nolimit.keeps fun b o z => (e0.bs b o z).1
  have deep : callerA.depth < recursionLimit := by decide
  refine codeAny_call_function deep (kin _ _ lk) rfl S.co S.gen rfl (PySem.W.codeRec_of kin hcd) (hb _ _ _ _ ?_)
  refine wpAny_newFunctionEnv_cells S.kind (fun y hy => ?_) fun env he s1 ic => ?_
  · rw [List.mem_singleton.mp hy]
    rcases S.par p (by simp) with z | z
    · exact .inl z
    · exact .inr ⟨z, PySem.W.cellsFrom_some _ _ _ (.inl z)⟩
  · subst he
    refine ⟨nolim.keeps ic.toInCall.keep, codeAny_func ?_⟩
    obtain ⟨t, ht, q⟩ := B cdv s H v Q hs
    have I : Inv (cxOf CX0 P w K mg base N x (defScope st) fa cdv callerA [] s H E0) [] (start N [v]) H s1 :=
      inv_start (vs := [v]) (us := [u]) S rfl e0 rfl (.cons rv .nil) ic
    refine wpAny_mono (ht.nox.run [] s1 (start N [v]) H _ I q) (fun fl s' z => ?_) fun _ _ z => z
    cases fl with
    | ret r => obtain ⟨y, σ', H', J, rr, qq⟩ := z; exact ⟨y, H', J.os, J.bare, J.base, J.hok, rr, qq⟩
    | next => obtain ⟨σ', H', J, qq⟩ := z; exact ⟨.non, H', J.os, J.bare, J.base, J.hok, rfl, qq⟩
    | brk => obtain ⟨_, _, _, qq⟩ := z; exact qq.elim
    | cont => obtain ⟨_, _, _, qq⟩ := z; exact qq.elim
end
/-- the heap that knows the script alone, and not even that where it is the module's own -/
def scrH (K : PySem.W.Frag) (a : Addr) (o : Obj) (ns : List Int) : Hp := fun b => if b = a ∧ K.lookup a = none then some (.frz o (.lst (ns.map V.int))) else none
section
variable {K : PySem.W.Frag} {a b : Addr} {o : Obj} {ns : List Int}
theorem scrH_one : scrH K a o ns b = none ∨ (b = a ∧ K.lookup a = none ∧ scrH K a o ns b = some (.frz o (.lst (ns.map V.int)))) := by
  unfold scrH
  by_cases h : b = a ∧ K.lookup a = none
  · rw [if_pos h]; exact .inr ⟨h.1, h.2, rfl⟩
  · rw [if_neg h]; exact .inl rfl
theorem scrH_none (h : scrH K a o ns b ≠ none) : b = a ∧ K.lookup a = none := by
  rcases scrH_one (K := K) (a := a) (b := b) (o := o) (ns := ns) with z | ⟨z1, z2, _⟩
  · exact absurd z h
  · exact ⟨z1, z2⟩
end
theorem ent_call {P : Program} {w : World} {K : PySem.W.Frag} {mg mb : Str → Option Value} {fa a : Addr} {fd : FuncData} {x : Str} {sp : Sp} {s₁ : Shared} {vs : List Value} {ns : List Int}
    (KX : K.In s₁.heap) (nm : s₁.heap.Ns mainGlobals mg) (nb : s₁.heap.Ns builtinsNs mb) (bb : ∀ y : Str, y ≠ "__name__" → mb y = bootBuiltins y) (lim : s₁.heap.NoLimit) (gens : s₁.gens = #[])
    (ha : s₁.heap.get? a = some { cls := .type "list", data := .seq vs.toArray }) (hi : IntsAre vs ns) (hl : ns.length ≤ sizeLine)
    (F : ∀ base : Heap, K.In base → base.Ns mainGlobals mg → Ent P w K mg base fa fd x sp) (hbind : ∀ (s : Shared) (u : Value), BindsTo s fd ⟨[u], []⟩ [(x, u)])
    (hsp : ∀ H : Hp, SqL K H a (ns.map V.int) → sp [.ref a] H (fun v _ => v = .bl true) E0) :
    codeAny (model P w) callerA (.call (.ref fa) ⟨[.ref a], []⟩) (fun r s' => r = .ok (.ret (.bool true)) ∧ OldK s₁.heap s'.heap ∧ s'.os = s₁.os ∧ AllBare s'.gens) s₁ := by
  have rv : Vals (ns.map V.int) vs := vals_ints hi
  have lv := hi.length
  let H : Hp := scrH K a { cls := .type "list", data := .seq vs.toArray } ns
  have one : ∀ b : Addr, H b = none ∨ (b = a ∧ K.lookup a = none ∧ H b = some (.frz { cls := .type "list", data := .seq vs.toArray } (.lst (ns.map V.int)))) := fun b => scrH_one
  have kept : ∀ {b : Addr} {o : Obj}, s₁.heap.get? b = some o → H b = none → (hidT s₁.heap H).get? b = some o := fun e n => hidT_get e n
  -- a dict is not the script
  have dct : ∀ {b : Addr} {o : Obj} {es : Array DictEntry} {ep : Nat}, s₁.heap.get? b = some o → o.data = .dict es ep → H b = none := by
    intro b o es ep e d
    rcases one b with z | ⟨rfl, _, _⟩
    · exact z
    · rw [ha] at e; cases e; cases (show Data.seq vs.toArray _ = Data.dict es ep from d)
  have nss : ∀ {b : Addr} {m : Str → Option Value}, s₁.heap.Ns b m → (hidT s₁.heap H).Ns b m := by
    rintro b m ⟨o, es, ep, e, d, r⟩
    exact ⟨o, es, ep, kept e (dct e d), d, r⟩
  have kin : K.In (hidT s₁.heap H) := by
    intro b o e
    refine kept (KX b o e) ?_
    rcases one b with z | ⟨rfl, k, _⟩
    · exact z
    · rw [k] at e; cases e
  have M : Mod K mg (hidT s₁.heap H) := by
    obtain ⟨mc, l1, l2⟩ := lim
    exact ⟨kin, nss nm, ⟨mb, nss nb, bb⟩, ⟨mc, nss l1, l2⟩⟩
  have ok : HOk P w H s₁.heap := by
    intro b u e
    rcases one b with z | ⟨rfl, _, z⟩
    · rw [z] at e; cases e
    · rw [z] at e; cases e
      exact ⟨ha, by rw [List.length_map]; exact hl, vs, _, rv, ha⟩
  have seq : SqL K H a (ns.map V.int) := by
    rcases one a with z | ⟨_, _, z⟩
    · cases hk : K.lookup a with
      | none =>
        have : H a = some (.frz { cls := .type "list", data := .seq vs.toArray } (.lst (ns.map V.int))) := if_pos ⟨rfl, hk⟩
        rw [z] at this; cases this
      | some o =>
        have e := KX a o hk
        rw [ha] at e; cases e
        exact .inr ⟨_, vs.toArray, _, hk, rfl, rfl, rfl, by rw [List.size_toArray, lv]; exact hl, by simpa using rv⟩
    · exact .inl (.inr ⟨_, z⟩)
  have nil : ∀ b : Addr, b ∉ ([] : List Addr) := fun b z => by simp at z
  have en : Env0 P w K mg (hidT s₁.heap H) callerA [] s₁ H :=
    ⟨rfl, M, fun b o e => of_hidT e, Nat.le_of_eq (hidT_size _ _), trivial, fun b z => absurd z (nil b), ok, .of_eq gens⟩
  refine codeAny_mono (F _ kin (nss nm) s₁ H (.ref a) (.ref a) _ en (hbind s₁ (.ref a)) rfl (hsp H seq)) fun r s' z => ?_
  match r, z with
  | .ok (.ret u), ⟨v, H', os, bare, un, hok', rr, q⟩ =>
    have q' : v = .bl true := q
    subst q'
    obtain rfl : u = Value.bool true := rr
    refine ⟨rfl, OldK.of_keep fun b o e => ?_, os, bare⟩
    rcases one b with z | ⟨_, _, z⟩
    · exact un.keep b o e z (nil b) (by simp)
    · obtain ⟨e1, _⟩ := ok b _ z
      obtain ⟨e2, _⟩ := hok' b _ (un.frzs b _ _ z)
      rw [e] at e1; cases e1
      exact e2
/-- what k_head leaves of a law, from its run entered from outside -/
theorem ent_walk {l : PySem.W.OpenLaw} {n : Nat} {q : Program} {loose : List Str} {XP : (Str → Option Value) → Heap → Prop} {YP : World → Heap → Prop} {d : DefRec} {K : Params → PySem.W.Frag} {sp : PySem.W.Frag → Sp} {x : Str}
    (hn : l.most = some n) (hn2 : n ≤ sizeLine) (hdf : d.params.defaults = []) (hY : ∀ (w : World) (h : Heap), YP w h → (K w.params).In h)
    (F : ∀ (w : World) (mg : Str → Option Value) (fa : Addr) (h : Heap), (K w.params).In h → h.Ns mainGlobals mg → mg d.name = some (.ref fa) →
      ∃ fd : FuncData, (∀ (s : Shared) (u : Value), BindsTo s fd ⟨[u], []⟩ [(x, u)]) ∧ ∀ base : Heap, (K w.params).In base → base.Ns mainGlobals mg → Ent l.prog w (K w.params) mg base fa fd x (sp (K w.params)))
    (hsp : ∀ (K : PySem.W.Frag) (H : Hp) (a : Addr) (ns : List Int), ns.length ≤ n → SqL K H a (ns.map V.int) → sp K [.ref a] H (fun v _ => v = .bl true) E0) :
    PySem.W.WalkO q loose XP YP l.row.toRowW d [] (fun f vs => PySem.call f vs) := by
  refine Att.attach_call hn hdf fun w s₀ s₁ mg mb fa o pm cd doc a vs ns G Y ho hd hcd hm hobj hints hlen hgens => ?_
  obtain ⟨fd, b, f⟩ := F w mg fa _ (hY w _ Y) G.T.g hm
  exact ent_call (hY w _ Y) G.T.g G.T.b G.T.builtins G.T.nolimit hgens hobj hints (Nat.le_trans hlen hn2) f b fun H z => hsp _ H a ns hlen z
end K12
set_option linter.all false
set_option maxRecDepth 100000
set_option maxHeartbeats 1600000
/-! K12w41: the law's end in plain terms; how long a world is when it is shown. -/
namespace K12
open PySem PySem.Spec PyProof.Rows L2
/-- the world that parted tells is one, and the two formulas part in it -/
structure EndOk (n : Nat) (es : List T3) (us : List (Nat × Nat)) (f g : Fm) (e : List Nat) (rows : List T3) : Prop where
  W : Wrld ((numbered e).length + (numbered e).length) n (worldT e rows) (worldP e n) es
  le : (numbered e).length + (numbered e).length ≤ 54
  un : ∀ p ∈ us, (worldP e n).getD p.1 0 ≠ (worldP e n).getD p.2 0
  ne : valM ((numbered e).length + (numbered e).length) (worldT e rows) (worldP e n) f ≠ valM ((numbered e).length + (numbered e).length) (worldT e rows) (worldP e n) g
theorem end_ok {n : Nat} {es : List T3} {us : List (Nat × Nat)} {f g : Fm} (FO : FactsOk n es us) (NC : NoClash n es us) (bf : f.bel n) (bg : g.bel n) (hz : f.size + g.size ≤ 22)
    (hne : plainF (closeOf n es).1 (closeOf n es).2 f ≠ plainF (closeOf n es).1 (closeOf n es).2 g) : EndOk n es us f g (finE n es f g).1 (finE n es f g).2 := by
  have G := closeOf_good FO.R
  have ln : (closeOf n es).1.length = n := closeOf_len FO.R
  have bf' : f.bel (closeOf n es).1.length := by rw [ln]; exact bf
  have A1 := thing_ok f (closeOf n es).1 (closeOf n es).2 G bf'
  have bg1 : g.bel (thing f (closeOf n es).1 (closeOf n es).2).1.1.length := Fm.bel_mono A1.ext.le (by rw [ln]; exact bg)
  have A2 := thing_ok g _ _ A1.good bg1
  have X := A1.ext.trans A2.ext
  have l1 : n ≤ (thing f (closeOf n es).1 (closeOf n es).2).1.1.length := by have := A1.ext.le; rw [ln] at this; exact this
  have l2 : n ≤ (finE n es f g).1.length := by have := X.le; rw [ln] at this; exact this
  have G2 : Good (finE n es f g).1 (finE n es f g).2 := A2.good
  have X2 : Ext (closeOf n es).1 (closeOf n es).2 (finE n es f g).1 (finE n es f g).2 := X
  have len2 : (finE n es f g).1.length ≤ n + f.size + g.size := by
    have h1 := A1.len
    have h2 : (finE n es f g).1.length ≤ _ := A2.len
    rw [ln] at h1; omega
  have hn := FO.le
  have hnum := numbered_le (finE n es f g).1
  refine ⟨world_ok G2 FO.pos l2 FO.R (fun r hr => ?_), by omega, fun p hp => ?_, ?_⟩
  · have h := X2.rows _ ((closeOf_rows FO.R _).mpr ⟨r, hr, rfl⟩)
    have e : r3 (finE n es f g).1 r = r3 (closeOf n es).1 r := by unfold r3; rw [X2.rt, X2.rt, X2.rt]
    rw [e]; exact h
  · obtain ⟨h1, h2⟩ := FO.U p hp
    rw [worldP_get (by omega), worldP_get h2]
    intro q
    have q' := ix_inj (root_in G2 (by omega)) (root_in G2 (by omega)) q
    rw [X2.rt, X2.rt] at q'
    exact NC p hp q'
  · obtain ⟨v1, m1⟩ := val_thing G2 FO.pos l2 f (closeOf n es).1 (closeOf n es).2 G (by rw [ln]; exact Nat.le_refl _) bf A2.ext
    obtain ⟨v2, m2⟩ := val_thing G2 FO.pos l2 g _ _ A1.good l1 bg (Ext.refl _ _)
    rw [v1, v2]
    exact world_parts G2 m1 m2 fun q => hne ((plain_thing G bf' (by rw [ln]; exact bg)).mp q)
/-! ### what is shown -/
structure Sh (k n : Nat) (d : PyData) : Prop where
  sw : d.showable = true
  nd : d.hasDict = false
  dp : d.depth ≤ k
  ln : d.shown.length ≤ n
theorem Sh.mono {k n m : Nat} {d : PyData} (h : Sh k n d) (le : n ≤ m) : Sh k m d := ⟨h.sw, h.nd, h.dp, Nat.le_trans h.ln le⟩
theorem showAll_of : ∀ {ds : List PyData}, (∀ d ∈ ds, d.showable = true) → PyData.showableAll ds = true
  | [], _ => by simp only [PyData.showableAll]
  | d :: ds, h => by simp only [PyData.showableAll, h d (by simp), showAll_of fun x hx => h x (List.mem_cons_of_mem _ hx), Bool.and_self]
theorem noDictAll_of : ∀ {ds : List PyData}, (∀ d ∈ ds, d.hasDict = false) → PyData.hasDictAll ds = false
  | [], _ => by simp only [PyData.hasDictAll]
  | d :: ds, h => by simp only [PyData.hasDictAll, h d (by simp), noDictAll_of fun x hx => h x (List.mem_cons_of_mem _ hx), Bool.or_self]
theorem depthAll_of {k : Nat} : ∀ {ds : List PyData}, (∀ d ∈ ds, d.depth ≤ k) → PyData.depthAll ds ≤ k
  | [], _ => by simp only [PyData.depthAll]; exact Nat.zero_le _
  | d :: ds, h => by
    have h1 := h d (by simp)
    have h2 := depthAll_of fun x hx => h x (List.mem_cons_of_mem _ hx)
    simp only [PyData.depthAll]; omega
theorem piled_of {n : Nat} : ∀ {ds : List PyData}, (∀ d ∈ ds, d.shown.length ≤ n) → piled (PyData.shownAll ds) ≤ ds.length * (n + 2)
  | [], _ => by simp only [PyData.shownAll]; exact Nat.zero_le _
  | d :: ds, h => by
    have h1 := h d (by simp)
    have h2 := piled_of fun x hx => h x (List.mem_cons_of_mem _ hx)
    simp only [PyData.shownAll]
    rw [piled_cons, List.length_cons, Nat.add_mul]; omega
theorem tupleText_le (ts : List Str) : (tupleText ts).length ≤ piled ts + 3 := by
  unfold tupleText
  rw [strLen_append, strLen_append]
  have e1 : ((("(" : String) : Str)).length = 1 := rfl
  have e3 : (((if ts.length == 1 then ",)" else ")" : String) : Str)).length ≤ 2 := by split <;> decide
  rw [e1]
  by_cases h : ts = []
  · subst h
    have e4 : (Str.join ", " []).length = 0 := rfl
    rw [e4]; omega
  · have := join_length_add ts h
    omega
theorem sh_tup {k n m : Nat} {ds : List PyData} (h : ∀ d ∈ ds, Sh k n d) (hm : ds.length ≤ m) : Sh (k + 1) (m * (n + 2) + 3) (.tuple ds) := by
  refine ⟨?_, ?_, ?_, ?_⟩
  · simp only [PyData.showable]; exact showAll_of fun d hd => (h d hd).sw
  · simp only [PyData.hasDict]; exact noDictAll_of fun d hd => (h d hd).nd
  · simp only [PyData.depth]
    have := depthAll_of fun d hd => (h d hd).dp
    omega
  · simp only [PyData.shown]
    have h1 := tupleText_le (PyData.shownAll ds)
    have h2 := piled_of fun d hd => (h d hd).ln
    have h3 : ds.length * (n + 2) ≤ m * (n + 2) := Nat.mul_le_mul_right _ hm
    omega
theorem sh_int {x : Nat} (h : x < 100) : Sh 0 2 (.int (x : Int)) := by
  refine ⟨?_, by simp only [PyData.hasDict], by simp only [PyData.depth]; exact Nat.le_refl _, ?_⟩
  · simp only [PyData.showable]
    refine decide_eq_true ?_
    have := Nat.log2_le_self x
    rw [Int.natAbs_natCast]; omega
  · simp only [PyData.shown]
    exact PyProof.Rows.toString_length_le (v := (x : Int)) (by omega) (by decide) (by omega)
theorem sh_row {r : List Nat} {m : Nat} (h : ∀ x ∈ r, x < 100) (hm : r.length ≤ m) : Sh 1 (m * 4 + 3) (rowD r) := by
  refine sh_tup (n := 2) (fun d hd => ?_) (by rw [List.length_map]; exact hm)
  obtain ⟨x, hx, rfl⟩ := List.mem_map.mp hd
  exact sh_int (h x hx)
theorem sh_world {N n : Nat} {T : List (List Nat)} {th : List Nat} {es : List T3} (W : Wrld N n T th es) (hN : N ≤ 54) (hn : n ≤ 54) : Sh 3 100000 (.tuple [tabD T, rowD th]) := by
  have h1 : Sh 2 (54 * (54 * 4 + 3 + 2) + 3) (tabD T) := by
    refine sh_tup (fun d hd => ?_) (by rw [List.length_map, W.L.len]; exact hN)
    obtain ⟨r, hr, rfl⟩ := List.mem_map.mp hd
    obtain ⟨i, hi⟩ := List.getElem?_of_mem hr
    have li : i < N := by rw [← W.L.len]; exact (List.getElem?_eq_some_iff.mp hi).1
    have e : T.getD i [] = r := by simp [List.getD, hi]
    obtain ⟨a1, a2, a3⟩ := W.L.rowOf li
    rw [e] at a1 a3
    exact sh_row (fun x hx => Nat.lt_of_lt_of_le (a3 x hx) (by omega)) (by omega)
  have h2 : Sh 1 (54 * 4 + 3) (rowD th) := sh_row (fun x hx => Nat.lt_of_lt_of_le (W.lt x hx) (by omega)) (by rw [W.len]; exact hn)
  refine (sh_tup (k := 2) (n := 54 * (54 * 4 + 3 + 2) + 3) (m := 2) (fun d hd => ?_) (Nat.le_refl _)).mono (by decide)
  simp only [List.mem_cons, List.not_mem_nil, or_false] at hd
  rcases hd with rfl | rfl
  · exact h1
  · exact ⟨h2.sw, h2.nd, by have := h2.dp; omega, Nat.le_trans h2.ln (by decide)⟩
/-! ### repr of None or of a tuple -/
def rReprO (K : PySem.W.Frag) : List V → Hp → VK → Prop := fun vs H Q => ∃ (v : V) (d : PyData), vs = [v] ∧ DT K H v d ∧ (v = .non ∨ ∃ a, v = .ref a) ∧ Sh 3 100000 d ∧ Q (.str d.shown) H
theorem cr_reprO {X : Cx} (hg : X.A.guards = some []) (hu : X.A.units + 64 < cLine) : CallR X (.builtin "repr") (rReprO X.K) := by
  intro pins s σ H vs us Q I r h
  obtain ⟨v, d, rfl, hd, hv, sh, q⟩ := h
  rcases hv with rfl | ⟨a, rfl⟩
  · cases hd
    cases r with
    | cons r1 r2 =>
      cases r2
      cases r1
      refine PySem.P.repr_of_none ⟨.str "None", H, I.tok _, ⟨_, rfl⟩, ?_⟩
      have e : (PyData.none).shown = ("None" : Str) := by simp only [PyData.shown]
      rw [e] at q; exact q
  · exact cr_reprD hg hu pins s σ H _ us Q I r ⟨a, d, rfl, hd, sh.sw, sh.nd, by have := sh.dp; omega, Nat.le_trans sh.ln (by decide), q⟩
theorem sh_none : Sh 3 100000 .none := ⟨by simp only [PyData.showable], by simp only [PyData.hasDict], by simp only [PyData.depth]; decide, by simp only [PyData.shown]; decide⟩
end K12
set_option linter.all false
set_option maxRecDepth 100000
set_option maxHeartbeats 1600000
/-! K12w42: the law's own def. -/
namespace K12
open PySem PySem.Spec PyProof.Rows L2
def spLaw (K : PySem.W.Frag) : Sp := fun vs H Q _ => ∃ (a : Addr) (ns : List Int), vs = [.ref a] ∧ SqL K H a (ns.map V.int) ∧ ns.length ≤ 63 ∧ ∀ H', Q (.bl true) H'
abbrev sLaw : Stmt := top 72
abbrev nLaw : List Str := ["_law_script", "_law_bag_here", "_law_every", "_law_turn", "_law_names", "_law_facts_here", "_law_pairs_here", "_law_alike", "_law_table_here", "_law_things_here", "_law_one", "_law_other", "_law_told", "_law_pair"]
theorem scLaw : FnScope nLaw ["_law_script"] (defScope sLaw) := ⟨rfl, rfl, rfl, by decide +kernel, rfl, by decide +kernel, by decide +kernel⟩
/-- what the law calls -/
structure LawCalls (P : Program) (w : World) (K : PySem.W.Frag) (mg : Str → Option Value) (base : Heap) : Prop where
  bag : Cl P w K mg base "_law_bag" ["_law_script"] 12 (spBag K)
  small : Cl P w K mg base "_law_small_tables" [] 12 (spSmall K)
  draw : Cl P w K mg base "_law_draw" ["_law_bag_here", "_law_limit"] 12 spDraw
  good : Cl P w K mg base "_law_good_facts" psGood 12 (spGood K)
  pairs : Cl P w K mg base "_law_pairs" ["_law_bag_here", "_law_names"] 12 (spPairs K)
  same : Cl P w K mg base "same" psSame 12 (spSame K)
  table : Cl P w K mg base "_law_table" ["_law_bag_here", "_law_size"] 12 (spTable K)
  placings : Cl P w K mg base "_law_placings" psPlacings 12 (spPlacings K)
  value : Cl P w K mg base "_law_value" psValue 12 (spValue K 5)
  parted : Cl P w K mg base "parted" psSame 12 (spParted K)
  werr : Cl P w K mg base "world_error" psWErr 12 (spWErr K)
/-- whether same tells a pair the same -/
noncomputable def sm (n : Nat) (es : List T3) (q : Fm × Fm) : Bool := decide (plainF (closeOf n es).1 (closeOf n es).2 q.1 = plainF (closeOf n es).1 (closeOf n es).2 q.2)
theorem pair_parts {K : PySem.W.Frag} {H : Hp} {v : V} {q : Fm × Fm} (h : DT K H v (pairD q)) : ∃ p va vb, v = .ref p ∧ Tp K H p [va, vb] ∧ DT K H va (fmD q.1) ∧ DT K H vb (fmD q.2) := by
  obtain ⟨p, xs, rfl, ht, hs⟩ := h.tup_inv
  cases hs with
  | cons h1 r =>
    cases r with
    | cons h2 r => cases r; exact ⟨p, _, _, rfl, ht, h1, h2⟩
theorem pair_at {K : PySem.W.Frag} {H : Hp} {xs : List V} {ps : List (Fm × Fm)} {i : Nat} {x : V} (h : DTs K H xs (ps.map pairD)) (hx : xs[i]? = some x) : ∃ q, ps[i]? = some q ∧ DT K H x (pairD q) := by
  obtain ⟨d, h1, h2⟩ := h.at hx
  obtain ⟨q, h3, rfl⟩ := map_at h1
  exact ⟨q, h3, h2⟩
theorem PairOk.s1 {n : Nat} {q : Fm × Fm} (h : PairOk n q) : q.1.size ≤ 7 := by
  have h1 := size_depth q.1
  have h2 : 2 ^ (q.1.depth + 1) ≤ 2 ^ 3 := Nat.pow_le_pow_right (by decide) (by have := h.d1; omega)
  omega
theorem eqv_pair (a q : Fm × Fm) : PyData.eqv (pairD a) (pairD q) = decide (a = q) := by
  obtain ⟨a1, a2⟩ := a
  obtain ⟨q1, q2⟩ := q
  simp only [pairD, PyData.eqv, PyData.eqvAll, eqv_fm, Bool.and_true]
  by_cases h1 : a1 = q1
  · by_cases h2 : a2 = q2
    · subst h1; subst h2; simp
    · rw [decide_eq_false h2, decide_eq_false (fun z => h2 (Prod.mk.inj z).2), Bool.and_false]
  · rw [decide_eq_false h1, decide_eq_false (fun z => h1 (Prod.mk.inj z).1), Bool.false_and]
theorem any_pair (q : Fm × Fm) : ∀ ps : List (Fm × Fm), ((ps.map pairD).any fun z => PyData.eqv z (pairD q)) = decide (q ∈ ps)
  | [] => by simp
  | a :: ps => by
    rw [List.map_cons, List.any_cons, any_pair q ps, eqv_pair]
    by_cases h : a = q
    · subst h; simp
    · have h' : ¬ q = a := fun z => h z.symm
      simp [h, h']
theorem lay_pair (q : Fm × Fm) : (pairD q).canLay0 = true := by
  simp only [pairD, PyData.canLay0, PyData.canLayAll0, canLay_fm, Bool.and_self]
theorem dep_pair {q : Fm × Fm} (h1 : q.1.depth ≤ 50) (h2 : q.2.depth ≤ 50) : (pairD q).depth ≤ 51 := by
  simp only [pairD, PyData.depth, PyData.depthAll, depth_fm]; omega
theorem shaped_pair {q : Fm × Fm} (h1 : q.1.depth ≤ 50) (h2 : q.2.depth ≤ 50) : SeqAt.shaped (pairD q) = true := by
  have := dep_pair h1 h2
  unfold SeqAt.shaped
  rw [lay_pair, Bool.true_and]
  exact decide_eq_true (by omega)
theorem lay_pairs : ∀ ps : List (Fm × Fm), PyData.canLayAll0 (ps.map pairD) = true
  | [] => by simp [PyData.canLayAll0]
  | q :: ps => by rw [List.map_cons]; simp only [PyData.canLayAll0, lay_pair q, lay_pairs ps, Bool.and_self]
theorem shaped_pairs {ps : List (Fm × Fm)} (h : ∀ q ∈ ps, q.1.depth ≤ 50 ∧ q.2.depth ≤ 50) : SeqAt.shaped (.list (ps.map pairD)) = true := by
  have h1 : PyData.depthAll (ps.map pairD) ≤ 51 := depthAll_of fun d hd => by
    obtain ⟨q, hq, rfl⟩ := List.mem_map.mp hd
    exact dep_pair (h q hq).1 (h q hq).2
  unfold SeqAt.shaped
  simp only [PyData.canLay0, PyData.depth, lay_pairs, Bool.true_and]
  exact decide_eq_true (by omega)
/-- what parted tells: nothing where the plain forms are one, a world otherwise -/
noncomputable def toldD (n : Nat) (es : List T3) (q : Fm × Fm) : PyData := if sm n es q = true then .none else worldD (finE n es q.1 q.2).1 (finE n es q.1 q.2).2 n
theorem dt_nonref {K : PySem.W.Frag} {H : Hp} {v : V} {ds : List PyData} (h : DT K H v (.tuple ds)) : ¬ v = .non := by
  obtain ⟨p, xs, rfl, _⟩ := h.tup_inv
  intro z; cases z
section
variable {P : Program} {w : World} {K : PySem.W.Frag} {mg : Str → Option Value} {base : Heap}
theorem ok_law {fa : Addr} {fd : FuncData} (F : Fun K "law" "law" sLaw fa fd) (T : Bi mg) (C : LawCalls P w K mg base) : Ent P w K mg base fa fd "_law_script" (spLaw K) := by
  refine ent_of F scLaw (fun cdv s H v Q hs => ?_)
  obtain ⟨a, ns, ev, ha, hlen, k⟩ := hs
  obtain rfl : v = .ref a := (List.cons.inj ev).1
  have hr : Room 12 (callerA.deeper (envOfC "law" (defScope sLaw) s.heap.objs.size fa cdv)) := Room.deeper (k := 12) ⟨rfl, by decide, by decide⟩ _
  have hu : (callerA.deeper (envOfC "law" (defScope sLaw) s.heap.objs.size fa cdv)).units + 65 < cLine := by show callerA.units + 3 + 65 < cLine; decide
  have hg : (callerA.deeper (envOfC "law" (defScope sLaw) s.heap.objs.size fa cdv)).guards = some [] := rfl
  have cB := C.bag
  have cS := C.small
  have cD := C.draw
  have cG := C.good
  have cP := C.pairs
  have cM := C.same
  have cT := C.table
  have cL := C.placings
  have cV := C.value
  have cA := C.parted
  have cW := C.werr
  refine ⟨_, pss_cons (ps_set (i := 1) scLaw.nd rfl (Or.inl rfl) (pe_cl cB hr (pa_cons (pv 0) pa_nil))) (pss_cons (ps_set (i := 2) scLaw.nd rfl (Or.inl rfl) (pe_cl0 cS hr)) (pss_cons (ps_for PassesOwn.never rfl (pi_range1 rfl T.range (pa_cons pe_int pa_nil)) (pg_name (i := 3) scLaw.nd rfl (Or.inl rfl)) (pss_cons (ps_set (i := 4) scLaw.nd rfl (Or.inl rfl) (pe_op op_add pe_int (pe_cl cD hr (pa_cons (pv 1) (pa_cons pe_int pa_nil))))) (pss_cons (ps_asg (pe_tup (pa_cons (pe_cl cG hr (pa_cons (pv 1) (pa_cons (pv 4) pa_nil))) (pa_cons (pe_cl cP hr (pa_cons (pv 1) (pa_cons (pv 4) pa_nil))) pa_nil))) (pg_tup (by rfl) (pgs_cons (pg_name (i := 5) scLaw.nd rfl (Or.inr rfl)) (pgs_cons (pg_name (i := 6) scLaw.nd rfl (Or.inl rfl)) pgs_nil)))) (pss_cons (ps_setLc (i := 7) (own := [("_law_pair", 13)]) (g := gName 13) (tt := _) rfl scLaw.nd rfl rfl (sw_true rfl rfl rfl (by decide +kernel)) (pi_list (pv 6)) (blkOk_by (N := nLaw) (sc := defScope sLaw) (by decide +kernel)) (fun _ _ _ _ _ => pg_name (i := 13) scLaw.nd rfl (Or.inl rfl)) (fun _ _ _ _ _ => pts_one (pt_val (pe_cl cM hr (pa_cons (pv 5) (pa_cons (pe_ix (ix_tupk K) (pv 13) pe_int (fun _ _ => rfl)) (pa_cons (pe_ix (ix_tupk K) (pv 13) pe_int (fun _ _ => rfl)) pa_nil)))))) (fun _ _ _ _ _ => pv 13)) (pss_cons (ps_for PassesOwn.never rfl (pi_list (pe_op op_cat (pv 2) (pe_lst (pa_cons (pe_cl cT hr (pa_cons (pv 1) (pa_cons (pe_op op_add pe_int (pe_cl cD hr (pa_cons (pv 1) (pa_cons pe_int pa_nil)))) pa_nil))) pa_nil)))) (pg_name (i := 8) scLaw.nd rfl (Or.inl rfl)) (pss_one (ps_for PassesOwn.never rfl (pi_list (pe_slice sl_list (pe_cl cL hr (pa_cons (pv 5) (pa_cons (pv 8) pa_nil))) po_none (po_some pe_int))) (pg_name (i := 9) scLaw.nd rfl (Or.inl rfl)) (pss_one (ps_for PassesOwn.never rfl (pi_list (pv 7)) (pg_tup (by rfl) (pgs_cons (pg_name (i := 10) scLaw.nd rfl (Or.inl rfl)) (pgs_cons (pg_name (i := 11) scLaw.nd rfl (Or.inl rfl)) pgs_nil))) (pss_one (ps_if (pt_cmpR op_ne (pe_cl cV hr (pa_cons (pv 8) (pa_cons (pv 9) (pa_cons (pv 10) pa_nil)))) (pe_cl cV hr (pa_cons (pv 8) (pa_cons (pv 9) (pa_cons (pv 11) pa_nil)))) (nomark _)) (pss_one (ps_ret pe_bl)) pss_nil))))))) (pss_one (ps_for PassesOwn.never rfl (pi_list (pv 6)) (pg_tup (by rfl) (pgs_cons (pg_name (i := 10) scLaw.nd rfl (Or.inl rfl)) (pgs_cons (pg_name (i := 11) scLaw.nd rfl (Or.inl rfl)) pgs_nil))) (pss_cons (ps_set (i := 12) scLaw.nd rfl (Or.inl rfl) (pe_cl cA hr (pa_cons (pv 5) (pa_cons (pv 10) (pa_cons (pv 11) pa_nil))))) (pss_cons (ps_if (PW.pt (pw_or (pt_cmpR op_ne (pe_cmpR op_isN (pv 12) pe_non (nomark _)) (pe_cmpR (op_inD hu) (pe_tup (pa_cons (pv 10) (pa_cons (pv 11) pa_nil))) (pv 7) (by rfl)) (nomark _)) (pw_or1 (pt_cmpR op_ne (pe_callB (cr_reprO hg (Nat.lt_of_succ_lt hu)) (by rfl) T.repr (by decide +kernel) (pa_cons (pe_cl cA hr (pa_cons (pv 5) (pa_cons (pv 10) (pa_cons (pv 11) pa_nil)))) pa_nil)) (pe_callB (cr_reprO hg (Nat.lt_of_succ_lt hu)) (by rfl) T.repr (by decide +kernel) (pa_cons (pv 12) pa_nil)) (nomark _))))) (pss_one (ps_ret pe_bl)) pss_nil) (pss_one (ps_if (pt_cmpR op_notN (pv 12) pe_non (nomark _)) (pss_cons (ps_if (PW.pt (pw_or (pt_cmpR op_notN (pe_cl cW hr (pa_cons (pv 5) (pa_cons (pv 12) pa_nil))) pe_non (nomark _)) (pw_or1 (pt_cmpR op_gt (pe_callB call_len_seq (by rfl) T.len PySem.boot_len (pa_cons (pe_ix ix_tup (pv 12) pe_int (fun _ _ => rfl)) pa_nil)) pe_int (nomark _))))) (pss_one (ps_ret pe_bl)) pss_nil) (pss_one (ps_if (pt_cmpR op_eq (pe_cl cV hr (pa_cons (pe_ix ix_tup (pv 12) pe_int (fun _ _ => rfl)) (pa_cons (pe_ix ix_tup (pv 12) pe_int (fun _ _ => rfl)) (pa_cons (pv 10) pa_nil)))) (pe_cl cV hr (pa_cons (pe_ix ix_tup (pv 12) pe_int (fun _ _ => rfl)) (pa_cons (pe_ix ix_tup (pv 12) pe_int (fun _ _ => rfl)) (pa_cons (pv 11) pa_nil)))) (nomark _)) (pss_one (ps_ret pe_bl)) pss_nil))) pss_nil))))))))))) (pss_one (ps_ret pe_bl)))), ?_⟩
  -- bag, every
  refine ⟨_, rfl, a, ns, rfl, ha, hlen, fun b H1 hb0 f1 hb1 => ?_⟩
  refine ⟨rfl, fun Ts e xs H2 hT hTl he e2 t2 f2 => ?_⟩
  have hb2 := hb1.fr f2 (fun z => z)
  have neb : e ≠ b := hb1.ne he
  refine ⟨_, rfl, by decide, by decide, for_range (lo := 0) (n := 3) (fun i σ H' => (∃ v3 v4 v5 v6 v7 v8 v9 v10 v11 v12 : Option V, σ = [some (.ref a), some (.ref b), some (.ref e), v3, v4, v5, v6, v7, v8, v9, v10, v11, v12, none]) ∧ Fr (S1 b) H2 H' ∧ Bag H' b) ?_ ?_ ?_⟩
  · exact ⟨⟨_, _, _, _, _, _, _, _, _, _, rfl⟩, Fr.refl _ _, hb2⟩
  · rintro i σ H3 hi ⟨⟨v3, v4, v5, v6, v7, v8, v9, v10, v11, v12, rfl⟩, f3, hb3⟩
    refine ⟨_, rfl, b, 5, rfl, hb3, by decide, by decide, fun d H4 hd f4 hb4 => ⟨1, (d : Int), rfl, rfl, ?_⟩⟩
    refine ⟨_, rfl, _, rfl, b, 1 + d, rfl, hb4, by omega, by omega, fun es us vf H5 FO NC df f5 hb5 => ?_⟩
    refine ⟨_, rfl, _, rfl, b, 1 + d, rfl, hb5, by omega, by omega, fun ps p xs6 H6 lps okp np e6 t6 f6 hb6 => ?_⟩
    refine ⟨by show 2 ≤ sizeLine; decide, fun t ht => ⟨t, _, rfl, SqT.of upd_same, rfl, _, _, rfl, _, _, rfl, rfl, ?_⟩⟩
    have n7 : Fr S0 H6 (upd H6 t (.tup [vf, .ref p])) := (Fr.refl _ _).new ht
    generalize hH7 : upd H6 t (.tup [vf, .ref p]) = H7 at n7
    clear hH7 ht
    have f37 : Fr (S1 b) H3 H7 := ((f4.trans f5).trans f6).trans (n7.mono fun a z => z.elim)
    have df7 := (df.fr f6).fr n7
    have e7 := n7.keep _ _ e6 (fun z => z)
    have t7 := t6.fr n7
    have hb7 := hb6.fr n7 (fun z => z)
    have lx6 : xs6.length = ps.length := by rw [t7.len, List.length_map]
    -- alike
    refine ⟨_, rfl, p, rfl, ⟨_, SqL.of e7⟩, fun dl hdl => lc_list (K := K) (a := p) (xs := xs6) (fun i H' => Fr S0 H7 H' ∧ ∃ ys, H' dl = some (.lst ys) ∧ DTs K H' ys (((ps.take i).filter (sm (1 + d) es)).map pairD)) ?_ ?_ ?_ ?_⟩
    · exact ⟨(Fr.refl _ _).new hdl, [], upd_same, .nil⟩
    · rintro i H' _ ⟨g1, _⟩
      exact SqL.of (g1.keep _ _ e7 (fun z => z))
    · rintro i x H' hx ⟨g1, ys, g2, g3⟩
      obtain ⟨q, eq, dq⟩ := pair_at (t7.fr g1) hx
      obtain ⟨pq, va, vb, rfl, tq, da, db⟩ := pair_parts dq
      have ok := okp q (List.mem_of_getElem? eq)
      have z1 := ok.s1
      have z2 := ok.z2
      have d1 := ok.d1
      have d2 := ok.d2
      have il : i < ps.length := (List.getElem?_eq_some_iff.mp eq).1
      refine ⟨rfl, _, rfl, _, rfl, pq, _, 0, _, rfl, rfl, tq.sq, rfl, _, rfl, pq, _, 1, _, rfl, rfl, tq.sq, rfl, vf, va, vb, 1 + d, es, us, q.1, q.2, rfl, df7.fr g1, FO, NC, da, db, ok.b1, ok.b2, by omega, by omega, by omega, by omega, fun H8 g8 => ⟨_, rfl, ?_⟩⟩
      have g2' := g8.keep _ _ g2 (fun z => z)
      have et : ps.take (i + 1) = ps.take i ++ [q] := by rw [List.take_succ, eq]; rfl
      have ly : ys.length ≤ 6 := by
        rw [g3.len, List.length_map]
        refine Nat.le_trans (List.length_filter_le _ _) ?_
        rw [List.length_take]; omega
      by_cases hp : plainF (closeOf (1 + d) es).1 (closeOf (1 + d) es).2 q.1 = plainF (closeOf (1 + d) es).1 (closeOf (1 + d) es).2 q.2
      · have hs : sm (1 + d) es q = true := decide_eq_true hp
        rw [decide_eq_true hp]
        have g : Fr (S1 dl) H8 (upd H8 dl (.lst (ys ++ [.ref pq]))) := (Fr.refl _ _).set rfl (lst_ne_tup g2')
        refine iteT ⟨_, rfl, ys, g2', sz (by omega), (g1.trans g8).mut hdl, ys ++ [.ref pq], upd_same, ?_⟩
        rw [et, List.filter_append, List.map_append]
        refine ((g3.fr g8).fr g).append ?_
        rw [List.filter_cons_of_pos hs]
        exact .one ((dq.fr g8).fr g)
      · have hs : ¬ sm (1 + d) es q = true := fun z => hp (of_decide_eq_true z)
        rw [decide_eq_false hp]
        refine iteF ⟨g1.trans g8, ys, g2', ?_⟩
        rw [et, List.filter_append, List.map_append, List.filter_cons_of_neg hs, List.filter_nil, List.map_nil, List.append_nil]
        exact g3.fr g8
    rintro H8 ⟨f8, ys, e8, t8⟩
    rw [List.take_of_length_le (by omega)] at t8
    have ly : ys.length ≤ 6 := by
      rw [t8.len, List.length_map]
      exact Nat.le_trans (List.length_filter_le _ _) lps
    have hb8 := hb7.fr f8 (fun z => z)
    have df8 := df7.fr f8
    -- the tables
    refine ⟨_, rfl, _, rfl, _, rfl, b, 4, rfl, hb8, by decide, by decide, fun d2 H9 hd2 f9 hb9 => ⟨4, (d2 : Int), rfl, rfl, b, 4 + d2, rfl, hb9, by omega, by omega, fun T0 vT H10 LT dT f10 hb10 => ⟨by show 1 ≤ sizeLine; decide, fun l hl => ?_⟩⟩⟩
    have ndb : dl ≠ b := hb7.ne hdl
    have npb : p ≠ b := hb5.ne np
    have e3 : H10 e = some (.lst xs) := (((f3.trans f37).trans (f8.mono fun a z => z.elim)).trans (f9.trans f10)).keep _ _ e2 neb
    have t3 : DTs K H10 xs (Ts.map tabD) := t2.fr (((f3.trans f37).trans (f8.mono fun a z => z.elim)).trans (f9.trans f10))
    have n11 : Fr S0 H10 (upd H10 l (.lst [vT])) := (Fr.refl _ _).new hl
    refine ⟨e, l, xs, [vT], rfl, rfl, n11.keep _ _ e3 (fun z => z), upd_same, by rw [t3.len, List.length_map]; exact szl (by show Ts.length + 1 ≤ 100000; omega), fun u hu12 => ?_⟩
    have n12 : Fr S0 H10 (upd (upd H10 l (.lst [vT])) u (.lst (xs ++ [vT]))) := n11.new hu12
    have e12 : upd (upd H10 l (.lst [vT])) u (.lst (xs ++ [vT])) u = some (.lst (xs ++ [vT])) := upd_same
    generalize upd (upd H10 l (.lst [vT])) u (.lst (xs ++ [vT])) = H12 at n12 e12
    clear hu12 n11 hl
    have t12 : DTs K H12 (xs ++ [vT]) ((Ts ++ [T0]).map tabD) := by
      rw [List.map_append]
      exact (t3.fr n12).append (.one (dT.fr n12))
    have hT12 : ∀ T ∈ Ts ++ [T0], ∃ N, 0 < N ∧ N ≤ 7 ∧ Latin N T := by
      intro T' hm
      rcases List.mem_append.mp hm with z | z
      · obtain ⟨N, z1, z2, z3⟩ := hT T' z
        exact ⟨N, z1, by omega, z3⟩
      · simp at z; subst z
        exact ⟨4 + d2, by omega, by omega, LT⟩
    have f812 : Fr (S1 b) H8 H12 := (f9.trans f10).trans (n12.mono fun a z => z.elim)
    have e812 := f812.keep _ _ e8 ndb
    have t812 := t8.fr f812
    have df12 := df8.fr f812
    have hb12 : Bag H12 b := hb10.fr n12 (fun z => z)
    have f312 : Fr (S1 b) H3 H12 := (f37.trans (f8.mono fun a z => z.elim)).trans f812
    have e712 : H12 p = some (.lst xs6) := ((f8.mono fun a z => z.elim : Fr (S1 b) H7 H8).trans f812).keep _ _ e7 npb
    have t712 := (t7.fr f8).fr f812
    clear n12 f812 e8 t8 e3 t3 dT
    refine ⟨u, rfl, ⟨_, SqL.of e12⟩, for_list (K := K) (a := u) (xs := xs ++ [vT]) (fun j σ H' => (∃ v8 v9 v10 v11 v12 : Option V, σ = [some (.ref a), some (.ref b), some (.ref e), some (.int (0 + (i : Int))), some (.int (1 + (d : Int))), some vf, some (.ref p), some (.ref dl), v8, v9, v10, v11, v12, none]) ∧ Fr S0 H12 H') ?_ ?_ ?_ ?_⟩
    · exact ⟨⟨_, _, _, _, _, rfl⟩, Fr.refl _ _⟩
    · rintro j σ H' _ ⟨_, g⟩
      exact SqL.of (g.keep _ _ e12 (fun z => z))
    · rintro j x σ H13 hx ⟨⟨v8, v9, v10, v11, v12, rfl⟩, g13⟩
      obtain ⟨dd, hd1, hdx⟩ := (t12.fr g13).at hx
      obtain ⟨T1, hT1, rfl⟩ := map_at hd1
      obtain ⟨N, hN0, hN7, L⟩ := hT12 T1 (List.mem_of_getElem? hT1)
      have df13 := df12.fr g13
      refine ⟨_, rfl, _, rfl, vf, x, 1 + d, N, es, us, T1, rfl, df13, hdx, FO, L, hN0, hN7, fun ths pp xs14 H14 hths npp e14 t14 f14 => ?_⟩
      refine ⟨_, rfl, pp, _, rfl, SqL.of e14, fun q hq => ⟨q, rfl, ⟨_, SqL.of upd_same⟩, ?_⟩⟩
      have n15 : Fr S0 H14 (upd H14 q (.lst (cutV xs14 none (some 60)))) := (Fr.refl _ _).new hq
      have e15 : upd H14 q (.lst (cutV xs14 none (some 60))) q = some (.lst (cutV xs14 none (some 60))) := upd_same
      generalize upd H14 q (.lst (cutV xs14 none (some 60))) = H15 at n15 e15
      clear hq
      have f15 : Fr S0 H12 H15 := (g13.trans f14).trans n15
      have t15 := t14.fr n15
      have dx15 := (hdx.fr f14).fr n15
      refine for_list (K := K) (a := q) (xs := cutV xs14 none (some 60)) (fun m σ H' => (∃ v9 v10 v11 v12 : Option V, σ = [some (.ref a), some (.ref b), some (.ref e), some (.int (0 + (i : Int))), some (.int (1 + (d : Int))), some vf, some (.ref p), some (.ref dl), some x, v9, v10, v11, v12, none]) ∧ Fr S0 H15 H') ?_ ?_ ?_ ?_
      · exact ⟨⟨_, _, _, _, rfl⟩, Fr.refl _ _⟩
      · rintro m σ H' _ ⟨_, g⟩
        exact SqL.of (g.keep _ _ e15 (fun z => z))
      · rintro m y σ H16 hy ⟨⟨v9, v10, v11, v12, rfl⟩, g16⟩
        obtain ⟨dy, hy1, hyd⟩ := (t15.fr g16).mem (cut_mem (List.mem_of_getElem? hy))
        obtain ⟨th, hth, rfl⟩ := List.mem_map.mp hy1
        obtain ⟨lth, Fth⟩ := hths th hth
        have W : Wrld N (1 + d) T1 th es := ⟨L, hN0, lth, Fth.lt, fun r hr => by
          obtain ⟨r1, r2, r3⟩ := FO.R r hr
          exact Fth.es r hr (by omega) (by omega) (by omega)⟩
        have f16 : Fr S0 H12 H16 := f15.trans g16
        refine ⟨_, rfl, dl, rfl, ⟨_, SqL.of (f16.keep _ _ e812 (fun z => z))⟩, for_list (K := K) (a := dl) (xs := ys) (fun m σ H' => (∃ v10 v11 v12 : Option V, σ = [some (.ref a), some (.ref b), some (.ref e), some (.int (0 + (i : Int))), some (.int (1 + (d : Int))), some vf, some (.ref p), some (.ref dl), some x, some y, v10, v11, v12, none]) ∧ Fr S0 H16 H') ?_ ?_ ?_ ?_⟩
        · exact ⟨⟨_, _, _, rfl⟩, Fr.refl _ _⟩
        · rintro m σ H' _ ⟨_, g⟩
          exact SqL.of ((f16.trans g).keep _ _ e812 (fun z => z))
        · rintro m' z σ H17 hz ⟨⟨v10, v11, v12, rfl⟩, g17⟩
          obtain ⟨qq, hq1, hqd⟩ := pair_at (t812.fr (f16.trans g17)) hz
          have hm := List.mem_filter.mp (List.mem_of_getElem? hq1)
          have ok := okp qq hm.1
          have hsm : plainF (closeOf (1 + d) es).1 (closeOf (1 + d) es).2 qq.1 = plainF (closeOf (1 + d) es).1 (closeOf (1 + d) es).2 qq.2 := of_decide_eq_true hm.2
          have hv : valM N T1 th qq.1 = valM N T1 th qq.2 := (W.plain FO.R qq.1).symm.trans (by rw [hsm]; exact W.plain FO.R qq.2)
          have d1 := ok.d1
          have d2' := ok.d2
          obtain ⟨pq, va, vb, rfl, tq, da, db⟩ := pair_parts hqd
          refine ⟨pq, _, rfl, tq.sq, rfl, _, _, rfl, _, _, rfl, rfl, ?_⟩
          have dx17 := (dx15.fr g16).fr g17
          have dy17 := hyd.fr g17
          refine ⟨_, rfl, _, rfl, _, rfl, x, y, va, N, T1, th, qq.1, rfl, by omega, dx17, dy17, da, L, hN0, by omega, Fth.lt, by rw [lth]; exact ok.b1, fun H18 g18 => ?_⟩
          refine ⟨_, rfl, _, rfl, _, rfl, x, y, vb, N, T1, th, qq.2, rfl, by omega, dx17.fr g18, dy17.fr g18, db.fr g18, L, hN0, by omega, Fth.lt, by rw [lth]; exact ok.b2, fun H19 g19 => ?_⟩
          refine ⟨rfl, _, rfl, ?_⟩
          have ed : (!decide (iv (valM N T1 th qq.1) = iv (valM N T1 th qq.2))) = false := by rw [hv, decide_eq_true rfl]; rfl
          rw [ed]
          refine iteF ?_
          exact ⟨⟨_, _, _, rfl⟩, (g17.trans g18).trans g19⟩
        · rintro σ H17 ⟨⟨v10, v11, v12, rfl⟩, g17⟩
          exact ⟨⟨_, _, _, _, rfl⟩, g16.trans g17⟩
      · rintro σ H16 ⟨⟨v9, v10, v11, v12, rfl⟩, g16⟩
        exact ⟨⟨_, _, _, _, _, rfl⟩, f15.trans g16⟩
    · rintro σ H13 ⟨⟨v8, v9, v10, v11, v12, rfl⟩, g13⟩
      have e713 := g13.keep _ _ e712 (fun z => z)
      have t713 := t712.fr g13
      refine ⟨_, rfl, p, rfl, ⟨_, SqL.of e713⟩, for_list (K := K) (a := p) (xs := xs6) (fun m σ H' => (∃ v8 v9 v10 v11 v12 : Option V, σ = [some (.ref a), some (.ref b), some (.ref e), some (.int (0 + (i : Int))), some (.int (1 + (d : Int))), some vf, some (.ref p), some (.ref dl), v8, v9, v10, v11, v12, none]) ∧ Fr S0 H12 H') ?_ ?_ ?_ ?_⟩
      · exact ⟨⟨_, _, _, _, _, rfl⟩, g13⟩
      · rintro m σ H' _ ⟨_, g⟩
        exact SqL.of (g.keep _ _ e712 (fun z => z))
      · rintro m x σ H14 hx ⟨⟨v8, v9, v10, v11, v12, rfl⟩, g14⟩
        obtain ⟨q, hq1, hqd⟩ := pair_at (t712.fr g14) hx
        have hqm := List.mem_of_getElem? hq1
        have ok := okp q hqm
        have z1 := ok.s1
        have z2 := ok.z2
        have d1 := ok.d1
        have d2' := ok.d2
        obtain ⟨pq, va, vb, rfl, tq, da, db⟩ := pair_parts hqd
        refine ⟨pq, _, rfl, tq.sq, rfl, _, _, rfl, _, _, rfl, rfl, ?_⟩
        have df14 := df12.fr g14
        -- what parted tells, each time
        have told : ∀ {H1 : Hp} {Q : VK}, Fr S0 H14 H1 → (∀ v H2, DT K H2 v (toldD (1 + d) es q) → Fr S0 H1 H2 → Q v H2) → spParted K [vf, va, vb] H1 Q E0 := by
          intro H1 Q g h
          refine ⟨vf, va, vb, 1 + d, es, us, q.1, q.2, rfl, df14.fr g, FO, NC, da.fr g, db.fr g, ok.b1, ok.b2, by omega, by omega, by omega, fun hp H2 g2 => ?_, fun hp v H2 hd g2 => ?_⟩
          · refine h .non H2 ?_ g2
            unfold toldD
            rw [if_pos (show sm (1 + d) es q = true from decide_eq_true hp)]
            exact .non
          · refine h v H2 ?_ g2
            unfold toldD
            rw [if_neg (show ¬ sm (1 + d) es q = true from fun z => hp (of_decide_eq_true z))]
            exact hd
        refine ⟨_, rfl, _, rfl, _, rfl, ?_⟩
        dsimp only [tNil, List.cons_append, List.nil_append, List.append_nil]
        refine told (Fr.refl _ _) fun v H15 dv g15 => ?_
        have shp : ∀ r ∈ ps.filter (sm (1 + d) es), r.1.depth ≤ 50 ∧ r.2.depth ≤ 50 := fun r hr => by
          have o := okp r (List.mem_filter.mp hr).1
          have := o.d1
          have := o.d2
          exact ⟨by omega, by omega⟩
        have e815 : H15 dl = some (.lst ys) := (g14.trans g15).keep _ _ e812 (fun z => z)
        have t815 := t812.fr (g14.trans g15)
        -- told is None, and (one, other) in alike
        refine ⟨_, rfl, rfl, _, rfl, _, rfl, by show 2 ≤ sizeLine; decide, fun t2 ht2 => ⟨_, rfl, ?_⟩⟩
        have n16 : Fr S0 H15 (upd H15 t2 (.tup [va, vb])) := (Fr.refl _ _).new ht2
        have e16 : upd H15 t2 (.tup [va, vb]) t2 = some (.tup [va, vb]) := upd_same
        generalize upd H15 t2 (.tup [va, vb]) = H16 at n16 e16
        clear ht2
        have g1416 := g15.trans n16
        have dq16 : DT K H16 (.ref t2) (pairD q) := .tup (.of e16) (.cons (da.fr g1416) (.one (db.fr g1416)))
        refine ⟨pairD q, (ps.filter (sm (1 + d) es)).map pairD, dq16.dp, .lst (SqL.of (n16.keep _ _ e815 (fun z => z))) (t815.fr n16).dp, shaped_pair (by omega) (by omega), shaped_pairs shp, ?_⟩
        rw [any_pair]
        refine ⟨rfl, _, rfl, ?_⟩
        have hmem : decide (q ∈ ps.filter (sm (1 + d) es)) = sm (1 + d) es q := by
          by_cases hs : sm (1 + d) es q = true
          · rw [hs]; exact decide_eq_true (List.mem_filter.mpr ⟨hqm, hs⟩)
          · rw [Bool.not_eq_true _ |>.mp hs]; exact decide_eq_false fun z => hs (List.mem_filter.mp z).2
        have hnon : decide (v = V.non) = sm (1 + d) es q := by
          by_cases hs : sm (1 + d) es q = true
          · unfold toldD at dv
            rw [if_pos hs] at dv
            rw [hs]; exact decide_eq_true dv.non_inv
          · unfold toldD at dv
            rw [if_neg hs] at dv
            rw [Bool.not_eq_true _ |>.mp hs]; exact decide_eq_false (dt_nonref dv)
        have sh : Sh 3 100000 (toldD (1 + d) es q) := by
          unfold toldD
          by_cases hs : sm (1 + d) es q = true
          · rw [if_pos hs]; exact sh_none
          · rw [if_neg hs]
            have EO := end_ok FO NC ok.b1 ok.b2 (by omega) fun z => hs (decide_eq_true z)
            have := EO.le
            exact sh_world EO.W EO.le (by omega)
        have form : ∀ {H : Hp} {v : V}, DT K H v (toldD (1 + d) es q) → v = .non ∨ ∃ a, v = .ref a := by
          intro H v h
          unfold toldD at h
          by_cases hs : sm (1 + d) es q = true
          · rw [if_pos hs] at h; exact .inl h.non_inv
          · rw [if_neg hs] at h
            obtain ⟨p, xs, rfl, _⟩ := DT.tup_inv h
            exact .inr ⟨_, rfl⟩
        have e1 : (!decide (V.bl (decide (v = V.non)) = V.bl (decide (q ∈ ps.filter (sm (1 + d) es))))) = false := by rw [hnon, hmem, decide_eq_true rfl]; rfl
        rw [e1]
        refine iteF ?_
        -- repr(parted(..)) != repr(told)
        refine ⟨_, rfl, _, rfl, _, rfl, ?_⟩
        dsimp only [tNil, List.cons_append, List.nil_append, List.append_nil]
        refine told g1416 fun u H17 du g17 => ⟨u, _, rfl, du, form du, sh, _, rfl, v, _, rfl, (dv.fr n16).fr g17, form dv, sh, rfl, _, rfl, ?_⟩
        have e2' : (!decide (V.str (toldD (1 + d) es q).shown = V.str (toldD (1 + d) es q).shown)) = false := by rw [decide_eq_true rfl]; rfl
        rw [e2']
        refine iteF ?_
        have dv17 := (dv.fr n16).fr g17
        have f17 : Fr S0 H12 H17 := ((g14.trans g1416).trans g17)
        by_cases hs : sm (1 + d) es q = true
        · refine ⟨_, rfl, rfl, _, rfl, ?_⟩
          rw [hnon, hs]
          refine iteF ?_
          exact ⟨⟨_, _, _, _, _, rfl⟩, f17⟩
        · have EO := end_ok FO NC ok.b1 ok.b2 (by omega) fun z => hs (decide_eq_true z)
          unfold toldD at dv17
          rw [if_neg hs] at dv17
          refine ⟨_, rfl, rfl, _, rfl, ?_⟩
          rw [hnon, Bool.not_eq_true _ |>.mp hs]
          refine iteT ?_
          have dw17 := dv17
          obtain ⟨pt, ws, rfl, tw, rw_⟩ := dv17.tup_inv
          cases rw_ with
          | cons r1 r2 =>
          cases r2 with
          | cons r2 r3 =>
          cases r3
          have hN := EO.le
          have hW := EO.W
          have g17' : Fr S0 H14 H17 := g1416.trans g17
          -- world_error(..) is not None
          refine ⟨_, rfl, _, rfl, vf, _, 1 + d, _, es, us, _, _, rfl, df14.fr g17', dw17, FO, hW, by omega, EO.un, fun H18 g18 => ⟨rfl, _, rfl, ?_⟩⟩
          refine iteF ?_
          -- len(told[0]) > 60
          obtain ⟨p0, rs, e0, t0, l0, _⟩ := tab_inv (r1.fr g18)
          refine ⟨_, rfl, pt, _, 0, _, rfl, rfl, (tw.fr g18).sq, rfl, p0, rs, (show [_] = [V.ref p0] by rw [e0]), .inr t0.sq, _, _, rfl, rfl, _, rfl, ?_⟩
          have e3 : decide ((60 : Int) < (rs.length : Int)) = false := decide_eq_false (by rw [l0, hW.L.len]; omega)
          rw [e3]
          refine iteF ?_
          -- the two values
          refine ⟨_, rfl, pt, _, 0, _, rfl, rfl, (tw.fr g18).sq, rfl, _, rfl, pt, _, 1, _, rfl, rfl, (tw.fr g18).sq, rfl, _, rfl, _, _, va, _, _, _, q.1, rfl, by omega, r1.fr g18, r2.fr g18, da.fr (g17'.trans g18), hW.L, hW.pos, by omega, hW.lt, by rw [hW.len]; exact ok.b1, fun H19 g19 => ?_⟩
          have g1719 := g18.trans g19
          refine ⟨_, rfl, pt, _, 0, _, rfl, rfl, (tw.fr g1719).sq, rfl, _, rfl, pt, _, 1, _, rfl, rfl, (tw.fr g1719).sq, rfl, _, rfl, _, _, vb, _, _, _, q.2, rfl, by omega, r1.fr g1719, r2.fr g1719, db.fr (g17'.trans g1719), hW.L, hW.pos, by omega, hW.lt, by rw [hW.len]; exact ok.b2, fun H20 g20 => ?_⟩
          refine ⟨rfl, _, rfl, ?_⟩
          refine ite2 (fun z => ?_) (fun _ => ?_)
          · exact absurd (V.int.inj (of_decide_eq_true z)) (fun q => EO.ne (by omega))
          · exact ⟨⟨_, _, _, _, _, rfl⟩, f17.trans (g1719.trans g20)⟩
      · rintro σ H14 ⟨⟨v8, v9, v10, v11, v12, rfl⟩, g14⟩
        exact ⟨⟨_, _, _, _, _, _, _, _, _, _, rfl⟩, (f3.trans f312).trans (g14.mono fun a z => z.elim), hb12.fr g14 (fun z => z)⟩
  · rintro σ H3 ⟨⟨v3, v4, v5, v6, v7, v8, v9, v10, v11, v12, rfl⟩, f3, hb3⟩
    exact k H3
end
end K12
set_option linter.all false
set_option maxRecDepth 100000
set_option maxHeartbeats 1600000
/-! K12w43: what the top has written, and the law's calls by it. -/
namespace K12
open PySem PySem.Spec PyProof.Rows L2
/-- where each def, method and class stands -/
structure Tops (K : PySem.W.Frag) (w : World) (mg : Str → Option Value) (C R : Addr) : Prop where
  bi : Bi mg
  clg : Clg K C
  rcl : Rcl K R
  plc : Plc K w mg
  draw : Df K mg "_law_draw" sDraw ["_law_bag_here", "_law_limit"]
  pick : Df K mg "_law_pick" sPick ["_law_bag_here", "_law_items"]
  things : Df K mg "_law_things" sThings ["_law_bag_here", "_law_many", "_law_size"]
  turned : Df K mg "_law_turned" sTurned ["_law_bag_here", "_law_many"]
  divisor : Df K mg "_law_divisor" sDivisor ["_law_one", "_law_other"]
  bag : Df K mg "_law_bag" sBag ["_law_script"]
  formula : Df K mg "_law_formula" sFormula psFormula
  count : Df K mg "_law_count" sCount ["_law_value_here"]
  near : Df K mg "_law_near" sNear psNear
  pairs : Df K mg "_law_pairs" sPairs ["_law_bag_here", "_law_names"]
  turn_over : Df K mg "_law_turn_over" sTO ["_law_bag_here", "_law_rows", "_law_size"]
  table : Df K mg "_law_table" sTable ["_law_bag_here", "_law_size"]
  value : Df K mg "_law_value" sValue psValue
  small : Df K mg "_law_small_tables" sSmall []
  fits : Df K mg "_law_fits" sFits psFits
  placings : Df K mg "_law_placings" sPlacings psPlacings
  close : Df K mg "_law_close" sClose ["_law_marks_here", "_law_rows"]
  marks : Df K mg "_law_marks" sMarks psMarks
  allMarks : Df K mg "_law_all_marks" sAllMarks psAllMarks
  lots : Df K mg "_law_lots" sLots psLots
  lclash : Df K mg "_law_clash" sClash psClash
  facts : Df K mg "_law_facts" sFacts psFacts
  good : Df K mg "_law_good_facts" sGood psGood
  root : Dm K C "root" "Closing.root" sRoot ["self", "thing"]
  join : Dm K C "join" "Closing.join" sJoin ["self", "one", "other"]
  told : Dm K C "told" "Closing.told" sTold psTold
  rooted : Dm K C "rooted" "Closing.rooted" sRooted ["self"]
  isJ : Dm K C "is_joined" "Closing.is_joined" sIsJ ["self", "places"]
  settle : Dm K C "settle" "Closing.settle" sSettle ["self"]
  ci : Di K mg C "Closing" "Closing.__init__" sCI psCI
  numbered : Dm K C "numbered" "Closing.numbered" sNumbered ["self"]
  of : Df K mg "closing_of" sOf psF
  one : Df K mg "are_one" sOne psOne
  torn : Df K mg "torn_by" sTorn psTorn
  clash : Df K mg "clash" sCl psF
  closed : Df K mg "closed" sClosed psF
  third : Dm K C "third" "Closing.third" sThird psTold
  isName : Df K mg "is_name" sIsName psFm
  thing : Dm K C "thing_of" "Closing.thing_of" sThing psThing
  made : Df K mg "is_made" sMade psMade
  rule : Df K mg "rule_told" sRule psFm
  entry : Df K mg "entry_told" sEntry psCF
  shorter : Df K mg "shorter" sShorter psCF
  first : Df K mg "first_step" sFirst psCF
  steps : Df K mg "steps" sSteps psCF
  same : Df K mg "same" sSame psSame
  int : Df K mg "is_integer" sInt psInt
  tup : Df K mg "is_tuple" sTup psTup
  things2 : Df K mg "are_things" sThings2 psThings2
  terr : Df K mg "table_error" sTErr psTErr
  perr : Df K mg "placing_error" sPErr psPErr
  werr : Df K mg "world_error" sWErr psWErr
  ri : Di K mg R "Rounds" "Rounds.__init__" sRI psRI
  free : Dm K R "free" "Rounds.free" sFree psFree
  put : Dm K R "put" "Rounds.put" sPut psPut
  chain : Dm K R "chain" "Rounds.chain" sChain psChain
  turn : Dm K R "turn" "Rounds.turn" sTurn psTurn
  add : Dm K R "add" "Rounds.add" sAdd psAdd
  rounds : Df K mg "rounds" sRounds psRounds
  counts : Df K mg "counts" sCounts psCounts
  lacking : Df K mg "lacking" sLacking psCounts
  widened : Df K mg "widened" sWidened psCounts
  lengthened : Df K mg "lengthened" sLengthened psLengthened
  completed : Df K mg "completed" sCompleted psCounts
  block : Df K mg "block_of" sBlock psBlock
  world : Df K mg "world_by" sWorld psWorld
  parted : Df K mg "parted" sParted psSame
theorem Ini.mono {P : Program} {w : World} {K : PySem.W.Frag} {mg : Str → Option Value} {base : Heap} {C : Addr} {x : Str} {ps : List Str} {j k : Nat} {sp : Sp} (c : Ini P w K mg base C x ps j sp) (h : j ≤ k) : Ini P w K mg base C x ps k sp := by
  obtain ⟨f, fd, M, g, b, F⟩ := c
  exact ⟨f, fd, M, g, b, F.mono h⟩
theorem Tops.calls {P : Program} {w : World} {K : PySem.W.Frag} {mg : Str → Option Value} {base : Heap} {C R : Addr} (D : Tops K w mg C R) : LawCalls P w K mg base := by
  have T := D.bi
  have L := D.clg
  have LR := D.rcl
  have PL := D.plc
  have draw : Cl P w K mg base _ _ _ _ := ok_draw D.draw T
  have pick : Cl P w K mg base _ _ _ _ := ok_pick D.pick T draw
  have things : Cl P w K mg base _ _ _ _ := ok_things D.things T draw
  have turned : Cl P w K mg base _ _ _ _ := ok_turned D.turned T draw
  have divisor : Cl P w K mg base _ _ _ _ := ok_divisor D.divisor T
  have bag : Cl P w K mg base _ _ _ _ := ok_bag D.bag T
  have formula : ∀ d0, Cl P w K mg base _ _ _ _ := ok_formula D.formula T draw pick
  have count : ∀ d0, Cl P w K mg base _ _ _ _ := ok_count D.count T
  have near : ∀ d0, Cl P w K mg base _ _ _ _ := ok_near D.near T draw (formula 3)
  have pairs : Cl P w K mg base _ _ _ _ := ok_pairs D.pairs T draw pick (formula 3) (near 3) (count 5)
  have turn_over : Cl P w K mg base _ _ _ _ := ok_turn_over D.turn_over T draw
  have table : Cl P w K mg base _ _ _ _ := ok_table D.table T draw pick divisor turned turn_over
  have value : ∀ d0, Cl P w K mg base _ _ _ _ := ok_value D.value T
  have small : Cl P w K mg base _ _ _ _ := ok_small D.small T
  have fits : Cl P w K mg base _ _ _ _ := ok_fits D.fits T
  have placings : Cl P w K mg base _ _ _ _ := ok_placings D.placings T fits
  have close : Cl P w K mg base _ _ _ _ := ok_close D.close T
  have marksL : Cl P w K mg base _ _ _ _ := ok_marksL D.marks T close
  have marksT : Cl P w K mg base _ _ _ _ := ok_marksT D.marks T close
  have allMarks : Cl P w K mg base _ _ _ _ := ok_allMarks D.allMarks T marksL
  have lots : Cl P w K mg base _ _ _ _ := ok_lots D.lots T
  have lclash : Cl P w K mg base _ _ _ _ := ok_clash D.lclash T allMarks (marksT.mono (by decide)) (lots.mono (by decide))
  have facts : Cl P w K mg base _ _ _ _ := ok_facts D.facts T draw pick table things
  have good : Cl P w K mg base _ _ _ _ := ok_good D.good T facts lclash
  have root : Mt P w K mg base C _ _ _ _ := ok_root D.root T L
  have join : Mt P w K mg base C _ _ _ _ := ok_join D.join T L root
  have told : Mt P w K mg base C _ _ _ _ := ok_told D.told T L
  have rooted : Mt P w K mg base C _ _ _ _ := ok_rooted D.rooted T L root
  have isJ : Mt P w K mg base C _ _ _ _ := ok_isJ D.isJ T L (root.mono (by decide)) join
  have settle : Mt P w K mg base C _ _ _ _ := ok_settle D.settle T L PL (rooted.mono (by decide)) isJ
  have ci : Ini P w K mg base C _ _ _ _ := ok_CI D.ci T L settle
  have numbered : Mt P w K mg base C _ _ _ _ := ok_numbered D.numbered T L
  have of : Cl P w K mg base _ _ _ _ := ok_of D.of T ci
  have one : Cl P w K mg base _ _ _ _ := ok_one D.one T L root
  have torn : Cl P w K mg base _ _ _ _ := ok_torn D.torn T one
  have clash : Cl P w K mg base _ _ _ _ := ok_cl D.clash T of (torn.mono (by decide))
  have closed : Cl P w K mg base _ _ _ _ := ok_closed D.closed T (of.mono (by decide)) clash
  have third : Mt P w K mg base C _ _ _ _ := ok_third D.third T L told
  have isName : Cl P w K mg base _ _ _ _ := ok_isName D.isName T
  have thing : ∀ d0, Mt P w K mg base C _ _ _ _ := ok_thing D.thing T L PL root third isName
  have made : Cl P w K mg base _ _ _ _ := ok_made D.made T isName
  have rule : Cl P w K mg base _ _ _ _ := ok_rule D.rule T made
  have entry : Cl P w K mg base _ _ _ _ := ok_entry D.entry T L PL root told isName
  have shorter : Cl P w K mg base _ _ _ _ := ok_shorter D.shorter T L root isName entry rule
  have first : ∀ d0, Cl P w K mg base _ _ _ _ := ok_first D.first T isName shorter
  have steps : Cl P w K mg base _ _ _ _ := ok_steps D.steps T (first 5)
  have same : Cl P w K mg base _ _ _ _ := ok_same D.same T closed steps
  have int : Cl P w K mg base _ _ _ _ := ok_int D.int T
  have tup : Cl P w K mg base _ _ _ _ := ok_tup D.tup T
  have things2 : Cl P w K mg base _ _ _ _ := ok_things2 D.things2 T int tup
  have terr : Cl P w K mg base _ _ _ _ := ok_terr D.terr T things2
  have perr : Cl P w K mg base _ _ _ _ := ok_perr D.perr T
  have werr : Cl P w K mg base _ _ _ _ := ok_werr D.werr T (tup.mono (by decide)) terr (things2.mono (by decide)) (perr.mono (by decide))
  have ri : Ini P w K mg base R _ _ _ _ := ok_RI D.ri T LR
  have free : Mt P w K mg base R _ _ _ _ := ok_free D.free T LR
  have put : Mt P w K mg base R _ _ _ _ := ok_put D.put T LR
  have chain : Mt P w K mg base R _ _ _ _ := ok_chain D.chain T LR
  have turn : Mt P w K mg base R _ _ _ _ := ok_turn D.turn T LR put
  have add : Mt P w K mg base R _ _ _ _ := ok_add D.add T LR (free.mono (by decide)) (chain.mono (by decide)) turn (put.mono (by decide))
  have rounds : Cl P w K mg base _ _ _ _ := ok_rounds D.rounds T LR (ri.mono (by decide)) add
  have counts : Cl P w K mg base _ _ _ _ := ok_counts D.counts T
  have lacking : Cl P w K mg base _ _ _ _ := ok_lacking D.lacking T counts
  have widened : Cl P w K mg base _ _ _ _ := ok_widened D.widened T rounds
  have lengthened : Cl P w K mg base _ _ _ _ := ok_lengthened D.lengthened T rounds
  have completed : Cl P w K mg base _ _ _ _ := ok_completed D.completed T (lacking.mono (by decide)) widened lengthened
  have block : Cl P w K mg base _ _ _ _ := ok_block D.block T L numbered
  have world : Cl P w K mg base _ _ _ _ := ok_world D.world T L (numbered.mono (by decide)) (root.mono (by decide)) (block.mono (by decide)) completed
  have parted : Cl P w K mg base _ _ _ _ := ok_parted D.parted T L closed (thing 5) numbered world
  exact ⟨bag.mono (by decide), small.mono (by decide), draw.mono (by decide), good.mono (by decide), pairs.mono (by decide), same, table.mono (by decide), placings.mono (by decide), (value 5).mono (by decide), parted.mono (by decide), werr.mono (by decide)⟩
end K12
set_option linter.all false
set_option maxRecDepth 100000
set_option maxHeartbeats 1600000
/-! K12w44: how what the top has written is told (printed by gen44.py). -/
namespace K12
open PySem PySem.Spec PyProof.Rows L2
/-- how a def's arguments bind -/
def Bnd (x qual : Str) (st : Stmt) (ps : List Str) : Prop := ∀ (kV doc pm : Value) (an : Option Addr) (cdv ct : Value) (us : List Value), us.length = ps.length →
  bindArgs (PySem.W.fnOf x qual (defArgs st) (defBody st) (defScope st) .none kV doc pm an cdv ct) ⟨us, []⟩ = pure (ps.zip us)
section
variable {K : PySem.W.Frag} {h : Heap} {mg : Str → Option Value} {x qual : Str} {st : Stmt} {ps : List Str} {f C : Addr} {oc : Value} {od an : Option Addr} {osl : Array (Option Value)} {kV doc pm cdv ct : Value}
theorem df_mk (X : K.In h) (G : h.Ns mainGlobals mg) (b : Bnd x x st ps) (a : PySem.W.nsIn K mainGlobals x = some (some (.ref f)))
    (l : K.lookup f = some ⟨oc, od, .func (PySem.W.fnOf x x (defArgs st) (defBody st) (defScope st) .none kV doc pm an cdv ct), osl⟩) (c : PySem.W.codeIn K cdv x = true) (k : PySem.W.keepIn K (.ref f) = true) : Df K mg x st ps :=
  ⟨⟨f, _, fun_mk l c k, PySem.W.mg_of X G a, (fun_mk l c k).binds b⟩⟩
theorem dm_mk (b : Bnd x qual st ps) (a : PySem.W.findIn K (.ref C) x = some (some (.ref f))) (i : PySem.W.isFn K (.ref f) = true)
    (l : K.lookup f = some ⟨oc, od, .func (PySem.W.fnOf x qual (defArgs st) (defBody st) (defScope st) .none kV doc pm an cdv ct), osl⟩) (c : PySem.W.codeIn K cdv qual = true) (k : PySem.W.keepIn K (.ref f) = true) : Dm K C x qual st ps :=
  ⟨⟨f, _, fun_mk l c k, ⟨a, i, k⟩, (fun_mk l c k).binds b⟩⟩
theorem di_mk {cl : Str} (X : K.In h) (G : h.Ns mainGlobals mg) (b : Bnd "__init__" qual st ps) (g : PySem.W.nsIn K mainGlobals cl = some (some (.ref C))) (m : PySem.W.makesIn K C = true) (kc : PySem.W.keepIn K (.ref C) = true)
    (a : PySem.W.findIn K (.ref C) "__init__" = some (some (.ref f))) (i : PySem.W.isFn K (.ref f) = true)
    (l : K.lookup f = some ⟨oc, od, .func (PySem.W.fnOf "__init__" qual (defArgs st) (defBody st) (defScope st) .none kV doc pm an cdv ct), osl⟩) (c : PySem.W.codeIn K cdv qual = true) (k : PySem.W.keepIn K (.ref f) = true) : Di K mg C cl qual st ps :=
  ⟨⟨f, _, fun_mk l c k, ⟨m, a, i, kc⟩, PySem.W.mg_of X G g, (fun_mk l c k).binds b⟩⟩
theorem cls_mk (pg : PySem.W.plainGet K C Str.empty = true) (hd : PySem.W.hasDictIn K C = true) (po : PySem.W.plainOver K C = true) (sa : PySem.W.findIn K (.ref C) "__setattr__" = some (some (.builtin "object.__setattr__"))) : Cls K C := ⟨pg, hd, po, sa⟩
end
theorem bi_mk {K : PySem.W.Frag} {h : Heap} {mg : Str → Option Value} {t : Tok} (X : K.In h) (G : h.Ns mainGlobals mg) (z0 : PySem.W.nsIn K mainGlobals "len" = some none) (z1 : PySem.W.nsIn K mainGlobals "range" = some none) (z2 : PySem.W.nsIn K mainGlobals "list" = some none) (z3 : PySem.W.nsIn K mainGlobals "tuple" = some none) (z4 : PySem.W.nsIn K mainGlobals "set" = some none) (z5 : PySem.W.nsIn K mainGlobals "sorted" = some none) (z6 : PySem.W.nsIn K mainGlobals "any" = some none) (z7 : PySem.W.nsIn K mainGlobals "all" = some none) (z8 : PySem.W.nsIn K mainGlobals "zip" = some none) (z9 : PySem.W.nsIn K mainGlobals "enumerate" = some none) (z10 : PySem.W.nsIn K mainGlobals "isinstance" = some none) (z11 : PySem.W.nsIn K mainGlobals "int" = some none) (z12 : PySem.W.nsIn K mainGlobals "bool" = some none) (z13 : PySem.W.nsIn K mainGlobals "abs" = some none) (z14 : PySem.W.nsIn K mainGlobals "max" = some none) (z15 : PySem.W.nsIn K mainGlobals "min" = some none) (z16 : PySem.W.nsIn K mainGlobals "repr" = some none) (m : PySem.W.nsIn K mainGlobals "MAX_TABLE" = some (some (.int 60 t))) : Bi mg :=
  ⟨PySem.W.mg_none_of X G z0, PySem.W.mg_none_of X G z1, PySem.W.mg_none_of X G z2, PySem.W.mg_none_of X G z3, PySem.W.mg_none_of X G z4, PySem.W.mg_none_of X G z5, PySem.W.mg_none_of X G z6, PySem.W.mg_none_of X G z7, PySem.W.mg_none_of X G z8, PySem.W.mg_none_of X G z9, PySem.W.mg_none_of X G z10, PySem.W.mg_none_of X G z11, PySem.W.mg_none_of X G z12, PySem.W.mg_none_of X G z13, PySem.W.mg_none_of X G z14, PySem.W.mg_none_of X G z15, PySem.W.mg_none_of X G z16, ⟨t, PySem.W.mg_of X G m⟩⟩
/-- a row of three numbers of the module -/
theorem tp3 {K : PySem.W.Frag} {p n : Nat} {t1 t2 t3 : Tok} {a b c : Nat} (l : K.lookup p = some ⟨.type "tuple", none, .seq #[.int (a : Int) t1, .int (b : Int) t2, .int (c : Int) t3] n, #[]⟩) (H : Hp) : DT K H (.ref p) (rowD [a, b, c]) := by
  have v : Vals (ivs [a, b, c]) [.int (a : Int) t1, .int (b : Int) t2, .int (c : Int) t3] := .cons ⟨t1, rfl⟩ (.cons ⟨t2, rfl⟩ (.cons ⟨t3, rfl⟩ .nil))
  exact .tup (.inr ⟨_, _, n, l, rfl, rfl, by show 3 ≤ sizeLine; decide, v⟩) (dts_ivs [a, b, c])
theorem plc_mk {K : PySem.W.Frag} {h : Heap} {w : World} {mg : Str → Option Value} {d p1 p2 p3 n n1 n2 n3 : Nat} {t1 t2 t3 a1 a2 a3 b1 b2 b3 c1 c2 c3 : Tok} (X : K.In h) (G : h.Ns mainGlobals mg) (a : PySem.W.nsIn K mainGlobals "PLACES" = some (some (.ref d)))
    (l : K.lookup d = some ⟨.type "dict", none, .dict #[⟨PyData.keyHash w.params "with", .str "with" t1, .ref p1⟩, ⟨PyData.keyHash w.params "behind", .str "behind" t2, .ref p2⟩, ⟨PyData.keyHash w.params "ahead", .str "ahead" t3, .ref p3⟩] n, #[]⟩) (ns : (d == sysModules) = false)
    (l1 : K.lookup p1 = some ⟨.type "tuple", none, .seq #[.int 0 a1, .int 1 a2, .int 2 a3] n1, #[]⟩) (l2 : K.lookup p2 = some ⟨.type "tuple", none, .seq #[.int 0 b1, .int 2 b2, .int 1 b3] n2, #[]⟩)
    (l3 : K.lookup p3 = some ⟨.type "tuple", none, .seq #[.int 1 c1, .int 2 c2, .int 0 c3] n3, #[]⟩)
    (m1 : PySem.W.nsIn K d "with" = some (some (.ref p1))) (m2 : PySem.W.nsIn K d "behind" = some (some (.ref p2))) (m3 : PySem.W.nsIn K d "ahead" = some (some (.ref p3))) : Plc K w mg := by
  have lit : PySem.W.KeysLit w.params [(⟨PyData.keyHash w.params "with", .str "with" t1, .ref p1⟩ : DictEntry), ⟨PyData.keyHash w.params "behind", .str "behind" t2, .ref p2⟩, ⟨PyData.keyHash w.params "ahead", .str "ahead" t3, .ref p3⟩] :=
    ⟨⟨_, _, rfl, rfl⟩, ⟨_, _, rfl, rfl⟩, ⟨_, _, rfl, rfl⟩, trivial⟩
  refine ⟨d, PySem.W.mg_of X G a, ⟨ns, _, _, l, rfl, fun i x hx => ?_⟩, fun u => ?_⟩
  · match i, hx with
    | 0, hx => cases Option.some.inj hx; exact ⟨_, t1, rfl, rfl⟩
    | 1, hx => cases Option.some.inj hx; exact ⟨_, t2, rfl, rfl⟩
    | 2, hx => cases Option.some.inj hx; exact ⟨_, t3, rfl, rfl⟩
  · cases u with
    | wi => exact ⟨.ref p1, ⟨_, _, _, l, lit, m1, rfl⟩, tp3 (a := 0) (b := 1) (c := 2) l1⟩
    | be => exact ⟨.ref p2, ⟨_, _, _, l, lit, m2, rfl⟩, tp3 (a := 0) (b := 2) (c := 1) l2⟩
    | ah => exact ⟨.ref p3, ⟨_, _, _, l, lit, m3, rfl⟩, tp3 (a := 1) (b := 2) (c := 0) l3⟩
theorem b_draw : Bnd "_law_draw" "_law_draw" sDraw ["_law_bag_here", "_law_limit"] := fun _ _ _ _ _ _ us hl => match us, hl with | [_, _], _ => rfl
theorem b_pick : Bnd "_law_pick" "_law_pick" sPick ["_law_bag_here", "_law_items"] := fun _ _ _ _ _ _ us hl => match us, hl with | [_, _], _ => rfl
theorem b_things : Bnd "_law_things" "_law_things" sThings ["_law_bag_here", "_law_many", "_law_size"] := fun _ _ _ _ _ _ us hl => match us, hl with | [_, _, _], _ => rfl
theorem b_turned : Bnd "_law_turned" "_law_turned" sTurned ["_law_bag_here", "_law_many"] := fun _ _ _ _ _ _ us hl => match us, hl with | [_, _], _ => rfl
theorem b_divisor : Bnd "_law_divisor" "_law_divisor" sDivisor ["_law_one", "_law_other"] := fun _ _ _ _ _ _ us hl => match us, hl with | [_, _], _ => rfl
theorem b_bag : Bnd "_law_bag" "_law_bag" sBag ["_law_script"] := fun _ _ _ _ _ _ us hl => match us, hl with | [_], _ => rfl
theorem b_formula : Bnd "_law_formula" "_law_formula" sFormula psFormula := fun _ _ _ _ _ _ us hl => match us, hl with | [_, _, _], _ => rfl
theorem b_count : Bnd "_law_count" "_law_count" sCount ["_law_value_here"] := fun _ _ _ _ _ _ us hl => match us, hl with | [_], _ => rfl
theorem b_near : Bnd "_law_near" "_law_near" sNear psNear := fun _ _ _ _ _ _ us hl => match us, hl with | [_, _, _], _ => rfl
theorem b_pairs : Bnd "_law_pairs" "_law_pairs" sPairs ["_law_bag_here", "_law_names"] := fun _ _ _ _ _ _ us hl => match us, hl with | [_, _], _ => rfl
theorem b_turn_over : Bnd "_law_turn_over" "_law_turn_over" sTO ["_law_bag_here", "_law_rows", "_law_size"] := fun _ _ _ _ _ _ us hl => match us, hl with | [_, _, _], _ => rfl
theorem b_table : Bnd "_law_table" "_law_table" sTable ["_law_bag_here", "_law_size"] := fun _ _ _ _ _ _ us hl => match us, hl with | [_, _], _ => rfl
theorem b_value : Bnd "_law_value" "_law_value" sValue psValue := fun _ _ _ _ _ _ us hl => match us, hl with | [_, _, _], _ => rfl
theorem b_small : Bnd "_law_small_tables" "_law_small_tables" sSmall [] := fun _ _ _ _ _ _ us hl => match us, hl with | [], _ => rfl
theorem b_fits : Bnd "_law_fits" "_law_fits" sFits psFits := fun _ _ _ _ _ _ us hl => match us, hl with | [_, _, _], _ => rfl
theorem b_placings : Bnd "_law_placings" "_law_placings" sPlacings psPlacings := fun _ _ _ _ _ _ us hl => match us, hl with | [_, _], _ => rfl
theorem b_close : Bnd "_law_close" "_law_close" sClose ["_law_marks_here", "_law_rows"] := fun _ _ _ _ _ _ us hl => match us, hl with | [_, _], _ => rfl
theorem b_marks : Bnd "_law_marks" "_law_marks" sMarks psMarks := fun _ _ _ _ _ _ us hl => match us, hl with | [_, _], _ => rfl
theorem b_allMarks : Bnd "_law_all_marks" "_law_all_marks" sAllMarks psAllMarks := fun _ _ _ _ _ _ us hl => match us, hl with | [_], _ => rfl
theorem b_lots : Bnd "_law_lots" "_law_lots" sLots psLots := fun _ _ _ _ _ _ us hl => match us, hl with | [_], _ => rfl
theorem b_lclash : Bnd "_law_clash" "_law_clash" sClash psClash := fun _ _ _ _ _ _ us hl => match us, hl with | [_], _ => rfl
theorem b_facts : Bnd "_law_facts" "_law_facts" sFacts psFacts := fun _ _ _ _ _ _ us hl => match us, hl with | [_, _], _ => rfl
theorem b_good : Bnd "_law_good_facts" "_law_good_facts" sGood psGood := fun _ _ _ _ _ _ us hl => match us, hl with | [_, _], _ => rfl
theorem b_root : Bnd "root" "Closing.root" sRoot ["self", "thing"] := fun _ _ _ _ _ _ us hl => match us, hl with | [_, _], _ => rfl
theorem b_join : Bnd "join" "Closing.join" sJoin ["self", "one", "other"] := fun _ _ _ _ _ _ us hl => match us, hl with | [_, _, _], _ => rfl
theorem b_told : Bnd "told" "Closing.told" sTold psTold := fun _ _ _ _ _ _ us hl => match us, hl with | [_, _, _, _], _ => rfl
theorem b_rooted : Bnd "rooted" "Closing.rooted" sRooted ["self"] := fun _ _ _ _ _ _ us hl => match us, hl with | [_], _ => rfl
theorem b_isJ : Bnd "is_joined" "Closing.is_joined" sIsJ ["self", "places"] := fun _ _ _ _ _ _ us hl => match us, hl with | [_, _], _ => rfl
theorem b_settle : Bnd "settle" "Closing.settle" sSettle ["self"] := fun _ _ _ _ _ _ us hl => match us, hl with | [_], _ => rfl
theorem b_ci : Bnd "__init__" "Closing.__init__" sCI psCI := fun _ _ _ _ _ _ us hl => match us, hl with | [_, _, _], _ => rfl
theorem b_numbered : Bnd "numbered" "Closing.numbered" sNumbered ["self"] := fun _ _ _ _ _ _ us hl => match us, hl with | [_], _ => rfl
theorem b_of : Bnd "closing_of" "closing_of" sOf psF := fun _ _ _ _ _ _ us hl => match us, hl with | [_], _ => rfl
theorem b_one : Bnd "are_one" "are_one" sOne psOne := fun _ _ _ _ _ _ us hl => match us, hl with | [_, _], _ => rfl
theorem b_torn : Bnd "torn_by" "torn_by" sTorn psTorn := fun _ _ _ _ _ _ us hl => match us, hl with | [_, _], _ => rfl
theorem b_clash : Bnd "clash" "clash" sCl psF := fun _ _ _ _ _ _ us hl => match us, hl with | [_], _ => rfl
theorem b_closed : Bnd "closed" "closed" sClosed psF := fun _ _ _ _ _ _ us hl => match us, hl with | [_], _ => rfl
theorem b_third : Bnd "third" "Closing.third" sThird psTold := fun _ _ _ _ _ _ us hl => match us, hl with | [_, _, _, _], _ => rfl
theorem b_isName : Bnd "is_name" "is_name" sIsName psFm := fun _ _ _ _ _ _ us hl => match us, hl with | [_], _ => rfl
theorem b_thing : Bnd "thing_of" "Closing.thing_of" sThing psThing := fun _ _ _ _ _ _ us hl => match us, hl with | [_, _], _ => rfl
theorem b_made : Bnd "is_made" "is_made" sMade psMade := fun _ _ _ _ _ _ us hl => match us, hl with | [_, _], _ => rfl
theorem b_rule : Bnd "rule_told" "rule_told" sRule psFm := fun _ _ _ _ _ _ us hl => match us, hl with | [_], _ => rfl
theorem b_entry : Bnd "entry_told" "entry_told" sEntry psCF := fun _ _ _ _ _ _ us hl => match us, hl with | [_, _], _ => rfl
theorem b_shorter : Bnd "shorter" "shorter" sShorter psCF := fun _ _ _ _ _ _ us hl => match us, hl with | [_, _], _ => rfl
theorem b_first : Bnd "first_step" "first_step" sFirst psCF := fun _ _ _ _ _ _ us hl => match us, hl with | [_, _], _ => rfl
theorem b_steps : Bnd "steps" "steps" sSteps psCF := fun _ _ _ _ _ _ us hl => match us, hl with | [_, _], _ => rfl
theorem b_same : Bnd "same" "same" sSame psSame := fun _ _ _ _ _ _ us hl => match us, hl with | [_, _, _], _ => rfl
theorem b_int : Bnd "is_integer" "is_integer" sInt psInt := fun _ _ _ _ _ _ us hl => match us, hl with | [_, _, _], _ => rfl
theorem b_tup : Bnd "is_tuple" "is_tuple" sTup psTup := fun _ _ _ _ _ _ us hl => match us, hl with | [_, _], _ => rfl
theorem b_things2 : Bnd "are_things" "are_things" sThings2 psThings2 := fun _ _ _ _ _ _ us hl => match us, hl with | [_, _, _], _ => rfl
theorem b_terr : Bnd "table_error" "table_error" sTErr psTErr := fun _ _ _ _ _ _ us hl => match us, hl with | [_], _ => rfl
theorem b_perr : Bnd "placing_error" "placing_error" sPErr psPErr := fun _ _ _ _ _ _ us hl => match us, hl with | [_, _, _], _ => rfl
theorem b_werr : Bnd "world_error" "world_error" sWErr psWErr := fun _ _ _ _ _ _ us hl => match us, hl with | [_, _], _ => rfl
theorem b_ri : Bnd "__init__" "Rounds.__init__" sRI psRI := fun _ _ _ _ _ _ us hl => match us, hl with | [_, _], _ => rfl
theorem b_free : Bnd "free" "Rounds.free" sFree psFree := fun _ _ _ _ _ _ us hl => match us, hl with | [_, _], _ => rfl
theorem b_put : Bnd "put" "Rounds.put" sPut psPut := fun _ _ _ _ _ _ us hl => match us, hl with | [_, _, _, _], _ => rfl
theorem b_chain : Bnd "chain" "Rounds.chain" sChain psChain := fun _ _ _ _ _ _ us hl => match us, hl with | [_, _, _, _], _ => rfl
theorem b_turn : Bnd "turn" "Rounds.turn" sTurn psTurn := fun _ _ _ _ _ _ us hl => match us, hl with | [_, _, _, _], _ => rfl
theorem b_add : Bnd "add" "Rounds.add" sAdd psAdd := fun _ _ _ _ _ _ us hl => match us, hl with | [_, _, _], _ => rfl
theorem b_rounds : Bnd "rounds" "rounds" sRounds psRounds := fun _ _ _ _ _ _ us hl => match us, hl with | [_, _], _ => rfl
theorem b_counts : Bnd "counts" "counts" sCounts psCounts := fun _ _ _ _ _ _ us hl => match us, hl with | [_, _], _ => rfl
theorem b_lacking : Bnd "lacking" "lacking" sLacking psCounts := fun _ _ _ _ _ _ us hl => match us, hl with | [_, _], _ => rfl
theorem b_widened : Bnd "widened" "widened" sWidened psCounts := fun _ _ _ _ _ _ us hl => match us, hl with | [_, _], _ => rfl
theorem b_lengthened : Bnd "lengthened" "lengthened" sLengthened psLengthened := fun _ _ _ _ _ _ us hl => match us, hl with | [_, _], _ => rfl
theorem b_completed : Bnd "completed" "completed" sCompleted psCounts := fun _ _ _ _ _ _ us hl => match us, hl with | [_, _], _ => rfl
theorem b_block : Bnd "block_of" "block_of" sBlock psBlock := fun _ _ _ _ _ _ us hl => match us, hl with | [_, _], _ => rfl
theorem b_world : Bnd "world_by" "world_by" sWorld psWorld := fun _ _ _ _ _ _ us hl => match us, hl with | [_, _, _], _ => rfl
theorem b_parted : Bnd "parted" "parted" sParted psSame := fun _ _ _ _ _ _ us hl => match us, hl with | [_, _, _], _ => rfl
theorem b_law : Bnd "law" "law" sLaw ["_law_script"] := fun _ _ _ _ _ _ us hl => match us, hl with | [_], _ => rfl
/-- the law's own def, from what the top has written -/
theorem law_top {l : PySem.W.OpenLaw} {w : World} {K : PySem.W.Frag} {h : Heap} {mg : Str → Option Value} {fa C R f : Addr} {oc : Value} {od an : Option Addr} {osl : Array (Option Value)} {kV doc pm cdv ct : Value} (X : K.In h) (G : h.Ns mainGlobals mg) (hfa : mg "law" = some (.ref fa))
    (a : PySem.W.nsIn K mainGlobals "law" = some (some (.ref f))) (lk : K.lookup f = some ⟨oc, od, .func (PySem.W.fnOf "law" "law" (defArgs sLaw) (defBody sLaw) (defScope sLaw) .none kV doc pm an cdv ct), osl⟩) (c : PySem.W.codeIn K cdv "law" = true) (k : PySem.W.keepIn K (.ref f) = true)
    (gC : PySem.W.nsIn K mainGlobals "Closing" = some (some (.ref C))) (gR : PySem.W.nsIn K mainGlobals "Rounds" = some (some (.ref R))) (D : Tops K w mg C R) :
    ∃ fd : FuncData, (∀ (s : Shared) (u : Value), BindsTo s fd ⟨[u], []⟩ [("_law_script", u)]) ∧ ∀ base : Heap, K.In base → base.Ns mainGlobals mg → Ent l.prog w K mg base fa fd "_law_script" (spLaw K) := by
  have e := hfa.symm.trans (PySem.W.mg_of X G a)
  cases e
  exact ⟨_, fun s v => .of_eq (b_law kV doc pm an cdv ct [v] rfl), fun base _ _ => ok_law (fun_mk lk c k) D.bi D.calls⟩
theorem walk {l : PySem.W.OpenLaw} {q : Program} {loose : List Str} {XP : (Str → Option Value) → Heap → Prop} {YP : World → Heap → Prop} {d : DefRec} {K : Params → PySem.W.Frag} (hn : l.most = some 63) (hdf : d.params.defaults = [])
    (hY : ∀ (w : World) (h : Heap), YP w h → (K w.params).In h)
    (F : ∀ (w : World) (mg : Str → Option Value) (fa : Addr) (h : Heap), (K w.params).In h → h.Ns mainGlobals mg → mg d.name = some (.ref fa) →
      ∃ fd : FuncData, (∀ (s : Shared) (u : Value), BindsTo s fd ⟨[u], []⟩ [("_law_script", u)]) ∧ ∀ base : Heap, (K w.params).In base → base.Ns mainGlobals mg → Ent l.prog w (K w.params) mg base fa fd "_law_script" (spLaw (K w.params))) :
    PySem.W.WalkO q loose XP YP l.row.toRowW d [] (fun f vs => PySem.call f vs) :=
  ent_walk (n := 63) (x := "_law_script") (sp := spLaw) hn (by decide) hdf hY F fun K H a ns h1 h2 => ⟨a, ns, rfl, h2, h1, fun _ => rfl⟩
end K12
open PySem PySem.W PyProof.Rows
set_option maxRecDepth 100000
set_option maxHeartbeats 0
theorem PySem.Challenge.cw_solvedbothsides_k12_whole_same_in_all_ta_holds : PySem.Challenge.rw_solvedbothsides_k12_whole_same_in_all_ta.Holds := by
  w_on; o_law; k_head; (case hw => w_witness2)
  k_fill
  refine K12.walk (l := PySem.Challenge.rw_solvedbothsides_k12_whole_same_in_all_ta) rfl (by kernel_rfl) (fun w h Y => PySem.W.kIn_of Y) ?F
  case F =>
    intro w mg fa h KX G hmg
    refine' K12.law_top KX G hmg ?a ?l ?c ?k ?gC ?gR ?D
    (case a => k_is); (case l => k_is); (case c => k_is); (case k => k_is); (case gC => k_is); (case gR => k_is)
    case D =>
      refine' ⟨?bi, ?clg, ?rcl, ?plc, ?draw, ?pick, ?things, ?turned, ?divisor, ?bag, ?formula, ?count, ?near, ?pairs, ?turn_over, ?table, ?value, ?small, ?fits, ?placings, ?close, ?marks, ?allMarks, ?lots, ?lclash, ?facts, ?good, ?root, ?join, ?told, ?rooted, ?isJ, ?settle, ?ci, ?numbered, ?of, ?one, ?torn, ?clash, ?closed, ?third, ?isName, ?thing, ?made, ?rule, ?entry, ?shorter, ?first, ?steps, ?same, ?int, ?tup, ?things2, ?terr, ?perr, ?werr, ?ri, ?free, ?put, ?chain, ?turn, ?add, ?rounds, ?counts, ?lacking, ?widened, ?lengthened, ?completed, ?block, ?world, ?parted⟩
      case bi =>
        refine' K12.bi_mk KX G ?z0 ?z1 ?z2 ?z3 ?z4 ?z5 ?z6 ?z7 ?z8 ?z9 ?z10 ?z11 ?z12 ?z13 ?z14 ?z15 ?z16 ?m
        (case z0 => k_is); (case z1 => k_is); (case z2 => k_is); (case z3 => k_is); (case z4 => k_is); (case z5 => k_is); (case z6 => k_is); (case z7 => k_is); (case z8 => k_is); (case z9 => k_is); (case z10 => k_is); (case z11 => k_is); (case z12 => k_is); (case z13 => k_is); (case z14 => k_is); (case z15 => k_is); (case z16 => k_is); (case m => k_is)
      case clg =>
        refine' ⟨K12.cls_mk ?pg ?hd ?po ?sa, ?n1, ?n2⟩
        (case pg => k_is); (case hd => k_is); (case po => k_is); (case sa => k_is); (case n1 => show PySem.W.findIn _ _ "elder" = some none; k_is); (case n2 => show PySem.W.findIn _ _ "rows" = some none; k_is)
      case rcl =>
        refine' ⟨K12.cls_mk ?pg ?hd ?po ?sa, ?n1, ?n2⟩
        (case pg => k_is); (case hd => k_is); (case po => k_is); (case sa => k_is); (case n1 => show PySem.W.findIn _ _ "many" = some none; k_is); (case n2 => show PySem.W.findIn _ _ "partners" = some none; k_is)
      case plc =>
        refine' K12.plc_mk KX G ?a ?l ?ns ?l1 ?l2 ?l3 ?m1 ?m2 ?m3
        (case a => k_is); (case l => k_is); (case ns => decide); (case l1 => k_is); (case l2 => k_is); (case l3 => k_is); (case m1 => k_is); (case m2 => k_is); (case m3 => k_is)
      case draw =>
        refine' K12.df_mk KX G K12.b_draw ?a ?l ?c ?k
        (case a => k_is); (case l => k_is); (case c => k_is); (case k => k_is)
      case pick =>
        refine' K12.df_mk KX G K12.b_pick ?a ?l ?c ?k
        (case a => k_is); (case l => k_is); (case c => k_is); (case k => k_is)
      case things =>
        refine' K12.df_mk KX G K12.b_things ?a ?l ?c ?k
        (case a => k_is); (case l => k_is); (case c => k_is); (case k => k_is)
      case turned =>
        refine' K12.df_mk KX G K12.b_turned ?a ?l ?c ?k
        (case a => k_is); (case l => k_is); (case c => k_is); (case k => k_is)
      case divisor =>
        refine' K12.df_mk KX G K12.b_divisor ?a ?l ?c ?k
        (case a => k_is); (case l => k_is); (case c => k_is); (case k => k_is)
      case bag =>
        refine' K12.df_mk KX G K12.b_bag ?a ?l ?c ?k
        (case a => k_is); (case l => k_is); (case c => k_is); (case k => k_is)
      case formula =>
        refine' K12.df_mk KX G K12.b_formula ?a ?l ?c ?k
        (case a => k_is); (case l => k_is); (case c => k_is); (case k => k_is)
      case count =>
        refine' K12.df_mk KX G K12.b_count ?a ?l ?c ?k
        (case a => k_is); (case l => k_is); (case c => k_is); (case k => k_is)
      case near =>
        refine' K12.df_mk KX G K12.b_near ?a ?l ?c ?k
        (case a => k_is); (case l => k_is); (case c => k_is); (case k => k_is)
      case pairs =>
        refine' K12.df_mk KX G K12.b_pairs ?a ?l ?c ?k
        (case a => k_is); (case l => k_is); (case c => k_is); (case k => k_is)
      case turn_over =>
        refine' K12.df_mk KX G K12.b_turn_over ?a ?l ?c ?k
        (case a => k_is); (case l => k_is); (case c => k_is); (case k => k_is)
      case table =>
        refine' K12.df_mk KX G K12.b_table ?a ?l ?c ?k
        (case a => k_is); (case l => k_is); (case c => k_is); (case k => k_is)
      case value =>
        refine' K12.df_mk KX G K12.b_value ?a ?l ?c ?k
        (case a => k_is); (case l => k_is); (case c => k_is); (case k => k_is)
      case small =>
        refine' K12.df_mk KX G K12.b_small ?a ?l ?c ?k
        (case a => k_is); (case l => k_is); (case c => k_is); (case k => k_is)
      case fits =>
        refine' K12.df_mk KX G K12.b_fits ?a ?l ?c ?k
        (case a => k_is); (case l => k_is); (case c => k_is); (case k => k_is)
      case placings =>
        refine' K12.df_mk KX G K12.b_placings ?a ?l ?c ?k
        (case a => k_is); (case l => k_is); (case c => k_is); (case k => k_is)
      case close =>
        refine' K12.df_mk KX G K12.b_close ?a ?l ?c ?k
        (case a => k_is); (case l => k_is); (case c => k_is); (case k => k_is)
      case marks =>
        refine' K12.df_mk KX G K12.b_marks ?a ?l ?c ?k
        (case a => k_is); (case l => k_is); (case c => k_is); (case k => k_is)
      case allMarks =>
        refine' K12.df_mk KX G K12.b_allMarks ?a ?l ?c ?k
        (case a => k_is); (case l => k_is); (case c => k_is); (case k => k_is)
      case lots =>
        refine' K12.df_mk KX G K12.b_lots ?a ?l ?c ?k
        (case a => k_is); (case l => k_is); (case c => k_is); (case k => k_is)
      case lclash =>
        refine' K12.df_mk KX G K12.b_lclash ?a ?l ?c ?k
        (case a => k_is); (case l => k_is); (case c => k_is); (case k => k_is)
      case facts =>
        refine' K12.df_mk KX G K12.b_facts ?a ?l ?c ?k
        (case a => k_is); (case l => k_is); (case c => k_is); (case k => k_is)
      case good =>
        refine' K12.df_mk KX G K12.b_good ?a ?l ?c ?k
        (case a => k_is); (case l => k_is); (case c => k_is); (case k => k_is)
      case root =>
        refine' K12.dm_mk K12.b_root ?a ?i ?l ?c ?k
        (case a => k_is); (case i => k_is); (case l => k_is); (case c => k_is); (case k => k_is)
      case join =>
        refine' K12.dm_mk K12.b_join ?a ?i ?l ?c ?k
        (case a => k_is); (case i => k_is); (case l => k_is); (case c => k_is); (case k => k_is)
      case told =>
        refine' K12.dm_mk K12.b_told ?a ?i ?l ?c ?k
        (case a => k_is); (case i => k_is); (case l => k_is); (case c => k_is); (case k => k_is)
      case rooted =>
        refine' K12.dm_mk K12.b_rooted ?a ?i ?l ?c ?k
        (case a => k_is); (case i => k_is); (case l => k_is); (case c => k_is); (case k => k_is)
      case isJ =>
        refine' K12.dm_mk K12.b_isJ ?a ?i ?l ?c ?k
        (case a => k_is); (case i => k_is); (case l => k_is); (case c => k_is); (case k => k_is)
      case settle =>
        refine' K12.dm_mk K12.b_settle ?a ?i ?l ?c ?k
        (case a => k_is); (case i => k_is); (case l => k_is); (case c => k_is); (case k => k_is)
      case ci =>
        refine' K12.di_mk KX G K12.b_ci ?g ?m ?kc ?a ?i ?l ?c ?k
        (case g => k_is); (case m => k_is); (case kc => k_is); (case a => k_is); (case i => k_is); (case l => k_is); (case c => k_is); (case k => k_is)
      case numbered =>
        refine' K12.dm_mk K12.b_numbered ?a ?i ?l ?c ?k
        (case a => k_is); (case i => k_is); (case l => k_is); (case c => k_is); (case k => k_is)
      case of =>
        refine' K12.df_mk KX G K12.b_of ?a ?l ?c ?k
        (case a => k_is); (case l => k_is); (case c => k_is); (case k => k_is)
      case one =>
        refine' K12.df_mk KX G K12.b_one ?a ?l ?c ?k
        (case a => k_is); (case l => k_is); (case c => k_is); (case k => k_is)
      case torn =>
        refine' K12.df_mk KX G K12.b_torn ?a ?l ?c ?k
        (case a => k_is); (case l => k_is); (case c => k_is); (case k => k_is)
      case clash =>
        refine' K12.df_mk KX G K12.b_clash ?a ?l ?c ?k
        (case a => k_is); (case l => k_is); (case c => k_is); (case k => k_is)
      case closed =>
        refine' K12.df_mk KX G K12.b_closed ?a ?l ?c ?k
        (case a => k_is); (case l => k_is); (case c => k_is); (case k => k_is)
      case third =>
        refine' K12.dm_mk K12.b_third ?a ?i ?l ?c ?k
        (case a => k_is); (case i => k_is); (case l => k_is); (case c => k_is); (case k => k_is)
      case isName =>
        refine' K12.df_mk KX G K12.b_isName ?a ?l ?c ?k
        (case a => k_is); (case l => k_is); (case c => k_is); (case k => k_is)
      case thing =>
        refine' K12.dm_mk K12.b_thing ?a ?i ?l ?c ?k
        (case a => k_is); (case i => k_is); (case l => k_is); (case c => k_is); (case k => k_is)
      case made =>
        refine' K12.df_mk KX G K12.b_made ?a ?l ?c ?k
        (case a => k_is); (case l => k_is); (case c => k_is); (case k => k_is)
      case rule =>
        refine' K12.df_mk KX G K12.b_rule ?a ?l ?c ?k
        (case a => k_is); (case l => k_is); (case c => k_is); (case k => k_is)
      case entry =>
        refine' K12.df_mk KX G K12.b_entry ?a ?l ?c ?k
        (case a => k_is); (case l => k_is); (case c => k_is); (case k => k_is)
      case shorter =>
        refine' K12.df_mk KX G K12.b_shorter ?a ?l ?c ?k
        (case a => k_is); (case l => k_is); (case c => k_is); (case k => k_is)
      case first =>
        refine' K12.df_mk KX G K12.b_first ?a ?l ?c ?k
        (case a => k_is); (case l => k_is); (case c => k_is); (case k => k_is)
      case steps =>
        refine' K12.df_mk KX G K12.b_steps ?a ?l ?c ?k
        (case a => k_is); (case l => k_is); (case c => k_is); (case k => k_is)
      case same =>
        refine' K12.df_mk KX G K12.b_same ?a ?l ?c ?k
        (case a => k_is); (case l => k_is); (case c => k_is); (case k => k_is)
      case int =>
        refine' K12.df_mk KX G K12.b_int ?a ?l ?c ?k
        (case a => k_is); (case l => k_is); (case c => k_is); (case k => k_is)
      case tup =>
        refine' K12.df_mk KX G K12.b_tup ?a ?l ?c ?k
        (case a => k_is); (case l => k_is); (case c => k_is); (case k => k_is)
      case things2 =>
        refine' K12.df_mk KX G K12.b_things2 ?a ?l ?c ?k
        (case a => k_is); (case l => k_is); (case c => k_is); (case k => k_is)
      case terr =>
        refine' K12.df_mk KX G K12.b_terr ?a ?l ?c ?k
        (case a => k_is); (case l => k_is); (case c => k_is); (case k => k_is)
      case perr =>
        refine' K12.df_mk KX G K12.b_perr ?a ?l ?c ?k
        (case a => k_is); (case l => k_is); (case c => k_is); (case k => k_is)
      case werr =>
        refine' K12.df_mk KX G K12.b_werr ?a ?l ?c ?k
        (case a => k_is); (case l => k_is); (case c => k_is); (case k => k_is)
      case ri =>
        refine' K12.di_mk KX G K12.b_ri ?g ?m ?kc ?a ?i ?l ?c ?k
        (case g => k_is); (case m => k_is); (case kc => k_is); (case a => k_is); (case i => k_is); (case l => k_is); (case c => k_is); (case k => k_is)
      case free =>
        refine' K12.dm_mk K12.b_free ?a ?i ?l ?c ?k
        (case a => k_is); (case i => k_is); (case l => k_is); (case c => k_is); (case k => k_is)
      case put =>
        refine' K12.dm_mk K12.b_put ?a ?i ?l ?c ?k
        (case a => k_is); (case i => k_is); (case l => k_is); (case c => k_is); (case k => k_is)
      case chain =>
        refine' K12.dm_mk K12.b_chain ?a ?i ?l ?c ?k
        (case a => k_is); (case i => k_is); (case l => k_is); (case c => k_is); (case k => k_is)
      case turn =>
        refine' K12.dm_mk K12.b_turn ?a ?i ?l ?c ?k
        (case a => k_is); (case i => k_is); (case l => k_is); (case c => k_is); (case k => k_is)
      case add =>
        refine' K12.dm_mk K12.b_add ?a ?i ?l ?c ?k
        (case a => k_is); (case i => k_is); (case l => k_is); (case c => k_is); (case k => k_is)
      case rounds =>
        refine' K12.df_mk KX G K12.b_rounds ?a ?l ?c ?k
        (case a => k_is); (case l => k_is); (case c => k_is); (case k => k_is)
      case counts =>
        refine' K12.df_mk KX G K12.b_counts ?a ?l ?c ?k
        (case a => k_is); (case l => k_is); (case c => k_is); (case k => k_is)
      case lacking =>
        refine' K12.df_mk KX G K12.b_lacking ?a ?l ?c ?k
        (case a => k_is); (case l => k_is); (case c => k_is); (case k => k_is)
      case widened =>
        refine' K12.df_mk KX G K12.b_widened ?a ?l ?c ?k
        (case a => k_is); (case l => k_is); (case c => k_is); (case k => k_is)
      case lengthened =>
        refine' K12.df_mk KX G K12.b_lengthened ?a ?l ?c ?k
        (case a => k_is); (case l => k_is); (case c => k_is); (case k => k_is)
      case completed =>
        refine' K12.df_mk KX G K12.b_completed ?a ?l ?c ?k
        (case a => k_is); (case l => k_is); (case c => k_is); (case k => k_is)
      case block =>
        refine' K12.df_mk KX G K12.b_block ?a ?l ?c ?k
        (case a => k_is); (case l => k_is); (case c => k_is); (case k => k_is)
      case world =>
        refine' K12.df_mk KX G K12.b_world ?a ?l ?c ?k
        (case a => k_is); (case l => k_is); (case c => k_is); (case k => k_is)
      case parted =>
        refine' K12.df_mk KX G K12.b_parted ?a ?l ?c ?k
        (case a => k_is); (case l => k_is); (case c => k_is); (case k => k_is)
