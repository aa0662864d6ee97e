import PyProof.Rows.All
import Wide.All
import OpenK.AllK
import Wide.FinOn
import HandS.ForMost
import HandS.Defaults
import HandS.Exc
import HandS.ExcOwn
import HandS.IsInst
import HandS.Star
import HandS.DictComp
import HandS.HeadHook1
import HandS.HeadHook2
import HandS.HeadHook3
import HandS.WordsExc
import HandS.Zip
import PySem.Challenge.RW_wheretrue_k83_whole_walks_of_a_sheet
import KE.KExcSuper
import HandS.SlotsOwn
import HandS.HotCalls
import HandS.ExcIs
import HandS.Iter
import HandS.Head0
import HandS.Head1
import HandS.Head2
import HandS.HeadEnd
import HandS.HeadHook4
set_option autoImplicit false
namespace Sh
/-! ## Conditions, plain -/
inductive Cnd (ν : Type) where
  | sg (p : List Int) (s : ν)
  | sm (p q : List Int) (s : ν)
  | us (n : ν)
  | nt (c : Cnd ν)
  | bn (o : Bool) (a b : Cnd ν)
namespace Cnd
variable {ν : Type}
def parts : Cnd ν → List (Cnd ν)
  | nt c => [c]
  | bn _ a b => [a, b]
  | _ => []
def leaf : Cnd ν → Bool
  | nt _ => false
  | bn _ _ _ => false
  | _ => true
def leaves : Cnd ν → List (Cnd ν)
  | nt c => leaves c
  | bn _ a b => leaves a ++ leaves b
  | c => [c]
def us? : Cnd ν → Option ν
  | us n => some n
  | _ => none
def isSg : Cnd ν → Bool
  | sg _ _ => true
  | _ => false
def isSm : Cnd ν → Bool
  | sm _ _ _ => true
  | _ => false
def used (c : Cnd ν) : List ν := c.leaves.filterMap us?
def depth : Cnd ν → Nat
  | nt c => depth c + 1
  | bn _ a b => max (depth a) (depth b) + 1
  | _ => 0
def nsg (c : Cnd ν) : Nat := c.leaves.countP isSg
def nsm (c : Cnd ν) : Nat := c.leaves.countP isSm
def fill (f : ν → Option (Cnd ν)) : Cnd ν → Cnd ν
  | us n => (f n).getD (us n)
  | nt c => nt (fill f c)
  | bn o a b => bn o (fill f a) (fill f b)
  | c => c
theorem leaves_leaf {c : Cnd ν} (h : c.leaf = true) : c.leaves = [c] := by cases c <;> first | rfl | cases h
theorem leaves_node {c : Cnd ν} (h : c.leaf = false) : c.leaves = c.parts.flatMap leaves := by
  cases c <;> first | (cases h; done) | simp [leaves, parts]
theorem leaf_of_mem : ∀ {c l : Cnd ν}, l ∈ c.leaves → l.leaf = true
  | nt c, l, h => leaf_of_mem (c := c) h
  | bn _ a b, l, h => by
    rcases List.mem_append.mp h with h | h
    · exact leaf_of_mem h
    · exact leaf_of_mem h
  | sg _ _, l, h => by rw [List.mem_singleton.mp h]; rfl
  | sm _ _ _, l, h => by rw [List.mem_singleton.mp h]; rfl
  | us _, l, h => by rw [List.mem_singleton.mp h]; rfl
theorem parts_depth {c x : Cnd ν} (h : x ∈ c.parts) : x.depth < c.depth := by
  cases c with
  | nt c => rw [List.mem_singleton.mp h]; exact Nat.lt_succ_self _
  | bn o a b =>
    have h' : x = a ∨ x = b := by simpa [parts] using h
    rcases h' with rfl | rfl
    · exact Nat.lt_succ_of_le (Nat.le_max_left _ _)
    · exact Nat.lt_succ_of_le (Nat.le_max_right _ _)
  | _ => cases h
theorem depth_leaf {c : Cnd ν} (h : c.leaf = true) : c.depth = 0 := by cases c <;> first | rfl | cases h
theorem parts_leaf {c : Cnd ν} (h : c.leaf = true) : c.parts = [] := by cases c <;> first | rfl | cases h
theorem parts_len {c : Cnd ν} : c.parts.length ≤ 2 := by cases c <;> simp [parts]
theorem parts_pos {c : Cnd ν} (h : c.leaf = false) : 0 < c.parts.length := by cases c <;> first | (cases h; done) | simp [parts]
theorem depth_node {c : Cnd ν} (h : c.leaf = false) {m : Nat} (h1 : m ∈ c.parts.map depth) (h2 : ∀ n ∈ c.parts.map depth, n ≤ m) : c.depth = 1 + m := by
  cases c with
  | nt c =>
    have e : m = depth c := by simpa [parts] using h1
    rw [e, Nat.add_comm]; rfl
  | bn o a b =>
    have e : m = depth a ∨ m = depth b := by simpa [parts] using h1
    have ha := h2 (depth a) (by simp [parts])
    have hb := h2 (depth b) (by simp [parts])
    show max (depth a) (depth b) + 1 = 1 + m
    omega
  | _ => cases h
theorem leaves_pos : ∀ c : Cnd ν, 0 < c.leaves.length
  | nt c => leaves_pos c
  | bn _ a b => by have := leaves_pos a; simp only [leaves, List.length_append]; omega
  | sg _ _ => Nat.one_pos
  | sm _ _ _ => Nat.one_pos
  | us _ => Nat.one_pos
theorem part_leaves {c x : Cnd ν} (h : x ∈ c.parts) {l : Cnd ν} (hl : l ∈ x.leaves) : l ∈ c.leaves := by
  cases c with
  | nt c => rw [List.mem_singleton.mp h] at hl; exact hl
  | bn o a b =>
    have h' : x = a ∨ x = b := by simpa [parts] using h
    rcases h' with rfl | rfl
    · exact List.mem_append_left _ hl
    · exact List.mem_append_right _ hl
  | _ => cases h
theorem part_leaves_len {c x : Cnd ν} (h : x ∈ c.parts) : x.leaves.length ≤ c.leaves.length := by
  cases c with
  | nt c => rw [List.mem_singleton.mp h]; exact Nat.le_refl _
  | bn o a b =>
    have h' : x = a ∨ x = b := by simpa [parts] using h
    simp only [leaves, List.length_append]
    rcases h' with rfl | rfl <;> omega
  | _ => cases h
theorem mem_used {c : Cnd ν} {n : ν} : n ∈ c.used ↔ us n ∈ c.leaves := by
  unfold used
  rw [List.mem_filterMap]
  constructor
  · rintro ⟨l, h, e⟩
    cases l <;> first | (cases e; done) | (cases e; exact h)
  · intro h
    exact ⟨_, h, rfl⟩
theorem part_used {c x : Cnd ν} (h : x ∈ c.parts) {n : ν} (hn : n ∈ x.used) : n ∈ c.used := mem_used.mpr (part_leaves h (mem_used.mp hn))
theorem used_len (c : Cnd ν) : c.used.length ≤ c.leaves.length := List.length_filterMap_le ..
/-! ### filling -/
theorem fill_parts (f : ν → Option (Cnd ν)) {c : Cnd ν} (h : c.leaf = false) : (fill f c).parts = c.parts.map (fill f) := by cases c <;> first | (cases h; done) | rfl
theorem fill_leaf (f : ν → Option (Cnd ν)) {c : Cnd ν} (h : c.leaf = false) : (fill f c).leaf = false := by cases c <;> first | (cases h; done) | rfl
theorem fill_atom (f : ν → Option (Cnd ν)) {c : Cnd ν} (h : c.leaf = true) (h2 : us? c = none) : fill f c = c := by cases c <;> first | (cases h; done) | (cases h2; done) | rfl
theorem fill_none : ∀ c : Cnd ν, fill (fun _ => none) c = c
  | nt c => by rw [fill, fill_none c]
  | bn _ a b => by rw [fill, fill_none a, fill_none b]
  | sg _ _ => rfl
  | sm _ _ _ => rfl
  | us _ => rfl
theorem fill_congr {f g : ν → Option (Cnd ν)} : ∀ {c : Cnd ν}, (∀ n ∈ c.used, f n = g n) → fill f c = fill g c
  | nt c, h => by rw [fill, fill, fill_congr (c := c) h]
  | bn _ a b, h => by
    rw [fill, fill, fill_congr (c := a) fun n hn => h n (mem_used.mpr (List.mem_append_left _ (mem_used.mp hn))), fill_congr (c := b) fun n hn => h n (mem_used.mpr (List.mem_append_right _ (mem_used.mp hn)))]
  | sg _ _, _ => rfl
  | sm _ _ _, _ => rfl
  | us n, h => by rw [fill, fill, h n (mem_used.mpr (List.mem_singleton.mpr rfl))]
theorem leaves_fill (f : ν → Option (Cnd ν)) : ∀ c : Cnd ν, (fill f c).leaves = c.leaves.flatMap fun l => (fill f l).leaves
  | nt c => leaves_fill f c
  | bn _ a b => by
    show (fill f a).leaves ++ (fill f b).leaves = (a.leaves ++ b.leaves).flatMap _
    rw [leaves_fill f a, leaves_fill f b, List.flatMap_append]
  | sg _ _ => by simp [leaves, fill]
  | sm _ _ _ => by simp [leaves, fill]
  | us _ => by simp [leaves]
/-- a leaf of what comes: of the condition, or of what a name stands for -/
theorem mem_fill {f : ν → Option (Cnd ν)} {c l : Cnd ν} (h : l ∈ (fill f c).leaves) : (l ∈ c.leaves ∧ ∀ n, l = us n → f n = none) ∨ ∃ n x, n ∈ c.used ∧ f n = some x ∧ l ∈ x.leaves := by
  rw [leaves_fill] at h
  obtain ⟨l0, h0, h1⟩ := List.mem_flatMap.mp h
  have hl := leaf_of_mem h0
  cases l0 with
  | us n =>
    cases e : f n with
    | none =>
      rw [fill, e] at h1
      have e2 : l = us n := List.mem_singleton.mp h1
      subst e2
      exact .inl ⟨h0, fun m hm => by cases hm; exact e⟩
    | some x =>
      rw [fill, e] at h1
      exact .inr ⟨n, x, mem_used.mpr h0, e, h1⟩
  | sg p s =>
    have e2 : l = sg p s := List.mem_singleton.mp h1
    subst e2
    exact .inl ⟨h0, fun m hm => by cases hm⟩
  | sm p q s =>
    have e2 : l = sm p q s := List.mem_singleton.mp h1
    subst e2
    exact .inl ⟨h0, fun m hm => by cases hm⟩
  | nt _ => cases hl
  | bn _ _ _ => cases hl
theorem flatMap_len {α β : Type} {f : α → List β} {M : Nat} : ∀ {l : List α}, (∀ a ∈ l, (f a).length ≤ M) → (l.flatMap f).length ≤ l.length * M
  | [], _ => by simp
  | a :: l, h => by
    have h1 := h a List.mem_cons_self
    have h2 := flatMap_len (l := l) fun b hb => h b (List.mem_cons_of_mem _ hb)
    rw [List.flatMap_cons, List.length_append, List.length_cons, Nat.succ_mul]
    omega
theorem fill_len {f : ν → Option (Cnd ν)} {c : Cnd ν} {M : Nat} (hM : 1 ≤ M) (h : ∀ n ∈ c.used, ∀ x, f n = some x → x.leaves.length ≤ M) : (fill f c).leaves.length ≤ c.leaves.length * M := by
  rw [leaves_fill]
  refine flatMap_len fun l hl => ?_
  cases l with
  | us n =>
    cases e : f n with
    | none => rw [fill, e]; exact hM
    | some x => rw [fill, e]; exact h n (mem_used.mpr hl) x e
  | nt _ => exact absurd (leaf_of_mem hl) (by simp [leaf])
  | bn _ _ _ => exact absurd (leaf_of_mem hl) (by simp [leaf])
  | sg _ _ => exact hM
  | sm _ _ _ => exact hM
theorem fill_depth {f : ν → Option (Cnd ν)} {M : Nat} : ∀ {c : Cnd ν}, (∀ n ∈ c.used, ∀ x, f n = some x → x.depth ≤ M) → (fill f c).depth ≤ c.depth + M
  | nt c, h => by
    have := fill_depth (c := c) h
    show (fill f c).depth + 1 ≤ c.depth + 1 + M
    omega
  | bn _ a b, h => by
    have h1 := fill_depth (c := a) fun n hn => h n (mem_used.mpr (List.mem_append_left _ (mem_used.mp hn)))
    have h2 := fill_depth (c := b) fun n hn => h n (mem_used.mpr (List.mem_append_right _ (mem_used.mp hn)))
    show max (fill f a).depth (fill f b).depth + 1 ≤ max a.depth b.depth + 1 + M
    omega
  | us n, h => by
    cases e : f n with
    | none => rw [fill, e]; exact Nat.zero_le _
    | some x =>
      rw [fill, e]
      have := h n (mem_used.mpr (List.mem_singleton.mpr rfl)) x e
      show x.depth ≤ 0 + M
      omega
  | sg _ _, _ => Nat.zero_le _
  | sm _ _ _, _ => Nat.zero_le _
end Cnd
open Cnd
/-! ## Sheets, plain -/
inductive Err where
  | deep | size | unk | circ | inuse | badname
  deriving DecidableEq
section
variable {ν : Type} [DecidableEq ν]
abbrev Ps (ν : Type) := List (ν × Cnd ν)
def cin (ps : Ps ν) (n : ν) : Option (Cnd ν) := (ps.find? fun p => decide (p.1 = n)).map (·.2)
def nms (ps : Ps ν) : List ν := ps.map (·.1)
theorem cin_nil (n : ν) : cin ([] : Ps ν) n = none := rfl
theorem cin_cons (p : ν × Cnd ν) (ps : Ps ν) (n : ν) : cin (p :: ps) n = if p.1 = n then some p.2 else cin ps n := by
  unfold cin
  by_cases h : p.1 = n
  · rw [List.find?_cons_of_pos (by simpa using h), if_pos h]; rfl
  · rw [List.find?_cons_of_neg (by simpa using h), if_neg h]
theorem cin_mem : ∀ {ps : Ps ν} {n : ν} {c : Cnd ν}, cin ps n = some c → (n, c) ∈ ps
  | [], _, _, h => by cases h
  | p :: ps, n, c, h => by
    rw [cin_cons] at h
    by_cases e : p.1 = n
    · rw [if_pos e] at h
      cases h; subst e
      exact List.mem_cons_self
    · rw [if_neg e] at h
      exact List.mem_cons_of_mem _ (cin_mem h)
theorem cin_some : ∀ {ps : Ps ν} {n : ν}, n ∈ nms ps ↔ ∃ c, cin ps n = some c
  | [], n => ⟨fun h => (by cases h), fun ⟨_, h⟩ => (by cases h)⟩
  | p :: ps, n => by
    rw [cin_cons]
    by_cases e : p.1 = n
    · rw [if_pos e]
      exact ⟨fun _ => ⟨_, rfl⟩, fun _ => by subst e; exact List.mem_cons_self⟩
    · rw [if_neg e]
      refine ⟨fun h => cin_some.mp ?_, fun h => List.mem_cons_of_mem _ (cin_some.mpr h)⟩
      rcases List.mem_cons.mp h with h | h
      · exact absurd h.symm e
      · exact h
theorem cin_none {ps : Ps ν} {n : ν} : cin ps n = none ↔ n ∉ nms ps := by
  constructor
  · intro h hn
    obtain ⟨c, e⟩ := cin_some.mp hn
    rw [h] at e; cases e
  · intro h
    cases e : cin ps n with
    | none => rfl
    | some c => exact absurd (cin_some.mpr ⟨c, e⟩) h
theorem cin_of_mem : ∀ {ps : Ps ν} {n : ν} {c : Cnd ν}, (nms ps).Nodup → (n, c) ∈ ps → cin ps n = some c
  | [], _, _, _, h => by cases h
  | p :: ps, n, c, nd, h => by
    rw [cin_cons]
    have nd' : (p.1 :: nms ps).Nodup := nd
    rcases List.mem_cons.mp h with e | h
    · rw [← e, if_pos rfl]
    · have hn : n ∈ nms ps := List.mem_map.mpr ⟨_, h, rfl⟩
      have ne : p.1 ≠ n := fun e => (List.nodup_cons.mp nd').1 (e ▸ hn)
      rw [if_neg ne]
      exact cin_of_mem (List.nodup_cons.mp nd').2 h
/-! ### wholes -/
def wholeF (ps : Ps ν) : Nat → ν → Cnd ν
  | 0, n => us n
  | k + 1, n => match cin ps n with
    | none => us n
    | some c => fill (fun m => some (wholeF ps k m)) c
def leadsF (ps : Ps ν) (n : ν) : Nat → ν → Bool
  | 0, _ => false
  | k + 1, s => decide (s = n) || match cin ps s with
    | none => false
    | some c => c.used.any (leadsF ps n k)
def wh (ps : Ps ν) (n : ν) : Cnd ν := wholeF ps 64 n
def leads (ps : Ps ν) (n s : ν) : Bool := leadsF ps n 64 s
/-- r falls from each name to what it uses, which is there -/
def Rk (ps : Ps ν) (r : ν → Nat) : Prop := ∀ n c, cin ps n = some c → ∀ u ∈ c.used, r u < r n ∧ ∃ c', cin ps u = some c'
theorem wholeF_st {ps : Ps ν} {r : ν → Nat} (R : Rk ps r) : ∀ (k k' : Nat) (n : ν), (∃ c, cin ps n = some c) → r n < k → r n < k' → wholeF ps k n = wholeF ps k' n
  | 0, _, n, _, h, _ => absurd h (Nat.not_lt_zero _)
  | _ + 1, 0, n, _, _, h => absurd h (Nat.not_lt_zero _)
  | k + 1, k' + 1, n, ⟨c, e⟩, h1, h2 => by
    rw [wholeF, wholeF, e]
    refine fill_congr fun u hu => ?_
    obtain ⟨hr, hc⟩ := R n c e u hu
    rw [wholeF_st R k k' u hc (by omega) (by omega)]
theorem wh_eq {ps : Ps ν} {r : ν → Nat} (R : Rk ps r) {n : ν} {c : Cnd ν} (e : cin ps n = some c) (h : r n < 64) : wh ps n = fill (fun m => some (wh ps m)) c := by
  show wholeF ps (63 + 1) n = _
  rw [wholeF, e]
  refine fill_congr fun u hu => ?_
  obtain ⟨hr, hc⟩ := R n c e u hu
  rw [wh, wholeF_st R 63 64 u hc (by omega) (by omega)]
theorem leadsF_st {ps : Ps ν} {r : ν → Nat} {n : ν} (R : Rk ps r) : ∀ (k k' : Nat) (s : ν), (∃ c, cin ps s = some c) → r s < k → r s < k' → leadsF ps n k s = leadsF ps n k' s
  | 0, _, s, _, h, _ => absurd h (Nat.not_lt_zero _)
  | _ + 1, 0, s, _, _, h => absurd h (Nat.not_lt_zero _)
  | k + 1, k' + 1, s, ⟨c, e⟩, h1, h2 => by
    rw [leadsF, leadsF, e]
    have key : c.used.any (leadsF ps n k) = c.used.any (leadsF ps n k') := by
      rw [Bool.eq_iff_iff, List.any_eq_true, List.any_eq_true]
      constructor
      · rintro ⟨u, hu, q⟩
        obtain ⟨hr, hc⟩ := R s c e u hu
        exact ⟨u, hu, by rw [← leadsF_st R k k' u hc (by omega) (by omega)]; exact q⟩
      · rintro ⟨u, hu, q⟩
        obtain ⟨hr, hc⟩ := R s c e u hu
        exact ⟨u, hu, by rw [leadsF_st R k k' u hc (by omega) (by omega)]; exact q⟩
    show (decide (s = n) || c.used.any (leadsF ps n k)) = (decide (s = n) || c.used.any (leadsF ps n k'))
    rw [key]
theorem leads_eq {ps : Ps ν} {r : ν → Nat} (R : Rk ps r) {n s : ν} {c : Cnd ν} (e : cin ps s = some c) (h : r s < 64) : leads ps n s = (decide (s = n) || c.used.any (leads ps n)) := by
  show leadsF ps n (63 + 1) s = _
  rw [leadsF, e]
  have key : c.used.any (leadsF ps n 63) = c.used.any (leads ps n) := by
    rw [Bool.eq_iff_iff, List.any_eq_true, List.any_eq_true]
    constructor
    · rintro ⟨u, hu, q⟩
      obtain ⟨hr, hc⟩ := R s c e u hu
      exact ⟨u, hu, by rw [leads, ← leadsF_st R 63 64 u hc (by omega) (by omega)]; exact q⟩
    · rintro ⟨u, hu, q⟩
      obtain ⟨hr, hc⟩ := R s c e u hu
      exact ⟨u, hu, by rw [leadsF_st R 63 64 u hc (by omega) (by omega)]; exact q⟩
  show (decide (s = n) || c.used.any (leadsF ps n 63)) = _
  rw [key]
theorem leads_self (ps : Ps ν) (n : ν) : leads ps n n = true := by
  show leadsF ps n (63 + 1) n = true
  rw [leadsF, decide_eq_true rfl, Bool.true_or]
/-! ### ranks are small -/
theorem countP_lt {α : Type} {p q : α → Bool} (hpq : ∀ x, p x = true → q x = true) : ∀ {l : List α} {a : α}, a ∈ l → p a = false → q a = true → l.countP p < l.countP q
  | [], a, h, _, _ => by cases h
  | b :: l, a, h, h1, h2 => by
    have mono : l.countP p ≤ l.countP q := List.countP_mono_left fun x _ => hpq x
    rcases List.mem_cons.mp h with e | h
    · subst e
      rw [List.countP_cons_of_neg (by rw [h1]; exact Bool.false_ne_true), List.countP_cons_of_pos h2]
      omega
    · have ih := countP_lt hpq h h1 h2
      cases hb : p b with
      | true => rw [List.countP_cons_of_pos hb, List.countP_cons_of_pos (hpq b hb)]; omega
      | false =>
        rw [List.countP_cons_of_neg (by rw [hb]; exact Bool.false_ne_true)]
        cases hq : q b with
        | true => rw [List.countP_cons_of_pos hq]; omega
        | false => rw [List.countP_cons_of_neg (by rw [hq]; exact Bool.false_ne_true)]; omega
theorem rk_small {ps : Ps ν} {r : ν → Nat} (R : Rk ps r) : ∃ r', Rk ps r' ∧ ∀ n, r' n ≤ ps.length := by
  refine ⟨fun n => ps.countP fun p => decide (r p.1 < r n), fun n c e u hu => ?_, fun n => List.countP_le_length⟩
  obtain ⟨hr, c', hc⟩ := R n c e u hu
  refine ⟨?_, c', hc⟩
  refine countP_lt (fun x hx => ?_) (cin_mem hc) ?_ ?_
  · have := of_decide_eq_true hx
    exact decide_eq_true (by omega)
  · exact decide_eq_false (Nat.lt_irrefl _)
  · exact decide_eq_true hr
/-! ### putting -/
def putP (ps : Ps ν) (n : ν) (c : Cnd ν) : Ps ν := match cin ps n with
  | none => ps ++ [(n, c)]
  | some _ => ps.map fun p => (p.1, if p.1 = n then c else p.2)
theorem cin_append (ps : Ps ν) (n m : ν) (c : Cnd ν) : cin ps n = none → cin (ps ++ [(n, c)]) m = if m = n then some c else cin ps m := by
  induction ps with
  | nil =>
    intro _
    show cin [(n, c)] m = _
    rw [cin_cons]
    by_cases e : m = n
    · rw [if_pos e, if_pos e.symm]
    · rw [if_neg e, if_neg (Ne.symm e)]
  | cons p ps ih =>
    intro h
    rw [cin_cons] at h
    have hp : ¬ p.1 = n := fun e => by rw [if_pos e] at h; cases h
    rw [if_neg hp] at h
    rw [List.cons_append, cin_cons, cin_cons, ih h]
    by_cases e : p.1 = m
    · rw [if_pos e, if_pos e, if_neg (fun z => hp (e.trans z))]
    · rw [if_neg e, if_neg e]
theorem cin_map (ps : Ps ν) (n m : ν) (c : Cnd ν) : cin (ps.map fun p => (p.1, if p.1 = n then c else p.2)) m = (cin ps m).map fun d => if m = n then c else d := by
  induction ps with
  | nil => rfl
  | cons p ps ih =>
    rw [List.map_cons, cin_cons, cin_cons, ih]
    by_cases e : p.1 = m
    · rw [if_pos e, if_pos e, Option.map_some, e]
    · rw [if_neg e, if_neg e]
theorem cin_put (ps : Ps ν) (n m : ν) (c : Cnd ν) : cin (putP ps n c) m = if m = n then some c else cin ps m := by
  unfold putP
  cases h : cin ps n with
  | none => exact cin_append ps n m c h
  | some d =>
    show cin (ps.map fun p => (p.1, if p.1 = n then c else p.2)) m = _
    rw [cin_map]
    by_cases e : m = n
    · rw [if_pos e, e, h, Option.map_some, if_pos rfl]
    · rw [if_neg e]
      cases cin ps m with
      | none => rfl
      | some d => rw [Option.map_some, if_neg e]
theorem nms_put (ps : Ps ν) (n : ν) (c : Cnd ν) : nms (putP ps n c) = match cin ps n with
  | none => nms ps ++ [n]
  | some _ => nms ps := by
  unfold putP
  cases h : cin ps n with
  | none => simp [nms]
  | some d => simp [nms, Function.comp_def]
theorem le_foldr_max {l : List Nat} {a : Nat} (h : a ∈ l) : a ≤ l.foldr max 0 := by
  induction l with
  | nil => cases h
  | cons b l ih =>
    rw [List.foldr_cons]
    rcases List.mem_cons.mp h with e | h
    · subst e; exact Nat.le_max_left _ _
    · exact Nat.le_trans (ih h) (Nat.le_max_right _ _)
theorem rk_put {ps : Ps ν} {r : ν → Nat} (R : Rk ps r) (hb : ∀ n, r n < 64) {n : ν} {c : Cnd ν} (hu : ∀ u ∈ c.used, ∃ d, cin ps u = some d) (hl : ∀ u ∈ c.used, leads ps n u = false) : ∃ r', Rk (putP ps n c) r' := by
  refine ⟨fun m => if leads ps n m = true then r m + ((c.used.map r).foldr max 0 + 1) else r m, fun m d e u hm => ?_⟩
  rw [cin_put] at e
  have there : ∀ u, (∃ d, cin ps u = some d) → ∃ c', cin (putP ps n c) u = some c' := fun u ⟨d, hd⟩ => by
    rw [cin_put]
    by_cases z : u = n
    · exact ⟨c, by rw [if_pos z]⟩
    · exact ⟨d, by rw [if_neg z]; exact hd⟩
  by_cases z : m = n
  · rw [if_pos z] at e
    cases e
    subst z
    refine ⟨?_, there u (hu u hm)⟩
    show (if leads ps m u = true then _ else r u) < if leads ps m m = true then _ else _
    rw [if_neg (by rw [hl u hm]; exact Bool.false_ne_true), if_pos (leads_self ps m)]
    have := le_foldr_max (List.mem_map.mpr ⟨u, hm, rfl⟩ : r u ∈ c.used.map r)
    omega
  · rw [if_neg z] at e
    obtain ⟨hr, hd⟩ := R m d e u hm
    refine ⟨?_, there u hd⟩
    show (if leads ps n u = true then _ else r u) < if leads ps n m = true then _ else r m
    cases q : leads ps n u with
    | true =>
      have q2 : leads ps n m = true := by
        rw [leads_eq R e (hb m), Bool.or_eq_true]
        exact .inr (List.any_eq_true.mpr ⟨u, hm, q⟩)
      rw [if_pos rfl, if_pos q2]
      omega
    | false =>
      rw [if_neg Bool.false_ne_true]
      cases leads ps n m with
      | true => rw [if_pos rfl]; omega
      | false => rw [if_neg Bool.false_ne_true]; exact hr
/-! ### what is due -/
def due (c : Cnd ν) : Option Err := if 6 < c.depth then some .deep else if 6 < c.nsg ∨ 3 < c.nsm then some .size else none
def putR (ps : Ps ν) (n : ν) (c : Cnd ν) : Except Err (Ps ν) := match due c with
  | some e => .error e
  | none => if c.used.any (fun u => (cin ps u).isNone) = true then .error .unk else if c.used.any (leads ps n) = true then .error .circ else
    match (putP ps n c).findSome? (fun p => due (wh (putP ps n c) p.1)) with
    | some e => .error e
    | none => .ok (putP ps n c)
def remR (ps : Ps ν) (n : ν) : Except Err (Ps ν) := if (cin ps n).isNone = true then .error .unk else if ps.any (fun p => decide (n ∈ p.2.used)) = true then .error .inuse else .ok (ps.filter fun p => decide (p.1 ≠ n))
def ren (n o : ν) (m : ν) : Option (Cnd ν) := if m = n then some (us o) else none
def renP (ps : Ps ν) (n o : ν) : Ps ν := ps.map fun p => (if p.1 = n then o else p.1, fill (ren n o) p.2)
def renR (ps : Ps ν) (n o : ν) : Except Err (Ps ν) := if (cin ps n).isNone = true then .error .unk else if o ≠ n ∧ (cin ps o).isSome = true then .error .badname else .ok (renP ps n o)
/-! ### right sheets -/
structure COk (okL : Cnd ν → Prop) (B : Nat) (c : Cnd ν) : Prop where
  ok : ∀ l ∈ c.leaves, okL l
  dep : c.depth ≤ 2
  len : c.leaves.length ≤ B
structure Good (okL : Cnd ν → Prop) (S : List ν) (B : Nat) (ps : Ps ν) : Prop where
  nd : (nms ps).Nodup
  sub : ∀ n ∈ nms ps, n ∈ S
  cnd : ∀ p ∈ ps, COk okL B p.2
  rk : ∃ r, Rk ps r
theorem nodup_len {l S : List ν} (nd : l.Nodup) : (∀ x ∈ l, x ∈ S) → l.length ≤ S.length := by
  induction l generalizing S with
  | nil => intro _; exact Nat.zero_le _
  | cons a l ih =>
    intro h
    obtain ⟨h1, h2⟩ := List.nodup_cons.mp nd
    have hm : a ∈ S := h a List.mem_cons_self
    have q := ih (S := S.erase a) h2 fun x hx => (List.mem_erase_of_ne (fun e : x = a => h1 (by rw [← e]; exact hx))).mpr (h x (List.mem_cons_of_mem _ hx))
    rw [List.length_erase_of_mem hm] at q
    have : 0 < S.length := List.length_pos_of_mem hm
    rw [List.length_cons]
    omega
variable {okL : Cnd ν → Prop} {S : List ν} {B : Nat} {ps : Ps ν}
theorem Good.len (G : Good okL S B ps) : ps.length ≤ S.length := by
  have := nodup_len G.nd G.sub
  rwa [nms, List.length_map] at this
theorem Good.rks (G : Good okL S B ps) : ∃ r, Rk ps r ∧ ∀ n, r n ≤ ps.length := by
  obtain ⟨r, R⟩ := G.rk
  exact rk_small R
theorem Good.nil : Good okL S B ([] : Ps ν) := ⟨List.nodup_nil, fun _ h => (by cases h), fun _ h => (by cases h), fun _ => 0, fun _ _ h => by cases h⟩
theorem Good.at (G : Good okL S B ps) {n : ν} {c : Cnd ν} (e : cin ps n = some c) : COk okL B c := G.cnd _ (cin_mem e)
/-- wholes -/
theorem whole_facts (G : Good okL S B ps) {r : ν → Nat} (R : Rk ps r) (hb : ∀ n, r n < 64) (hB : 1 ≤ B) : ∀ (k : Nat) (n : ν) (c : Cnd ν), cin ps n = some c → r n < k →
    (wh ps n).depth ≤ 2 * k ∧ (wh ps n).leaves.length ≤ B ^ k ∧ ∀ l ∈ (wh ps n).leaves, okL l ∧ us? l = none
  | 0, n, c, _, h => absurd h (Nat.not_lt_zero _)
  | k + 1, n, c, e, h => by
    have C := G.at e
    rw [wh_eq R e (hb n)]
    have ih : ∀ u ∈ c.used, (wh ps u).depth ≤ 2 * k ∧ (wh ps u).leaves.length ≤ B ^ k ∧ ∀ l ∈ (wh ps u).leaves, okL l ∧ us? l = none := fun u hu => by
      obtain ⟨hr, d, hd⟩ := R n c e u hu
      exact whole_facts G R hb hB k u d hd (by omega)
    refine ⟨?_, ?_, fun l hl => ?_⟩
    · have := fill_depth (f := fun m => some (wh ps m)) (M := 2 * k) (c := c) fun u hu x hx => by cases hx; exact (ih u hu).1
      have := C.dep
      omega
    · have q := fill_len (f := fun m => some (wh ps m)) (c := c) (M := B ^ k) (Nat.one_le_pow _ _ hB) fun u hu x hx => by cases hx; exact (ih u hu).2.1
      refine Nat.le_trans q ?_
      rw [Nat.pow_succ, Nat.mul_comm]
      exact Nat.mul_le_mul_left _ C.len
    · rcases mem_fill hl with ⟨h1, h2⟩ | ⟨u, x, hu, hx, hl⟩
      · refine ⟨C.ok l h1, ?_⟩
        cases q : us? l with
        | none => rfl
        | some m =>
          have el : l = us m := by cases l <;> first | (cases q; done) | (cases q; rfl)
          exact absurd (h2 m el) (by simp)
      · cases hx
        exact (ih u hu).2.2 l hl
/-- putting -/
theorem putR_ok {n : ν} {c : Cnd ν} {ps' : Ps ν} (h : putR ps n c = .ok ps') : ps' = putP ps n c ∧ due c = none ∧ (∀ u ∈ c.used, ∃ d, cin ps u = some d) ∧ ∀ u ∈ c.used, leads ps n u = false := by
  unfold putR at h
  cases e : due c with
  | some x => rw [e] at h; cases h
  | none =>
    rw [e] at h
    dsimp only at h
    by_cases h1 : c.used.any (fun u => (cin ps u).isNone) = true
    · rw [if_pos h1] at h; cases h
    · rw [if_neg h1] at h
      by_cases h2 : c.used.any (leads ps n) = true
      · rw [if_pos h2] at h; cases h
      · rw [if_neg h2] at h
        refine ⟨?_, rfl, fun u hu => ?_, fun u hu => ?_⟩
        · cases q : (putP ps n c).findSome? (fun p => due (wh (putP ps n c) p.1)) with
          | some x => rw [q] at h; cases h
          | none => rw [q] at h; cases h; rfl
        · cases q : cin ps u with
          | some d => exact ⟨d, rfl⟩
          | none => exact absurd (List.any_eq_true.mpr ⟨u, hu, by rw [q]; rfl⟩) h1
        · cases q : leads ps n u with
          | false => rfl
          | true => exact absurd (List.any_eq_true.mpr ⟨u, hu, q⟩) h2
theorem Good.putP (G : Good okL S B ps) (hS : S.length ≤ 20) {n : ν} {c : Cnd ν} (hn : n ∈ S) (hc : COk okL B c) (hu : ∀ u ∈ c.used, ∃ d, cin ps u = some d) (hl : ∀ u ∈ c.used, leads ps n u = false) : Good okL S B (putP ps n c) := by
  obtain ⟨r, R, hr⟩ := G.rks
  have hlen := G.len
  refine ⟨?_, ?_, fun p hp => ?_, rk_put R (fun m => by have := hr m; omega) hu hl⟩
  · rw [nms_put]
    cases e : cin ps n with
    | some d => exact G.nd
    | none =>
      refine List.nodup_append.mpr ⟨G.nd, List.nodup_cons.mpr ⟨by simp, List.nodup_nil⟩, fun a ha b hb z => ?_⟩
      have : b = n := List.mem_singleton.mp hb
      subst this; subst z
      exact cin_none.mp e ha
  · rw [nms_put]
    intro m hm
    cases e : cin ps n with
    | some d => rw [e] at hm; exact G.sub m hm
    | none =>
      rw [e] at hm
      rcases List.mem_append.mp hm with h | h
      · exact G.sub m h
      · rw [List.mem_singleton.mp h]; exact hn
  · unfold Sh.putP at hp
    cases e : cin ps n with
    | none =>
      rw [e] at hp
      rcases List.mem_append.mp hp with h | h
      · exact G.cnd p h
      · rw [List.mem_singleton.mp h]; exact hc
    | some d =>
      rw [e] at hp
      obtain ⟨q, hq, rfl⟩ := List.mem_map.mp hp
      show COk okL B (if q.1 = n then c else q.2)
      by_cases z : q.1 = n
      · rw [if_pos z]; exact hc
      · rw [if_neg z]; exact G.cnd q hq
theorem Good.put (G : Good okL S B ps) (hS : S.length ≤ 20) {n : ν} {c : Cnd ν} {ps' : Ps ν} (hn : n ∈ S) (hc : COk okL B c) (h : putR ps n c = .ok ps') : Good okL S B ps' := by
  obtain ⟨rfl, _, hu, hl⟩ := putR_ok h
  exact G.putP hS hn hc hu hl
/-- removing -/
theorem cin_filter (ps : Ps ν) (n m : ν) : cin (ps.filter fun p => decide (p.1 ≠ n)) m = if m = n then none else cin ps m := by
  induction ps with
  | nil => rw [List.filter_nil, cin_nil]; split <;> rfl
  | cons p ps ih =>
    by_cases h : p.1 = n
    · rw [List.filter_cons_of_neg (by simpa using h), ih, cin_cons]
      by_cases e : m = n
      · rw [if_pos e, if_pos e]
      · rw [if_neg e, if_neg e, if_neg (fun z => e (z.symm.trans h))]
    · rw [List.filter_cons_of_pos (by simpa using h), cin_cons, cin_cons, ih]
      by_cases e : p.1 = m
      · rw [if_pos e, if_pos e, if_neg (fun z => h (e.trans z))]
      · rw [if_neg e, if_neg e]
theorem Good.rem (G : Good okL S B ps) {n : ν} {ps' : Ps ν} (h : remR ps n = .ok ps') : Good okL S B ps' := by
  unfold remR at h
  by_cases h1 : (cin ps n).isNone = true
  · rw [if_pos h1] at h; cases h
  rw [if_neg h1] at h
  by_cases h2 : ps.any (fun p => decide (n ∈ p.2.used)) = true
  · rw [if_pos h2] at h; cases h
  rw [if_neg h2] at h
  cases h
  have sl : (nms (ps.filter fun p => decide (p.1 ≠ n))).Sublist (nms ps) := (List.filter_sublist ..).map _
  refine ⟨G.nd.sublist sl, fun m hm => G.sub m (sl.subset hm), fun p hp => G.cnd p (List.mem_filter.mp hp).1, ?_⟩
  obtain ⟨r, R⟩ := G.rk
  refine ⟨r, fun m c e u hu => ?_⟩
  rw [cin_filter] at e
  by_cases z : m = n
  · rw [if_pos z] at e; cases e
  · rw [if_neg z] at e
    obtain ⟨hr, d, hd⟩ := R m c e u hu
    refine ⟨hr, d, ?_⟩
    rw [cin_filter, if_neg, hd]
    intro zu
    subst zu
    exact h2 (List.any_eq_true.mpr ⟨_, cin_mem e, decide_eq_true hu⟩)
/-- renaming -/
theorem used_ren {n o : ν} {c : Cnd ν} {u : ν} (h : u ∈ (fill (ren n o) c).used) : (u = o ∧ n ∈ c.used) ∨ (u ≠ n ∧ u ∈ c.used) := by
  rcases mem_fill (mem_used.mp h) with ⟨h1, h2⟩ | ⟨m, x, hm, hx, hl⟩
  · right
    refine ⟨fun e => ?_, mem_used.mpr h1⟩
    have := h2 u rfl
    rw [ren, if_pos e] at this
    cases this
  · left
    unfold ren at hx
    by_cases e : m = n
    · rw [if_pos e] at hx
      cases hx
      have : us u = us o := List.mem_singleton.mp hl
      cases this
      exact ⟨rfl, e ▸ hm⟩
    · rw [if_neg e] at hx; cases hx
theorem ren_ok {n o : ν} {c : Cnd ν} (hok : ∀ m, okL (us m)) (h : COk okL B c) : COk okL B (fill (ren n o) c) := by
  have one : ∀ x : Cnd ν, ∀ m, ren n o m = some x → x = us o := fun x m e => by
    unfold ren at e
    by_cases z : m = n
    · rw [if_pos z] at e; cases e; rfl
    · rw [if_neg z] at e; cases e
  refine ⟨fun l hl => ?_, ?_, ?_⟩
  · rcases mem_fill hl with ⟨h1, _⟩ | ⟨m, x, hm, hx, hl⟩
    · exact h.ok l h1
    · rw [one x m hx] at hl
      rw [List.mem_singleton.mp hl]
      exact hok o
  · have := fill_depth (f := ren n o) (c := c) (M := 0) fun m _ x hx => by rw [one x m hx]; exact Nat.le_refl _
    have := h.dep
    omega
  · have := fill_len (f := ren n o) (c := c) (M := 1) (Nat.le_refl _) fun m _ x hx => by rw [one x m hx]; exact Nat.le_refl _
    have := h.len
    omega
theorem nms_ren (ps : Ps ν) (n o : ν) : nms (renP ps n o) = (nms ps).map fun m => if m = n then o else m := by
  simp [nms, renP, Function.comp_def]
theorem Good.renP (G : Good okL S B ps) (hok : ∀ m, okL (us m)) {n o : ν} (ho : o ∈ S) (hno : o = n ∨ cin ps o = none) : Good okL S B (renP ps n o) := by
  have fresh : ∀ m ∈ nms ps, m ≠ n → m ≠ o := fun m hm hn z => by
    rcases hno with e | e
    · exact hn (z.trans e)
    · exact cin_none.mp e (z ▸ hm)
  have nd : (nms (Sh.renP ps n o)).Nodup := by
    rw [nms_ren]
    have aux : ∀ l : List ν, l.Nodup → (∀ m ∈ l, m ≠ n → m ≠ o) → (l.map fun m => if m = n then o else m).Nodup := by
      intro l
      induction l with
      | nil => intro _ _; exact List.nodup_nil
      | cons a l ih =>
        intro h1 h2
        obtain ⟨h3, h4⟩ := List.nodup_cons.mp h1
        rw [List.map_cons]
        refine List.nodup_cons.mpr ⟨fun hm => ?_, ih h4 fun m hm => h2 m (List.mem_cons_of_mem _ hm)⟩
        obtain ⟨b, hb, e⟩ := List.mem_map.mp hm
        by_cases za : a = n
        · rw [if_pos za] at e
          by_cases zb : b = n
          · exact h3 (by rw [za, ← zb]; exact hb)
          · rw [if_neg zb] at e
            exact h2 b (List.mem_cons_of_mem _ hb) zb e
        · rw [if_neg za] at e
          by_cases zb : b = n
          · rw [if_pos zb] at e
            exact h2 a List.mem_cons_self za e.symm
          · rw [if_neg zb] at e
            exact h3 (by rw [← e]; exact hb)
    exact aux _ G.nd fresh
  obtain ⟨r, R⟩ := G.rk
  refine ⟨nd, fun m hm => ?_, fun p hp => ?_, fun m => if m = o then r n else r m, fun m c e u hu => ?_⟩
  · rw [nms_ren] at hm
    obtain ⟨b, hb, e⟩ := List.mem_map.mp hm
    by_cases z : b = n
    · rw [if_pos z] at e; rw [← e]; exact ho
    · rw [if_neg z] at e; rw [← e]; exact G.sub b hb
  · obtain ⟨q, hq, rfl⟩ := List.mem_map.mp hp
    exact ren_ok hok (G.cnd q hq)
  · obtain ⟨q, hq, e2⟩ := List.mem_map.mp (cin_mem e)
    have e3 : (if q.1 = n then o else q.1) = m := congrArg Prod.fst e2
    have e4 : fill (ren n o) q.2 = c := congrArg Prod.snd e2
    subst e4
    have eq := cin_of_mem G.nd hq
    have rm : (if m = o then r n else r m) = r q.1 := by
      by_cases z : q.1 = n
      · rw [if_pos z] at e3
        rw [if_pos e3.symm, z]
      · rw [if_neg z] at e3
        have := fresh q.1 (List.mem_map.mpr ⟨q, hq, rfl⟩) z
        rw [if_neg (by rw [← e3]; exact this), e3]
    have toNew : ∀ u, u ∈ nms ps → u ≠ n → ∃ c', cin (Sh.renP ps n o) u = some c' := fun u hu hn => cin_some.mp (by
      rw [nms_ren]
      exact List.mem_map.mpr ⟨u, hu, if_neg hn⟩)
    show (if u = o then r n else r u) < (if m = o then r n else r m) ∧ _
    rw [rm]
    rcases used_ren hu with ⟨e1, e5⟩ | ⟨e1, e5⟩
    · obtain ⟨hr, d, hd⟩ := R q.1 q.2 eq n e5
      rw [if_pos e1, e1]
      refine ⟨hr, cin_some.mp ?_⟩
      rw [nms_ren]
      exact List.mem_map.mpr ⟨n, cin_some.mpr ⟨d, hd⟩, if_pos rfl⟩
    · obtain ⟨hr, d, hd⟩ := R q.1 q.2 eq u e5
      have hm : u ∈ nms ps := cin_some.mpr ⟨d, hd⟩
      rw [if_neg (fresh u hm e1)]
      exact ⟨hr, toNew u hm e1⟩
theorem Good.ren (G : Good okL S B ps) (hok : ∀ m, okL (us m)) {n o : ν} {ps' : Ps ν} (ho : o ∈ S) (h : renR ps n o = .ok ps') : Good okL S B ps' := by
  unfold renR at h
  by_cases h1 : (cin ps n).isNone = true
  · rw [if_pos h1] at h; cases h
  rw [if_neg h1] at h
  by_cases h2 : o ≠ n ∧ (cin ps o).isSome = true
  · rw [if_pos h2] at h; cases h
  rw [if_neg h2] at h
  cases h
  refine G.renP hok ho ?_
  by_cases z : o = n
  · exact .inl z
  · right
    cases e : cin ps o with
    | none => rfl
    | some d => exact absurd ⟨z, by rw [e]; rfl⟩ h2
/-! ### the law's own walk to the names that are reached -/
def addU (ps : Ps ν) (R : List ν) (x : ν) : List ν := match cin ps x with
  | none => R
  | some c => R ++ c.used.filter fun o => decide (o ∉ R)
def turnR (ps : Ps ν) (R : List ν) : List ν := R.foldl (addU ps) R
def iterR (ps : Ps ν) : Nat → List ν → List ν
  | 0, R => R
  | k + 1, R => turnR ps (iterR ps k R)
theorem addU_sub {ps : Ps ν} {R : List ν} {x y : ν} (h : y ∈ R) : y ∈ addU ps R x := by
  unfold addU
  cases cin ps x with
  | none => exact h
  | some c => exact List.mem_append_left _ h
theorem foldU_sub {ps : Ps ν} {y : ν} : ∀ {l R : List ν}, y ∈ R → y ∈ l.foldl (addU ps) R
  | [], _, h => h
  | _ :: l, _, h => foldU_sub (l := l) (addU_sub h)
theorem addU_new {ps : Ps ν} {R : List ν} {x u : ν} {c : Cnd ν} (e : cin ps x = some c) (h : u ∈ c.used) : u ∈ addU ps R x := by
  unfold addU
  rw [e]
  by_cases z : u ∈ R
  · exact List.mem_append_left _ z
  · exact List.mem_append_right _ (List.mem_filter.mpr ⟨h, decide_eq_true z⟩)
theorem foldU_new {ps : Ps ν} {x u : ν} {c : Cnd ν} (e : cin ps x = some c) (h : u ∈ c.used) : ∀ {l R : List ν}, x ∈ l → u ∈ l.foldl (addU ps) R
  | [], _, hx => by cases hx
  | y :: l, R, hx => by
    rcases List.mem_cons.mp hx with rfl | hx
    · exact foldU_sub (l := l) (addU_new e h)
    · exact foldU_new e h (l := l) hx
theorem iterR_sub {ps : Ps ν} {y : ν} {R : List ν} (h : y ∈ R) : ∀ k, y ∈ iterR ps k R
  | 0 => h
  | k + 1 => foldU_sub (iterR_sub h k)
theorem iterR_succ' (ps : Ps ν) : ∀ (k : Nat) (R : List ν), iterR ps (k + 1) R = iterR ps k (turnR ps R)
  | 0, _ => rfl
  | k + 1, R => by rw [iterR, iterR_succ' ps k R, iterR]
theorem reach_of_leads {ps : Ps ν} {n : ν} : ∀ (k : Nat) (s : ν) (R : List ν), leadsF ps n (k + 1) s = true → s ∈ R → n ∈ iterR ps k R
  | 0, s, R, h, hs => by
    rw [leadsF, Bool.or_eq_true] at h
    rcases h with h | h
    · rw [← of_decide_eq_true h]; exact hs
    · cases e : cin ps s with
      | none => rw [e] at h; cases h
      | some c =>
        rw [e] at h
        obtain ⟨u, _, hu⟩ := List.any_eq_true.mp h
        cases hu
  | k + 1, s, R, h, hs => by
    rw [leadsF, Bool.or_eq_true] at h
    rcases h with h | h
    · rw [← of_decide_eq_true h]; exact iterR_sub hs _
    · cases e : cin ps s with
      | none => rw [e] at h; cases h
      | some c =>
        rw [e] at h
        obtain ⟨u, hu, hl⟩ := List.any_eq_true.mp h
        rw [iterR_succ']
        exact reach_of_leads k u _ hl (foldU_new e hu hs)
/-- all that is reached comes of what stood first -/
def Below (ps : Ps ν) (R0 : List ν) (x : ν) : Prop := ∀ n k, leadsF ps n k x = true → ∃ s ∈ R0, ∃ k', leadsF ps n k' s = true
theorem below_addU {ps : Ps ν} {R0 R : List ν} {x : ν} (h : ∀ y ∈ R, Below ps R0 y) (hx : Below ps R0 x) : ∀ y ∈ addU ps R x, Below ps R0 y := by
  intro y hy
  unfold addU at hy
  cases e : cin ps x with
  | none => rw [e] at hy; exact h y hy
  | some c =>
    rw [e] at hy
    rcases List.mem_append.mp hy with hy | hy
    · exact h y hy
    · intro n k hl
      refine hx n (k + 1) ?_
      rw [leadsF, e, Bool.or_eq_true]
      exact .inr (List.any_eq_true.mpr ⟨y, (List.mem_filter.mp hy).1, hl⟩)
theorem below_fold {ps : Ps ν} {R0 : List ν} : ∀ {l R : List ν}, (∀ y ∈ R, Below ps R0 y) → (∀ y ∈ l, Below ps R0 y) → ∀ y ∈ l.foldl (addU ps) R, Below ps R0 y
  | [], _, h, _ => h
  | x :: l, _, h, hl => below_fold (l := l) (below_addU h (hl x List.mem_cons_self)) fun y hy => hl y (List.mem_cons_of_mem _ hy)
theorem below_iter {ps : Ps ν} {R0 : List ν} : ∀ k, ∀ y ∈ iterR ps k R0, Below ps R0 y
  | 0, y, hy => fun n k hl => ⟨y, hy, k, hl⟩
  | k + 1, y, hy => below_fold (below_iter k) (below_iter k) y hy
theorem leadsF_up {ps : Ps ν} {n : ν} : ∀ (k j : Nat) (s : ν), leadsF ps n k s = true → leadsF ps n (k + j) s = true
  | 0, _, s, h => by cases h
  | k + 1, j, s, h => by
    rw [Nat.add_right_comm, leadsF, Bool.or_eq_true]
    rw [leadsF, Bool.or_eq_true] at h
    rcases h with h | h
    · exact .inl h
    · right
      cases e : cin ps s with
      | none => rw [e] at h; cases h
      | some c =>
        rw [e] at h
        obtain ⟨u, hu, hl⟩ := List.any_eq_true.mp h
        exact List.any_eq_true.mpr ⟨u, hu, leadsF_up k j u hl⟩
theorem reached_iff {r : ν → Nat} (R : Rk ps r) (hr : ∀ n, r n ≤ 30) {n : ν} {R0 : List ν} (h0 : ∀ s ∈ R0, ∃ c, cin ps s = some c) : n ∈ iterR ps 40 R0 ↔ R0.any (leads ps n) = true := by
  rw [List.any_eq_true]
  constructor
  · intro h
    obtain ⟨s, hs, k, hk⟩ := below_iter 40 n h n 1 (by rw [leadsF, decide_eq_true rfl, Bool.true_or])
    refine ⟨s, hs, ?_⟩
    have a := leadsF_up k 64 s hk
    have hb := hr s
    rw [leads, leadsF_st R 64 (k + 64) s (h0 s hs) (by omega) (by omega)]
    exact a
  · rintro ⟨s, hs, h⟩
    have hb := hr s
    rw [leads, leadsF_st R 64 41 s (h0 s hs) (by omega) (by omega)] at h
    exact reach_of_leads 40 s R0 h hs
/-- the list that is reached is short -/
def Short (ps : Ps ν) (B L0 : Nat) (R : List ν) : Prop := R.length ≤ L0 + B * (nms ps).countP fun x => decide (x ∈ R)
theorem short_addU {L0 : Nat} (hB : ∀ n c, cin ps n = some c → c.used.length ≤ B) (cl : ∀ n c, cin ps n = some c → ∀ u ∈ c.used, u ∈ nms ps) {R : List ν} (h : Short ps B L0 R) (x : ν) : Short ps B L0 (addU ps R x) := by
  unfold addU
  cases e : cin ps x with
  | none => exact h
  | some c =>
    show Short ps B L0 (R ++ c.used.filter fun o => decide (o ∉ R))
    by_cases z : (c.used.filter fun o => decide (o ∉ R)) = []
    · rw [z, List.append_nil]; exact h
    · obtain ⟨u, hu⟩ := List.exists_mem_of_ne_nil _ z
      obtain ⟨h1, h2⟩ := List.mem_filter.mp hu
      have lt := countP_lt (p := fun x => decide (x ∈ R)) (q := fun x => decide (x ∈ R ++ c.used.filter fun o => decide (o ∉ R)))
        (fun y hy => decide_eq_true (List.mem_append_left _ (of_decide_eq_true hy))) (cl x c e u h1) (decide_eq_false (of_decide_eq_true h2)) (decide_eq_true (List.mem_append_right _ hu))
      have l1 : (c.used.filter fun o => decide (o ∉ R)).length ≤ B := Nat.le_trans (List.length_filter_le ..) (hB x c e)
      have h' : R.length ≤ L0 + B * (nms ps).countP fun x => decide (x ∈ R) := h
      unfold Short
      rw [List.length_append]
      have m : B * ((nms ps).countP fun x => decide (x ∈ R)) + B ≤ B * ((nms ps).countP fun x => decide (x ∈ R ++ c.used.filter fun o => decide (o ∉ R))) := by
        rw [← Nat.mul_succ]
        exact Nat.mul_le_mul_left _ lt
      omega
theorem short_fold {L0 : Nat} (hB : ∀ n c, cin ps n = some c → c.used.length ≤ B) (cl : ∀ n c, cin ps n = some c → ∀ u ∈ c.used, u ∈ nms ps) : ∀ {l R : List ν}, Short ps B L0 R → Short ps B L0 (l.foldl (addU ps) R)
  | [], _, h => h
  | x :: l, _, h => short_fold hB cl (l := l) (short_addU hB cl h x)
theorem short_iter {L0 : Nat} (hB : ∀ n c, cin ps n = some c → c.used.length ≤ B) (cl : ∀ n c, cin ps n = some c → ∀ u ∈ c.used, u ∈ nms ps) {R : List ν} (h : R.length ≤ L0) : ∀ k, Short ps B L0 (iterR ps k R)
  | 0 => Nat.le_trans h (Nat.le_add_right _ _)
  | k + 1 => short_fold hB cl (short_iter hB cl h k)
theorem short_len {L0 : Nat} {R : List ν} (h : Short ps B L0 R) : R.length ≤ L0 + B * ps.length := by
  refine Nat.le_trans h (Nat.add_le_add_left (Nat.mul_le_mul_left _ ?_) _)
  refine Nat.le_trans List.countP_le_length ?_
  rw [nms, List.length_map]
  exact Nat.le_refl _
end
end Sh
set_option Elab.async false
set_option linter.all false
set_option maxRecDepth 100000
set_option maxHeartbeats 4000000
namespace Sh
open PySem PySem.Spec PyProof.Rows L2
def top (i : Nat) : Stmt := PySem.Challenge.pw_wheretrue_k83_whole_walks_of_a_sheet.main.body.getD i (.Pass ⟨0, 0, 0, 0⟩)

abbrev s__wall : Stmt := top 0
abbrev s_is_whole : Stmt := top 13
abbrev s_check_polynomial : Stmt := top 15
abbrev s_check_row : Stmt := top 23
abbrev s_check_block : Stmt := top 24
abbrev s_check_part : Stmt := top 25
abbrev s_check_formula : Stmt := top 26
abbrev s_is_atom : Stmt := top 27
abbrev s_atoms_of : Stmt := top 28
abbrev s_copy_of : Stmt := top 29
abbrev s_depth_of : Stmt := top 30
abbrev s_size_of : Stmt := top 31
abbrev s_is_name : Stmt := top 35
abbrev s_leaves_of : Stmt := top 36
abbrev s_used_in : Stmt := top 37
abbrev s_filled : Stmt := top 38
abbrev s_copy_condition : Stmt := top 39
abbrev s_check_condition : Stmt := top 40
abbrev s_condition_in : Stmt := top 41
abbrev s_whole_in : Stmt := top 42
abbrev s_leads_to : Stmt := top 43
abbrev s_put_in : Stmt := top 44
abbrev s__law_draws : Stmt := top 47
abbrev s__law_take : Stmt := top 48
abbrev s__law_names : Stmt := top 49
abbrev s__law_atom : Stmt := top 50
abbrev s__law_condition : Stmt := top 51
abbrev s__law_leaves : Stmt := top 52
abbrev s__law_used : Stmt := top 53
abbrev s__law_depth : Stmt := top 54
abbrev s__law_found : Stmt := top 55
abbrev s__law_filled : Stmt := top 56
abbrev s__law_whole : Stmt := top 57
abbrev s__law_reached : Stmt := top 58
abbrev s__law_sizes_due : Stmt := top 59
abbrev s__law_put : Stmt := top 60
abbrev s__law_behind : Stmt := top 61
abbrev s__law_deed : Stmt := top 62
abbrev s__law_class : Stmt := top 63
abbrev s__law_do : Stmt := top 64
abbrev s__law_same : Stmt := top 65
abbrev s__law_shows : Stmt := top 66
abbrev s__law_long : Stmt := top 67
abbrev s_law : Stmt := top 68
abbrev m_init : Stmt := inClass (top 45) 0
abbrev m_pairs : Stmt := inClass (top 45) 1
abbrev m_condition_of : Stmt := inClass (top 45) 2
abbrev m_enter : Stmt := inClass (top 45) 3
abbrev m_put : Stmt := inClass (top 45) 4
abbrev m_remove : Stmt := inClass (top 45) 5
abbrev m_rename : Stmt := inClass (top 45) 6
abbrev m_names : Stmt := inClass (top 45) 11
abbrev m_condition : Stmt := inClass (top 45) 12
abbrev m_whole : Stmt := inClass (top 45) 13
abbrev m_users : Stmt := inClass (top 45) 14
abbrev m_len : Stmt := inClass (top 45) 21
abbrev m_contains : Stmt := inClass (top 45) 22
/-- a def of the top, as it stands behind it -/
abbrev Def (K : PySem.W.Frag) (x : Str) (s : Stmt) : Prop := ∃ fd, FunD K x x (defArgs s) (defBody s) (defScope s) [] [] (He.ga K x) fd
abbrev Mth (K : PySem.W.Frag) (x q : Str) (s : Stmt) : Prop := ∃ fd, FunD K x q (defArgs s) (defBody s) (defScope s) [] [] (He.ma K (He.ga K "Sheet") x) fd
/-- what the top has left -/
structure Txt (w : World) (K : PySem.W.Frag) (mg : Str → Option Value) : Prop where
  g_is_whole : mg "is_whole" = some (.ref (He.ga K "is_whole"))
  F_is_whole : Def K "is_whole" s_is_whole
  g_check_polynomial : mg "check_polynomial" = some (.ref (He.ga K "check_polynomial"))
  F_check_polynomial : Def K "check_polynomial" s_check_polynomial
  g_check_row : mg "check_row" = some (.ref (He.ga K "check_row"))
  F_check_row : Def K "check_row" s_check_row
  g_check_block : mg "check_block" = some (.ref (He.ga K "check_block"))
  F_check_block : Def K "check_block" s_check_block
  g_check_part : mg "check_part" = some (.ref (He.ga K "check_part"))
  F_check_part : ∃ fd, FunD K "check_part" "check_part" (defArgs s_check_part) (defBody s_check_part) (defScope s_check_part) [] [("has_uses", .bl false)] (He.ga K "check_part") fd
  g_check_formula : mg "check_formula" = some (.ref (He.ga K "check_formula"))
  F_check_formula : Def K "check_formula" s_check_formula
  g_is_atom : mg "is_atom" = some (.ref (He.ga K "is_atom"))
  F_is_atom : Def K "is_atom" s_is_atom
  g_atoms_of : mg "atoms_of" = some (.ref (He.ga K "atoms_of"))
  F_atoms_of : Def K "atoms_of" s_atoms_of
  g_copy_of : mg "copy_of" = some (.ref (He.ga K "copy_of"))
  F_copy_of : Def K "copy_of" s_copy_of
  g_depth_of : mg "depth_of" = some (.ref (He.ga K "depth_of"))
  F_depth_of : Def K "depth_of" s_depth_of
  g_size_of : mg "size_of" = some (.ref (He.ga K "size_of"))
  F_size_of : Def K "size_of" s_size_of
  g_is_name : mg "is_name" = some (.ref (He.ga K "is_name"))
  F_is_name : Def K "is_name" s_is_name
  g_leaves_of : mg "leaves_of" = some (.ref (He.ga K "leaves_of"))
  F_leaves_of : Def K "leaves_of" s_leaves_of
  g_used_in : mg "used_in" = some (.ref (He.ga K "used_in"))
  F_used_in : Def K "used_in" s_used_in
  g_filled : mg "filled" = some (.ref (He.ga K "filled"))
  F_filled : Def K "filled" s_filled
  g_copy_condition : mg "copy_condition" = some (.ref (He.ga K "copy_condition"))
  F_copy_condition : Def K "copy_condition" s_copy_condition
  g_check_condition : mg "check_condition" = some (.ref (He.ga K "check_condition"))
  F_check_condition : Def K "check_condition" s_check_condition
  g_condition_in : mg "condition_in" = some (.ref (He.ga K "condition_in"))
  F_condition_in : Def K "condition_in" s_condition_in
  g_whole_in : mg "whole_in" = some (.ref (He.ga K "whole_in"))
  F_whole_in : Def K "whole_in" s_whole_in
  g_leads_to : mg "leads_to" = some (.ref (He.ga K "leads_to"))
  F_leads_to : Def K "leads_to" s_leads_to
  g_put_in : mg "put_in" = some (.ref (He.ga K "put_in"))
  F_put_in : Def K "put_in" s_put_in
  g_law_draws : mg "_law_draws" = some (.ref (He.ga K "_law_draws"))
  F_law_draws : Def K "_law_draws" s__law_draws
  g_law_take : mg "_law_take" = some (.ref (He.ga K "_law_take"))
  F_law_take : Def K "_law_take" s__law_take
  g_law_names : mg "_law_names" = some (.ref (He.ga K "_law_names"))
  F_law_names : Def K "_law_names" s__law_names
  g_law_atom : mg "_law_atom" = some (.ref (He.ga K "_law_atom"))
  F_law_atom : Def K "_law_atom" s__law_atom
  g_law_condition : mg "_law_condition" = some (.ref (He.ga K "_law_condition"))
  F_law_condition : Def K "_law_condition" s__law_condition
  g_law_leaves : mg "_law_leaves" = some (.ref (He.ga K "_law_leaves"))
  F_law_leaves : Def K "_law_leaves" s__law_leaves
  g_law_used : mg "_law_used" = some (.ref (He.ga K "_law_used"))
  F_law_used : Def K "_law_used" s__law_used
  g_law_depth : mg "_law_depth" = some (.ref (He.ga K "_law_depth"))
  F_law_depth : Def K "_law_depth" s__law_depth
  g_law_found : mg "_law_found" = some (.ref (He.ga K "_law_found"))
  F_law_found : Def K "_law_found" s__law_found
  g_law_filled : mg "_law_filled" = some (.ref (He.ga K "_law_filled"))
  F_law_filled : Def K "_law_filled" s__law_filled
  g_law_whole : mg "_law_whole" = some (.ref (He.ga K "_law_whole"))
  F_law_whole : Def K "_law_whole" s__law_whole
  g_law_reached : mg "_law_reached" = some (.ref (He.ga K "_law_reached"))
  F_law_reached : Def K "_law_reached" s__law_reached
  g_law_sizes_due : mg "_law_sizes_due" = some (.ref (He.ga K "_law_sizes_due"))
  F_law_sizes_due : Def K "_law_sizes_due" s__law_sizes_due
  g_law_put : mg "_law_put" = some (.ref (He.ga K "_law_put"))
  F_law_put : Def K "_law_put" s__law_put
  g_law_behind : mg "_law_behind" = some (.ref (He.ga K "_law_behind"))
  F_law_behind : Def K "_law_behind" s__law_behind
  g_law_deed : mg "_law_deed" = some (.ref (He.ga K "_law_deed"))
  F_law_deed : Def K "_law_deed" s__law_deed
  g_law_class : mg "_law_class" = some (.ref (He.ga K "_law_class"))
  F_law_class : Def K "_law_class" s__law_class
  g_law_do : mg "_law_do" = some (.ref (He.ga K "_law_do"))
  F_law_do : Def K "_law_do" s__law_do
  g_law_same : mg "_law_same" = some (.ref (He.ga K "_law_same"))
  F_law_same : Def K "_law_same" s__law_same
  g_law_shows : mg "_law_shows" = some (.ref (He.ga K "_law_shows"))
  F_law_shows : Def K "_law_shows" s__law_shows
  g_law_long : mg "_law_long" = some (.ref (He.ga K "_law_long"))
  F_law_long : Def K "_law_long" s__law_long
  g_law : mg "law" = some (.ref (He.ga K "law"))
  F_law : Def K "law" s_law
  M_init : Meth K (He.ga K "Sheet") "__init__" (He.ma K (He.ga K "Sheet") "__init__")
  F_m_init : Mth K "__init__" "Sheet.__init__" m_init
  M_pairs : Meth K (He.ga K "Sheet") "_pairs" (He.ma K (He.ga K "Sheet") "_pairs")
  F_m_pairs : Mth K "_pairs" "Sheet._pairs" m_pairs
  M_condition_of : Meth K (He.ga K "Sheet") "_condition_of" (He.ma K (He.ga K "Sheet") "_condition_of")
  F_m_condition_of : Mth K "_condition_of" "Sheet._condition_of" m_condition_of
  M_enter : Meth K (He.ga K "Sheet") "_enter" (He.ma K (He.ga K "Sheet") "_enter")
  F_m_enter : Mth K "_enter" "Sheet._enter" m_enter
  M_put : Meth K (He.ga K "Sheet") "put" (He.ma K (He.ga K "Sheet") "put")
  F_m_put : Mth K "put" "Sheet.put" m_put
  M_remove : Meth K (He.ga K "Sheet") "remove" (He.ma K (He.ga K "Sheet") "remove")
  F_m_remove : Mth K "remove" "Sheet.remove" m_remove
  M_rename : Meth K (He.ga K "Sheet") "rename" (He.ma K (He.ga K "Sheet") "rename")
  F_m_rename : Mth K "rename" "Sheet.rename" m_rename
  M_names : Meth K (He.ga K "Sheet") "names" (He.ma K (He.ga K "Sheet") "names")
  F_m_names : Mth K "names" "Sheet.names" m_names
  M_condition : Meth K (He.ga K "Sheet") "condition" (He.ma K (He.ga K "Sheet") "condition")
  F_m_condition : Mth K "condition" "Sheet.condition" m_condition
  M_whole : Meth K (He.ga K "Sheet") "whole" (He.ma K (He.ga K "Sheet") "whole")
  F_m_whole : Mth K "whole" "Sheet.whole" m_whole
  M_users : Meth K (He.ga K "Sheet") "users" (He.ma K (He.ga K "Sheet") "users")
  F_m_users : Mth K "users" "Sheet.users" m_users
  M_len : Meth K (He.ga K "Sheet") "__len__" (He.ma K (He.ga K "Sheet") "__len__")
  F_m_len : Mth K "__len__" "Sheet.__len__" m_len
  M_contains : Meth K (He.ga K "Sheet") "__contains__" (He.ma K (He.ga K "Sheet") "__contains__")
  F_m_contains : Mth K "__contains__" "Sheet.__contains__" m_contains
  g_WhereError : mg "WhereError" = some (.ref (He.ga K "WhereError"))
  g_BadSize : mg "BadSize" = some (.ref (He.ga K "BadSize"))
  g_BadNumber : mg "BadNumber" = some (.ref (He.ga K "BadNumber"))
  g_BadForm : mg "BadForm" = some (.ref (He.ga K "BadForm"))
  g_BadSign : mg "BadSign" = some (.ref (He.ga K "BadSign"))
  g_TooDeep : mg "TooDeep" = some (.ref (He.ga K "TooDeep"))
  g_BadName : mg "BadName" = some (.ref (He.ga K "BadName"))
  g_UnknownName : mg "UnknownName" = some (.ref (He.ga K "UnknownName"))
  g_Circle : mg "Circle" = some (.ref (He.ga K "Circle"))
  g_InUse : mg "InUse" = some (.ref (He.ga K "InUse"))
  g_Sheet : mg "Sheet" = some (.ref (He.ga K "Sheet"))
  g_LENGTHS : mg "LENGTHS" = some (.ref (He.ga K "LENGTHS"))
  g_OPPOSITE : mg "OPPOSITE" = some (.ref (He.ga K "OPPOSITE"))
  g_ROW_SIGNS : mg "ROW_SIGNS" = some (.ref (He.ga K "ROW_SIGNS"))
  b_len : mg "len" = none
  b_isinstance : mg "isinstance" = none
  b_int : mg "int" = none
  b_str : mg "str" = none
  b_bool : mg "bool" = none
  b_list : mg "list" = none
  b_tuple : mg "tuple" = none
  b_range : mg "range" = none
  b_any : mg "any" = none
  b_all : mg "all" = none
  b_max : mg "max" = none
  b_super : mg "super" = none
  i_DEEPEST : ∃ t, mg "DEEPEST" = some (.int 6 t)
  i_MOST_SIGNS : ∃ t, mg "MOST_SIGNS" = some (.int 6 t)
  i_MOST_BLOCKS : ∃ t, mg "MOST_BLOCKS" = some (.int 3 t)
  s_LETTERS : ∃ t, mg "LETTERS" = some (.str "abcdefghijklmnopqrstuvwxyz" t)
  s_DIGITS : ∃ t, mg "DIGITS" = some (.str "0123456789" t)
  c_Sheet : Cls K (He.ga K "Sheet")
  k_Sheet : Mk K (He.ga K "Sheet") (He.ma K (He.ga K "Sheet") "__init__")
  n_states : NoAttr K (He.ga K "Sheet") "_states"
  n_now : NoAttr K (He.ga K "Sheet") "_now"
  n_entries : NoAttr K (He.ga K "Sheet") "_entries"
  d_LENGTHS : ∃ es n, KDict K w (He.ga K "LENGTHS") es n
  d_OPPOSITE : ∃ es n, KDict K w (He.ga K "OPPOSITE") es n
  v_LENGTHS : He.valsB K (He.ga K "LENGTHS") [("sign", .int 3), ("some", .int 3), ("not", .int 2), ("and", .int 3), ("or", .int 3)] = true
  v_OPPOSITE : He.valsB K (He.ga K "OPPOSITE") [("<", .str ">="), (">=", .str "<"), ("<=", .str ">"), (">", .str "<="), ("=", .str "!="), ("!=", .str "=")] = true
  v_ROW : He.tupB K "ROW_SIGNS" [.str "<", .str "<=", .str "="] = true
end Sh
set_option Elab.async false
set_option linter.all false
set_option maxRecDepth 100000
set_option maxHeartbeats 4000000
namespace Sh
open PySem PySem.Spec PyProof.Rows L2 StX
/-! ### calls by positional promises -/
abbrev Fn (P : Program) (w : World) (K : PySem.W.Frag) (mg : Str → Option Value) (base : Heap) (k : Nat) (f : Addr) (sp : Sp) : Prop := FnR P w K mg base (L2.CX P w) k f sp
def tC1 (sp : Sp) (E : XK) (t : TA) : TE := fun σ H Q => t σ H fun vs H1 => sp vs H1 Q E
section
variable {X : Cx} {CX : CXT} {k : Nat} {f C : Addr} {sp : Sp} {E : XK} {x m : Str} {p pos apos : Pos} {e o : Expr} {es : List Expr} {t : TA} {ta : TE}
theorem pe_callR (F : FnR X.prog X.w X.K X.mg X.base CX k f sp) (hr : Room k X.A) (hm : X.mg x = some (.ref f)) (hk : PySem.W.keepIn X.K (.ref f) = true) (hx : Passes CX X E) (ha : PA X (e :: es) t) (hg : Gl X x := by rfl) (hd : (x == ("__debug__" : Str)) = false := by decide)
    (he : starEach (e :: es) X.env = (false, eval e X.env) :: starEach es X.env := by rfl) (hpl : (backTo pos (starEach es X.env)).any (·.1) = false := by rfl) :
    PE X (.Call (.Name x p) (e :: es) [] pos) (tC1 sp E t) := by
  refine ⟨fun pins s σ H Q I h => ?_⟩
  refine wpAny_Call_Name_kw (ld_glob I hg hm ?_ hd)
  refine PySem.W.callWith_K (h₀ := X.base) I.ok.mod.kin hk (thn (ha.run pos pins s σ H _ I h) fun us s1 ⟨vs, H1, I1, r, q⟩ => ⟨I1.kIn, ?_⟩) he hpl
  exact wpAny_call (run_fnR F hr hx I1 r q)
def tM0 (C : Addr) (m : Str) (sp : Sp) (E : XK) (ta : TE) : TE := fun σ H Q => ta σ H fun x H1 => ∃ a dx fs, x = .ref a ∧ H1 a = some (.ins C dx fs) ∧ fs.lookup m = none ∧ sp [x] H1 Q E
theorem pe_methR0 {pl : Sem Bool} (he : PE X o ta) (c : Cls X.K C) (hm : Meth X.K C m f) (F : FnR X.prog X.w X.K X.mg X.base CX k f sp) (hr : Room k X.A) (hx : Passes CX X E)
    (ht : eval (.Call (.Attribute o m apos) [] [] pos) X.env = (do
      let ov ← eval o X.env
      standAt apos.atName
      let (f, first) ← holding [ov] (getMethod ov m pl)
      callWith pos f first (backTo pos (starEach [] X.env)) (backToKw pos (keywordEach [] X.env))) := by rfl) :
    PE X (.Call (.Attribute o m apos) [] [] pos) (tM0 C m sp E ta) := by
  refine ⟨fun pins s σ H Q I h => ?_⟩
  refine PySem.W.methodCall_KW (pl := pl) (thn (he.run pins s σ H _ I h) fun u s1 ⟨x, H1, I1, rx, a, dx, fs, ex, ea, l, q⟩ => ?_) ht
  subst ex
  obtain rfl : u = Value.ref a := rx
  refine getmeth_ok I1 ea c hm l ?_
  exact PySem.W.callWith_K0 (first := [.ref a]) I1.kIn hm.kp (wpAny_call (run_fnR (us := [.ref a]) (vs := [.ref a]) F hr hx I1 (.cons rfl .nil) q))
theorem pe_makeR0 (M : Mk X.K C f) (F : FnR X.prog X.w X.K X.mg X.base CX k f sp) (hr : Room (k + 1) X.A) (hm : X.mg x = some (.ref C)) (hx : Passes CX X E) (hg : Gl X x := by rfl) (hdb : (x == ("__debug__" : Str)) = false := by decide) :
    PE X (.Call (.Name x p) [] [] pos) (tMakeR C sp E tNil) := by
  refine ⟨fun pins s σ H Q I h => ?_⟩
  refine wpAny_Call_Name_kw (ld_glob I hg hm ?_ hdb)
  exact PySem.W.callWith_K0 I.kIn M.kp (run_makeR (us := []) M F hr hx I .nil h)
end
/-! ### a def keeps its promise -/
section
variable {P : Program} {w : World} {K : PySem.W.Frag} {mg : Str → Option Value} {base : Heap}
theorem mkR {x qual : Str} {params : Arguments} {body : List Stmt} {scope : Scope} {f : Addr} {N ps : List Str} {k : Nat} {sp : Sp} (F : ∃ fd, FunD K x qual params body scope [] [] f fd) (S : FnScope N ps scope) (len : ∀ vs H Q E, sp vs H Q E → vs.length = ps.length)
    (hb : ∀ (kV doc pm : Value) (an : Option Addr) (cdv ct : Value) (us : List Value), us.length = ps.length → bindArgs (PySem.W.fnOf x qual params body scope .none kV doc pm an cdv ct) ⟨us, []⟩ = pure (ps.zip us))
    (hbody : ∀ (cdv : Value) (A : Around) (outer : List Env) (s : Shared) (H : Hp) (vs : List V) (Q : VK) (E : XK), Room k (A.deeper (envOfC qual scope s.heap.objs.size f cdv)) → sp vs H Q E →
      ∃ t, PSs (cxOf (L2.CX P w) P w K mg base N qual scope f cdv A outer s H E) body t ∧ t { nx := fun _ H' => Q .non H', rt := Q } (start N vs) H) : Fn P w K mg base (k + 1) f sp := by
  obtain ⟨fd, F⟩ := F
  have G : FnOk P w K mg base (L2.CX P w) (k + 1) f fd ps sp := F.ok S len hbody
  have R := G.raw (F.bindsN hb) .nil
  exact R.imp fun vs H Q E h => by rw [List.append_nil]; exact h
/-- .. that lets no exception out -/
theorem mkN {x qual : Str} {params : Arguments} {body : List Stmt} {scope : Scope} {f : Addr} {N ps : List Str} {k : Nat} {sp : Sp} (F : ∃ fd, FunD K x qual params body scope [] [] f fd) (S : FnScope N ps scope) (len : ∀ vs H Q E, sp vs H Q E → vs.length = ps.length)
    (hb : ∀ (kV doc pm : Value) (an : Option Addr) (cdv ct : Value) (us : List Value), us.length = ps.length → bindArgs (PySem.W.fnOf x qual params body scope .none kV doc pm an cdv ct) ⟨us, []⟩ = pure (ps.zip us))
    (hbody : ∀ (cdv : Value) (A : Around) (outer : List Env) (s : Shared) (H : Hp) (vs : List V) (Q : VK) (E : XK), Room k (A.deeper (envOfC qual scope s.heap.objs.size f cdv)) → sp vs H Q E →
      ∃ t, PSs (cxOf (L2.CX P w) P w K mg base N qual scope f cdv A outer s H E).nox body t ∧ t { nx := fun _ H' => Q .non H', rt := Q } (start N vs) H) : Fn P w K mg base (k + 1) f sp :=
  mkR F S len hb fun cdv A outer s H vs Q E hr h => by
    obtain ⟨t, d, q⟩ := hbody cdv A outer s H vs Q E hr h
    exact ⟨t, d.nox, q⟩
end
/-! ### heaps -/
theorem same_new {H : Hp} {p : Addr} (h : H p = none) (o : HO) : Same H (upd H p o) := fun b u q => by rw [upd_ne (ne_of_none q h)]; exact q
theorem _root_.L2.Same.new {H H' : Hp} (s : Same H H') {p : Addr} (h : H' p = none) (o : HO) : Same H (upd H' p o) := s.trans (same_new h o)
/-- behind a store at p, p not of the first heap -/
theorem _root_.L2.Same.put {H H' : Hp} (s : Same H H') {p : Addr} (h : H p = none) (o : HO) : Same H (upd H' p o) := fun b u q => by rw [upd_ne (ne_of_none q h)]; exact s b u q
/-- tuples and lists stand -/
def KT (H H' : Hp) : Prop := ∀ a, (∀ xs, H a = some (.tup xs) → H' a = some (.tup xs)) ∧ ∀ xs, H a = some (.lst xs) → H' a = some (.lst xs)
theorem _root_.L2.Same.kt {H H' : Hp} (s : Same H H') : KT H H' := fun a => ⟨fun _ h => s a _ h, fun _ h => s a _ h⟩
theorem KT.trans {H H1 H2 : Hp} (a : KT H H1) (b : KT H1 H2) : KT H H2 := fun x => ⟨fun xs h => (b x).1 xs ((a x).1 xs h), fun xs h => (b x).2 xs ((a x).2 xs h)⟩
theorem KT.refl (H : Hp) : KT H H := fun _ => ⟨fun _ h => h, fun _ h => h⟩
/-! ### conditions in the heap -/
abbrev C := Cnd Str
def tag : C → Str
  | .sg _ _ => "sign"
  | .sm _ _ _ => "some"
  | .us _ => "use"
  | .nt _ => "not"
  | .bn o _ _ => if o then "and" else "or"
def IsC (H : Hp) : V → C → Prop
  | v, .sg p s => ∃ a l, v = .ref a ∧ H a = some (.tup [.str "sign", .ref l, .str s]) ∧ H l = some (.lst (p.map V.int))
  | v, .sm p q s => ∃ a r t cs pl ql, v = .ref a ∧ H a = some (.tup [.str "some", .int 1, .ref r]) ∧ H r = some (.lst [.ref t]) ∧ H t = some (.tup [.ref cs, .ref ql, .str s]) ∧
      H cs = some (.lst [.ref pl]) ∧ H pl = some (.lst (p.map V.int)) ∧ H ql = some (.lst (q.map V.int))
  | v, .us n => ∃ a, v = .ref a ∧ H a = some (.tup [.str "use", .str n])
  | v, .nt c => ∃ a x, v = .ref a ∧ H a = some (.tup [.str "not", x]) ∧ IsC H x c
  | v, .bn o c d => ∃ a x y, v = .ref a ∧ H a = some (.tup [.str (if o then "and" else "or"), x, y]) ∧ IsC H x c ∧ IsC H y d
theorem IsC.kt {H H' : Hp} (k : KT H H') : ∀ {c : C} {v : V}, IsC H v c → IsC H' v c
  | .sg p s, v, h => by
    obtain ⟨a, l, e, h1, h2⟩ := h
    exact ⟨a, l, e, (k a).1 _ h1, (k l).2 _ h2⟩
  | .sm p q s, v, h => by
    obtain ⟨a, r, t, cs, pl, ql, e, h1, h2, h3, h4, h5, h6⟩ := h
    exact ⟨a, r, t, cs, pl, ql, e, (k a).1 _ h1, (k r).2 _ h2, (k t).1 _ h3, (k cs).2 _ h4, (k pl).2 _ h5, (k ql).2 _ h6⟩
  | .us n, v, h => by
    obtain ⟨a, e, h1⟩ := h
    exact ⟨a, e, (k a).1 _ h1⟩
  | .nt c, v, h => by
    obtain ⟨a, x, e, h1, h2⟩ := h
    exact ⟨a, x, e, (k a).1 _ h1, IsC.kt k h2⟩
  | .bn o c d, v, h => by
    obtain ⟨a, x, y, e, h1, h2, h3⟩ := h
    exact ⟨a, x, y, e, (k a).1 _ h1, IsC.kt k h2, IsC.kt k h3⟩
theorem IsC.same {H H' : Hp} (s : Same H H') {c : C} {v : V} (h : IsC H v c) : IsC H' v c := h.kt s.kt
/-- what every condition is: a tuple with its word first -/
theorem IsC.tup {H : Hp} {c : C} {v : V} (h : IsC H v c) : ∃ a xs, v = .ref a ∧ H a = some (.tup (.str (tag c) :: xs)) := by
  cases c with
  | sg p s => obtain ⟨a, l, e, h1, _⟩ := h; exact ⟨a, _, e, h1⟩
  | sm p q s => obtain ⟨a, _, _, _, _, _, e, h1, _⟩ := h; exact ⟨a, _, e, h1⟩
  | us n => obtain ⟨a, e, h1⟩ := h; exact ⟨a, _, e, h1⟩
  | nt c => obtain ⟨a, x, e, h1, _⟩ := h; exact ⟨a, _, e, h1⟩
  | bn o c d => obtain ⟨a, x, y, e, h1, _⟩ := h; exact ⟨a, _, e, h1⟩
abbrev AreC (H : Hp) : List V → List C → Prop := Paired (IsC H)
theorem IsC.node {H : Hp} {c : C} {v : V} (hl : c.leaf = false) (h : IsC H v c) : ∃ a xs, v = .ref a ∧ H a = some (.tup (.str (tag c) :: xs)) ∧ AreC H xs c.parts := by
  cases c with
  | nt c => obtain ⟨a, x, e, h1, h2⟩ := h; exact ⟨a, [x], e, h1, .cons h2 .nil⟩
  | bn o c d => obtain ⟨a, x, y, e, h1, h2, h3⟩ := h; exact ⟨a, [x, y], e, h1, .cons h2 (.cons h3 .nil)⟩
  | _ => cases hl
theorem IsC.mk {H : Hp} {c : C} {a : Addr} {xs : List V} (hl : c.leaf = false) (h : H a = some (.tup (.str (tag c) :: xs))) (hp : AreC H xs c.parts) : IsC H (.ref a) c := by
  cases c with
  | nt c =>
    cases hp with
    | cons h1 h2 =>
      cases h2
      exact ⟨a, _, rfl, h, h1⟩
  | bn o c d =>
    cases hp with
    | cons h1 h2 =>
      cases h2 with
      | cons h2 h3 =>
        cases h3
        exact ⟨a, _, _, rfl, h, h1, h2⟩
  | _ => cases hl
theorem AreC.kt {H H' : Hp} (k : KT H H') {xs : List V} {cs : List C} (h : AreC H xs cs) : AreC H' xs cs := L2.Paired.mapP h fun _ _ q => q.kt k
theorem AreC.same {H H' : Hp} (s : Same H H') {xs : List V} {cs : List C} (h : AreC H xs cs) : AreC H' xs cs := h.kt s.kt
theorem paired_get {α β : Type} {F : α → β → Prop} : ∀ {xs : List α} {ys : List β} {i : Nat} {x : α}, Paired F xs ys → xs[i]? = some x → ∃ y, ys[i]? = some y ∧ F x y
  | _, _, _, _, .nil, e => by simp at e
  | _, _, 0, _, .cons r _, e => by simp at e; subst e; exact ⟨_, rfl, r⟩
  | _, _, i + 1, x, .cons _ t, e => by
    obtain ⟨u, h1, h2⟩ := paired_get (i := i) (x := x) t (by simpa using e)
    exact ⟨u, by simpa using h1, h2⟩
theorem paired_app {α β : Type} {F : α → β → Prop} : ∀ {xs xs' : List α} {ys ys' : List β}, Paired F xs ys → Paired F xs' ys' → Paired F (xs ++ xs') (ys ++ ys')
  | _, _, _, _, .nil, s => s
  | _, _, _, _, .cons r t, s => .cons r (paired_app t s)
theorem paired_len {α β : Type} {F : α → β → Prop} : ∀ {xs : List α} {ys : List β}, Paired F xs ys → xs.length = ys.length
  | _, _, .nil => rfl
  | _, _, .cons _ t => congrArg Nat.succ (paired_len t)
theorem take_more {α : Type} : ∀ {l : List α} {i : Nat} {x : α}, l[i]? = some x → l.take (i + 1) = l.take i ++ [x]
  | [], i, x, h => by simp at h
  | a :: l, 0, x, h => by
    have e : a = x := Option.some.inj h
    subst e
    rfl
  | a :: l, i + 1, x, h => by
    have ih := take_more (l := l) (i := i) (x := x) h
    show a :: l.take (i + 1) = a :: l.take i ++ [x]
    rw [ih]
    rfl
theorem cut1 (x : V) (xs : List V) : cutV (x :: xs) (some 1) none = xs := by
  have e : HT.sIx (x :: xs).length 0 (some ((1 : Nat) : Int)) = min 1 (x :: xs).length := HT.sIx_nat _ _ 1
  have e2 : min 1 (x :: xs).length = 1 := by rw [List.length_cons]; omega
  unfold cutV
  show List.take (HT.sIx (x :: xs).length (x :: xs).length none - HT.sIx (x :: xs).length 0 (some ((1 : Nat) : Int))) (List.drop (HT.sIx (x :: xs).length 0 (some ((1 : Nat) : Int))) (x :: xs)) = xs
  rw [e, e2, HT.sIx_none]
  show List.take (xs.length + 1 - 1) xs = xs
  rw [Nat.add_sub_cancel]
  exact List.take_length
theorem cut1_ne (x : V) (xs : List V) : ¬ (HT.sIx (x :: xs).length 0 (some 1) = 0 ∧ HT.sIx (x :: xs).length (x :: xs).length none = (x :: xs).length) := fun ⟨h, _⟩ => by
  have e : HT.sIx (x :: xs).length 0 (some ((1 : Nat) : Int)) = min 1 (x :: xs).length := HT.sIx_nat _ _ 1
  have h' : HT.sIx (x :: xs).length 0 (some ((1 : Nat) : Int)) = 0 := h
  rw [e, List.length_cons] at h'
  omega
theorem at0 (x : V) (xs : List V) : atI (x :: xs) 0 = some x := atI_nat (j := 0) rfl
theorem at1 (x y : V) (xs : List V) : atI (x :: y :: xs) 1 = some y := atI_nat (j := 1) rfl
theorem at2 (x y z : V) (xs : List V) : atI (x :: y :: z :: xs) 2 = some z := atI_nat (j := 2) rfl
/-! ### words -/
def isAt (c : C) : Bool := c.isSg || c.isSm
theorem tag_sg (c : C) : decide (V.str (tag c) = V.str "sign") = c.isSg := by
  cases c with
  | sg p s => show decide (V.str "sign" = V.str "sign") = true; decide +kernel
  | sm p q s => show decide (V.str "some" = V.str "sign") = false; decide +kernel
  | us n => show decide (V.str "use" = V.str "sign") = false; decide +kernel
  | nt c => show decide (V.str "not" = V.str "sign") = false; decide +kernel
  | bn o a b =>
    cases o
    · show decide (V.str "or" = V.str "sign") = false; decide +kernel
    · show decide (V.str "and" = V.str "sign") = false; decide +kernel
theorem tag_sm (c : C) : decide (V.str (tag c) = V.str "some") = c.isSm := by
  cases c with
  | sg p s => show decide (V.str "sign" = V.str "some") = false; decide +kernel
  | sm p q s => show decide (V.str "some" = V.str "some") = true; decide +kernel
  | us n => show decide (V.str "use" = V.str "some") = false; decide +kernel
  | nt c => show decide (V.str "not" = V.str "some") = false; decide +kernel
  | bn o a b =>
    cases o
    · show decide (V.str "or" = V.str "some") = false; decide +kernel
    · show decide (V.str "and" = V.str "some") = false; decide +kernel
def isUs (c : C) : Bool := c.us?.isSome
theorem tag_us (c : C) : decide (V.str (tag c) = V.str "use") = isUs c := by
  cases c with
  | sg p s => show decide (V.str "sign" = V.str "use") = false; decide +kernel
  | sm p q s => show decide (V.str "some" = V.str "use") = false; decide +kernel
  | us n => show decide (V.str "use" = V.str "use") = true; decide +kernel
  | nt c => show decide (V.str "not" = V.str "use") = false; decide +kernel
  | bn o a b =>
    cases o
    · show decide (V.str "or" = V.str "use") = false; decide +kernel
    · show decide (V.str "and" = V.str "use") = false; decide +kernel
theorem leaf_eq (c : C) : c.leaf = (isUs c || isAt c) := by cases c <;> rfl
/-! ### the heap without some addresses -/
def mi (M : List Addr) (H : Hp) : Hp := fun b => if b ∈ M then none else H b
theorem mi_in {M : List Addr} {H : Hp} {b : Addr} (h : b ∉ M) : mi M H b = H b := if_neg h
theorem mi_out {M : List Addr} {H : Hp} {b : Addr} (h : b ∈ M) : mi M H b = none := if_pos h
theorem mi_some {M : List Addr} {H : Hp} {b : Addr} {o : HO} (h : mi M H b = some o) : H b = some o ∧ b ∉ M := by
  unfold mi at h
  by_cases z : b ∈ M
  · rw [if_pos z] at h; cases h
  · rw [if_neg z] at h; exact ⟨h, z⟩
theorem mi_nil (H : Hp) : mi [] H = H := by
  funext b
  exact mi_in (by simp)
/-- all but what stands at M is as it was -/
def Ta (M : List Addr) (H H' : Hp) : Prop := ∀ b o, b ∉ M → H b = some o → H' b = some o
theorem _root_.L2.Same.ta {H H' : Hp} (s : Same H H') (M : List Addr) : Ta M H H' := fun b o _ h => s b o h
theorem Ta.same {H H' : Hp} (t : Ta [] H H') : Same H H' := fun b o h => t b o (by simp) h
theorem Ta.trans {M : List Addr} {H H1 H2 : Hp} (a : Ta M H H1) (b : Ta M H1 H2) : Ta M H H2 := fun c o n h => b c o n (a c o n h)
theorem Ta.refl (M : List Addr) (H : Hp) : Ta M H H := fun _ _ _ h => h
theorem Ta.mono {M N : List Addr} {H H' : Hp} (t : Ta M H H') (h : ∀ b ∈ M, b ∈ N) : Ta N H H' := fun b o n q => t b o (fun z => n (h b z)) q
theorem Ta.mi {M N : List Addr} {H H' : Hp} (t : Ta N H H') (h : ∀ b ∈ N, b ∈ M) : Same (mi M H) (mi M H') := fun b o q => by
  obtain ⟨h1, h2⟩ := mi_some q
  rw [mi_in h2]
  exact t b o (fun z => h2 (h b z)) h1
theorem ta_put {M : List Addr} {H : Hp} {D : Addr} (h : D ∈ M) (o : HO) : Ta M H (upd H D o) := fun b u n q => by
  rw [upd_ne (fun z : b = D => n (by rw [z]; exact h))]
  exact q
theorem mi_same {M : List Addr} {H H' : Hp} (s : Same H H') : Same (mi M H) (mi M H') := (s.ta []).mi (by simp)
theorem mi_le (M : List Addr) (H : Hp) : Same (mi M H) H := fun _ _ h => (mi_some h).1
theorem mi_sub {M N : List Addr} (H : Hp) (h : ∀ b ∈ N, b ∈ M) : Same (mi M H) (mi N H) := fun b o q => by
  obtain ⟨h1, h2⟩ := mi_some q
  rw [mi_in fun z => h2 (h b z)]
  exact h1
/-- what stood ahead of D is out of D's reach -/
theorem carry {M : List Addr} {H H' : Hp} {D : Addr} (s : Same H H') (h : H D = none) : Same (mi M H) (mi (D :: M) H') := fun b o q => by
  obtain ⟨h1, h2⟩ := mi_some q
  have n : b ∉ D :: M := fun z => by
    rcases List.mem_cons.mp z with z | z
    · rw [z, h] at h1; cases h1
    · exact h2 z
  rw [mi_in n]
  exact s b o h1
/-- the addresses stand -/
def Av (M : List Addr) (H : Hp) : Prop := ∀ b ∈ M, H b ≠ none
theorem Av.nil (H : Hp) : Av [] H := fun _ h => by cases h
theorem Av.out {M : List Addr} {H : Hp} {p : Addr} (a : Av M H) (h : H p = none) : p ∉ M := fun z => a p z h
theorem Av.ta {M N : List Addr} {H H' : Hp} (a : Av M H) (t : Ta N H H') (h : ∀ b ∈ N, H' b ≠ none) : Av M H' := fun b hb => by
  by_cases z : b ∈ N
  · exact h b z
  · cases e : H b with
    | none => exact absurd e (a b hb)
    | some o =>
      rw [t b o z e]
      exact fun q => by cases q
theorem Av.same {M : List Addr} {H H' : Hp} (a : Av M H) (s : Same H H') : Av M H' := a.ta (s.ta []) (by simp)
theorem Av.cons {M : List Addr} {H : Hp} {D : Addr} {o : HO} (a : Av M H) (h : H D = some o) : Av (D :: M) H := fun b hb => by
  rcases List.mem_cons.mp hb with z | z
  · rw [z, h]; exact fun q => by cases q
  · exact a b z
theorem mi_new {M : List Addr} {H : Hp} {p : Addr} {o : HO} (a : Av M H) (h : H p = none) : mi M (upd H p o) p = some o := by
  rw [mi_in (a.out h)]
  exact upd_same
theorem mi_at {M : List Addr} {H : Hp} {p : Addr} {o : HO} (n : p ∉ M) (h : H p = some o) : mi M H p = some o := by rw [mi_in n]; exact h
/-- in and behind a new object at p -/
theorem mi_upd {M : List Addr} {H : Hp} {p : Addr} {o : HO} (h : H p = none) : Same (mi M H) (mi M (upd H p o)) := mi_same (same_new h o)
section
variable {X : Cx} {x : Str} {pos : Pos}
theorem pe_gi {i : Int} (h : ∃ t, X.mg x = some (.int i t)) (hg : Gl X x := by rfl) (hd : (x == ("__debug__" : Str)) = false := by decide) : PE X (.Name x pos) (tC (.int i)) := by
  obtain ⟨t, e⟩ := h
  exact pe_glob hg e ⟨_, rfl⟩ hd
theorem pe_gs {z : Str} (h : ∃ t, X.mg x = some (.str z t)) (hg : Gl X x := by rfl) (hd : (x == ("__debug__" : Str)) = false := by decide) : PE X (.Name x pos) (tC (.str z)) := by
  obtain ⟨t, e⟩ := h
  exact pe_glob hg e ⟨_, rfl⟩ hd
end
theorem kp {K : PySem.W.Frag} {x qual : Str} {params : Arguments} {body : List Stmt} {scope : Scope} {dvs : List V} {kws : List (Str × V)} {f : Addr} (F : ∃ fd, FunD K x qual params body scope dvs kws f fd) : PySem.W.keepIn K (.ref f) = true := by
  obtain ⟨fd, F⟩ := F
  exact F.kp
theorem flat_take {α β : Type} (l : List α) (f : α → List β) (n : Nat) : ((l.take n).flatMap f).length ≤ (l.flatMap f).length := by
  have e : (l.take n).flatMap f ++ (l.drop n).flatMap f = l.flatMap f := by rw [← List.flatMap_append, List.take_append_drop]
  rw [← e, List.length_append]
  omega
theorem big_line {n : Nat} (h : n ≤ 1000000) : n ≤ sizeLine := by rw [sizeLine_eq]; omega
theorem big_line' {n : Nat} (h : n ≤ 1000000) : n < sizeLine := by rw [sizeLine_eq]; omega
end Sh
set_option Elab.async false
set_option linter.all false
set_option maxRecDepth 100000
set_option maxHeartbeats 4000000
namespace Sh
open PySem PySem.Spec PyProof.Rows L2 StX
open PySem.W PySem.Calls
abbrev veMro : List Value := [.type "ValueError", .type "Exception", .type "BaseException", .type "object"]
/-- the text of an error class's __init__ -/
abbrev superBody (txt : Str) (k : Nat) (p0 p1 p2 p3 p4 p5 : Pos) : List Stmt :=
  [.Expr (.Call (.Attribute (.Call (.Name "super" p0) [] [] p1) "__init__" p2) [.Constant (.str txt) k p3] [] p4) p5]
abbrev superArgs (p : Pos) : Arguments := { posonlyargs := [], args := [{ arg := "self", annotation := none, pos := p }], vararg := none, kwonlyargs := [], kw_defaults := [], kwarg := none, defaults := [] }
abbrev superScope : Scope := { kind := .function, names := [(PySem.Str.ofString "self", .local), (PySem.Str.ofString "__class__", .free), (PySem.Str.ofString "super", .globalImplicit)], isGenerator := false, isCoroutine := false, more := [] }
/-- what the written part says of such a class at C -/
structure ErrC (P : Program) (K : Frag) (C : Addr) : Prop where
  ini : excInitIn K C veMro "ValueError.__new__" = true
  kC : keepIn K (.ref C) = true
  sB : subIn K (.ref C) (.type "BaseException") = some true
  tC : typeIn K (.ref C) = some (.type "type")
  sV : subIn K (.ref C) (.type "ValueError") = some true
  mC : mroIn K C (.ref C) = some true
  any : nsIn K cStatics "thirdparty.any" = some none
  sup : ks_superIn K C C "__init__" = some (some (.builtin "ValueError.__init__"))
  fn : ∃ (fI cda cc : Addr) (qual : Str) (oc : Value) (od : Option Addr) (kV doc pm : Value) (an : Option Addr) (ct : Value) (osl : Array (Option Value)) (txt : Str) (k : Nat) (p p0 p1 p2 p3 p4 p5 : Pos)
      (ccl : Value) (cdd : Option Addr) (vs : Array Value) (ccs : Array (Option Value)) (file : Str) (tf : Tok) (cl : Value) (cld : Option Addr) (csl : Array (Option Value)), (p2.endLine == p4.line) = true ∧
    findIn K (.ref C) "__init__" = some (some (.ref fI)) ∧ typeIn K (.ref fI) = some (.type "function") ∧
    K.lookup fI = some ⟨oc, od, .func (ksFn "__init__" qual (superArgs p) (superBody txt k p0 p1 p2 p3 p4 p5) superScope .none kV doc pm an (.ref cda) ct cc), osl⟩ ∧ codeIn K (.ref cda) qual = true ∧
    K.lookup cda = some ⟨ccl, cdd, .fields vs, ccs⟩ ∧ vs[2]? = some (.str file tf) ∧ ((P.main.file : Str) == file) = true ∧ K.lookup cc = some ⟨cl, cld, .cell (some (.ref C)), csl⟩
theorem boot_super : bootBuiltins "super" = some (.type "super") := by decide +kernel
/-- the callee of a method call on one line -/
def plainO (o : PySem.Expr) (env : Env) : Sem Bool := do return (← importBound o env).getD true
theorem mline {o : PySem.Expr} {m : Str} {apos pos : Pos} {env : Env} {ov : Value} {n : Nat} {args : List (Bool × Sem Value)} {kws : List (Option Str × Sem Value)} (hf : methodCallForm n args kws = true) (hl : (apos.endLine == pos.line) = true) :
    methodCall o m apos pos env ov n args kws = (do
      let (f, first) ← holding [ov] (getMethod ov m (plainO o env))
      callWith pos f first args kws) := by
  have e1 : calleeOf (methodCallForm n args kws) o env ov m = getMethod ov m (plainO o env) := by rw [hf] <;> rfl
  have e2 : methodCallPos (methodCallForm n args kws) o env apos pos = pure pos := by
    unfold methodCallPos
    exact if_pos (by rw [hl, Bool.or_true])
  unfold methodCall
  rw [e1, e2]
  first
    | rfl
    | simp only [pure_bind]
section
variable {prog : Program} {w : World} {A : Around} {R : Result → Shared → Prop} {s : Shared} {K : Frag} {mg mb : Str → Option Value} {C : Addr}
/-- the built-in __init__, bound to the instance, called -/
theorem mw_call {h : Heap} {g : Array GenState} {d : Drawn} {tk : Nat} {os : OsState} {x u t : Addr} {rest : List Value} {E : Value → Shared → Prop} {Q : Value → Shared → Prop} (X : K.In h) (q : excInitIn K C veMro "ValueError.__new__" = true)
    (hu : h.get? u = some (kxs_mw "ValueError.__init__" x)) (he : h.get? x = some (excObj C t none .none)) (hz : rest.length ≤ sizeLine)
    (fin : ∀ h', (∀ b o, b ≠ x → h.get? b = some o → h'.get? b = some o) → h'.get? x = some (excObj C h.objs.size none .none) → Q .none ⟨h', g, d, tk, os⟩) :
    wpAny (model prog w) A (call (.ref u) rest) Q E ⟨h, g, d, tk, os⟩ := by
  obtain ⟨nm, N', qn, bs, bm, hdct, sn, sub, ab, col, dd, k0, k1, k2, k3, k5, hC, hT⟩ := excInit_of X q
  refine wpAny_call (codeAny_of_tree ?_)
  show wpAny _ A.in1 (callAny (.ref u) ⟨rest, []⟩) _ _ _
  simp only [callAny]
  refine wpAny_bind (wpAny_load hu ?_)
  simp only [kxs_mw, show (Value.type "method-wrapper" == Value.type "method" || Value.type "method-wrapper" == Value.type "builtin_function_or_method" || Value.type "method-wrapper" == Value.type "method-wrapper") = true by decide, if_true]
  refine KFB.if_so (by decide) ?_
  refine wpAny_bind (check_bound_init F.excBase_ValueError.toExcCallFacts hC he rfl ?_)
  refine wpAny_bind (wpAny_pure (wpAny_pure ?_))
  refine ⟨plainId_quiet F.excBase_ValueError.init.plain _, codeAny_builtin F.excBase_ValueError.initEntry ?_⟩
  exact exc_init_tree (cls := .ref C) (t0 := t) (dv := none) (c2 := .none) (c3 := .none) (b4 := .bool false) he hz fun h' k1 k2 _ => fin h' k1 k2
theorem err_init (T : ErrC prog K C) {fI : Addr} (hfI : findIn K (.ref C) "__init__" = some (some (.ref fI))) {x t0 : Addr} (X : K.In s.heap) (hlim : s.heap.NoLimit) (hg : s.heap.Ns mainGlobals mg) (hb : s.heap.Ns builtinsNs mb) (hmb : ∀ x : Str, x ≠ "__name__" → mb x = bootBuiltins x) (hsu : mg "super" = none)
    (htop : (prog.main.scope.names.lookup ("super" : Str)).isSome = false) (hx : s.heap.get? x = some (excObj C t0 none .none)) (hnx : K.lookup x = none) (hroom : A.depth < recursionLimit)
    (hq : ∀ h' tk t1, (∀ b o, b ≠ x → s.heap.get? b = some o → h'.get? b = some o) → h'.get? x = some (excObj C t1 none .none) → R (.ok (.ret .none)) { s with heap := h', toks := tk }) :
    codeAny (model prog w) A (.call (.ref fI) ⟨[.ref x], []⟩) R s := by
  obtain ⟨fI', cda, cc, qual, oc, od, kV, doc, pm, an, ct, osl, txt, k, p, p0, p1, p2, p3, p4, p5, ccl, cdd, vs, ccs, file, tf, cl, cld, csl, f0, f1, f2, f3, f4, f5, f6, f7, f8⟩ := T.fn
  obtain rfl : fI' = fI := by
    rw [hfI] at f1
    exact (Value.ref.inj (Option.some.inj (Option.some.inj f1))).symm
  refine ks_codeAny_call_defAt (fd := ksFn "__init__" qual (superArgs p) (superBody txt k p0 p1 p2 p3 p4 p5) superScope .none kV doc pm an (.ref cda) ct cc) (body := superBody txt k p0 p1 p2 p3 p4 p5) (binds := [("self", .ref x)]) hroom (X _ _ f3) rfl hlim (codeRec_of X f4) rfl
    (BindsTo.of_eq (by first | rfl | with_unfolding_all rfl)) (show ∀ x ∈ superScope.names, x.2 ≠ .cell from by decide) (fun y hy => ?_) (fun h₁ hns hk => ?_) rfl rfl rfl
  · have e : y = (("self" : Str), Value.ref x) := List.mem_singleton.mp hy
    subst e
    show superScope.names.lookup ("self" : Str) = some .local
    decide +kernel
  obtain ⟨hp, g, d, tk0, os⟩ := s
  have X1 : K.In h₁ := X.keeps hk
  have hx1 := hk _ _ hx
  have I1 : InstAt h₁ x (excObj C t0 none .none) C none := ⟨hx1, rfl, rfl, trivial⟩
  obtain ⟨cd, hcd⟩ : ∃ cd, clsIn K C = some cd := by
    have z := T.mC
    unfold mroIn at z
    cases e : clsIn K C with
    | none => rw [e] at z; cases z
    | some cd => exact ⟨cd, rfl⟩
  obtain ⟨oD, hD1, hD2⟩ : ∃ oD, h₁.get? C = some oD ∧ oD.data = .cls cd := by
    have z := hcd
    unfold clsIn at z
    split at z
    · rename_i c d cd' sl ho
      cases z
      exact ⟨_, X1 _ _ ho, rfl⟩
    · cases z
  have hxC : x ≠ C := ks_ne X1 I1 hcd
  show PySem.wpAt (model prog w) _ _ (execs (superBody txt k p0 p1 p2 p3 p4 p5) _) _ _ _
  generalize hE : callEnv (ksFn "__init__" qual (superArgs p) (superBody txt k p0 p1 p2 p3 p4 p5) superScope .none kV doc pm an (.ref cda) ct cc) hp.objs.size fI' = env
  have eE : env = ksEnv qual superScope hp.objs.size fI' (.ref cda) cc := by rw [← hE]; rfl
  have hf2 : h₁.get? fI' = _ := X1 _ _ f3
  have hns1 : h₁.Ns hp.objs.size (fun y => ([(("self" : Str), Value.ref x)] : List (Str × Value)).reverse.lookup y) := hns
  have he : eval (.Call (.Attribute (.Call (.Name "super" p0) [] [] p1) "__init__" p2) [.Constant (.str txt) k p3] [] p4) env = (do
      let ov ← attributeBase (.Call (.Name "super" p0) [] [] p1) "__init__" env (eval (.Call (.Name "super" p0) [] [] p1) env)
      standAt p2.atName
      let (f, first) ← holding [ov] (getMethod ov "__init__" (plainO (.Call (.Name "super" p0) [] [] p1) env))
      callWith p4 f first (backTo p4 (starEach [.Constant (.str txt) k p3] env)) []) := by
    show (do
      let ov ← attributeBase (.Call (.Name "super" p0) [] [] p1) "__init__" env (eval (.Call (.Name "super" p0) [] [] p1) env)
      standAt p2.atName
      methodCall (.Call (.Name "super" p0) [] [] p1) "__init__" p2 p4 env ov ([PySem.Expr.Constant (.str txt) k p3].length + ([] : List Keyword).length) (backTo p4 (starEach [.Constant (.str txt) k p3] env)) (backToKw p4 (keywordEach [] env))) = _
    refine congrArg (fun k => attributeBase (.Call (.Name "super" p0) [] [] p1) "__init__" env (eval (.Call (.Name "super" p0) [] [] p1) env) >>= k) (funext fun ov => ?_)
    refine congrArg (fun k => standAt p2.atName >>= k) (funext fun _ => ?_)
    exact mline rfl f0
  subst eE
  refine ks_wpAt_execs_cons (ks_wpAt_Expr_any (ks_wpAt_MethodCall (pl := plainO (.Call (.Name "super" p0) [] [] p1) (ksEnv qual superScope hp.objs.size fI' (.ref cda) cc)) ?_ he) rfl ?_)
  · refine ks_wpAt_super_base (by rfl) (by rfl) (by decide +kernel) rfl hf2 rfl rfl rfl (X1 _ _ f5) rfl f6 f7 htop ?_
    refine ks_loadName_global rfl (by rfl) (loadGlobal_builtin (hg.keeps hk) hsu (hb.keeps hk) ((hmb _ (by decide +kernel)).trans boot_super) ⟨rfl, ?_⟩)
    refine wpAny_loadName_free rfl (by rfl) rfl ⟨_, X1 _ _ f8, rfl⟩ ?_
    refine wpAny_loadName_local rfl (by rfl) hns1 rfl ?_
    refine ks_wpAny_isType_cls hD1 hD2 ⟨rfl, ?_⟩
    refine ks_wpAny_call_super hD1 hD2 I1.at_ I1.cls (fun c e => by cases e) (looks_mroIn X1 T.mC) (fun h2 e2 k2 => ?_)
    have X2 : K.In h2 := X1.keeps k2
    have I2 : InstAt h2 x (excObj C t0 none .none) C none := ⟨k2 _ _ hx1, rfl, rfl, trivial⟩
    have hsp := T.sup
    unfold ks_superIn at hsp
    rw [hcd] at hsp
    refine kxs_getMethod kxs_ValueError e2 (looks_opaque X2 T.any) (l₀ := cd.mro) (fun A Q E s k q => wpAny_bind ((looks_clsIn X2 hcd) A _ E s k (wpAny_pure q))) rfl X2 hsp (I2.type.andThen (looks_subIn X2 T.sV)) hxC (by decide +kernel) ?_
    refine kxs_callWith (i := "ValueError.__init__") (x := x) rfl (evalArgs_plain (Calls.spliced_cons (Calls.Constant_str (k := k) (pos := p3) (Calls.spliced_nil ⟨?_, ?_⟩))))
    · exact Heap.get?_push_at rfl rfl
    · refine mw_call (t := t0) (X2.keeps fun b o e => Heap.get?_push_of_some _ e) T.ini (Heap.get?_push_at rfl rfl) (Heap.get?_push_of_some _ (k2 _ _ hx1)) (show 1 ≤ sizeLine from by decide) fun h3 k3 e3 => ?_
      refine wpAt_of_wpAny (wpAny_execs_nil ?_)
      exact hq h3 _ _ (fun b o hb e => k3 b o hb (Heap.get?_push_of_some _ (k2 _ _ (hk _ _ e)))) e3
  · rfl
end
/-! ### raise C() -/
section
variable {X : Cx} {C : Addr}
theorem pmk_err {x : Str} {p pos : Pos} {k : Nat} (T : ErrC X.prog X.K C) (gC : X.mg x = some (.ref C)) (hr : Room k X.A) (hsu : X.mg "super" = none) (htop : (X.prog.main.scope.names.lookup ("super" : Str)).isSome = false) (hg : Gl X x := by rfl) (hd : (x == ("__debug__" : Str)) = false := by decide) :
    PMk X (.Call (.Name x p) [] [] pos) (fun σ H Q => Q (.ref C) none H) := by
  intro pins s σ H Q I h
  refine wpAny_Call_Name_kw (ld_glob I hg gC ?_ hd)
  refine callWith_K0 I.kIn T.kC ?_
  have X0 := I.kIn
  have hlim := I.nolimit
  obtain ⟨mb, hb, hmb⟩ := I.mod.blt
  have hbb := hb.keeps I.bk
  have hgg := I.mod.glob.keeps I.bk
  have fresh0 : H s.heap.objs.size = none := I.hok.fresh (Nat.le_refl _)
  have fresh1 : H (s.heap.objs.size + 1) = none := I.hok.fresh (Nat.le_succ _)
  obtain ⟨fI, _, _, _, _, _, _, _, _, _, _, _, _, _, _, _, _, _, _, _, _, _, _, _, _, _, _, _, _, _, _, f1, f2, _⟩ := T.fn
  obtain ⟨nm, N', qn, bs, bm, hdct, sn, sub, ab, col, dd, k0, k1, k2, k3, k5, hC, hT⟩ := excInit_of X0 T.ini
  have dp := hr.dp
  obtain ⟨hp, g, d, tk, os⟩ := s
  have kk : ∀ b o, hp.get? b = some o → ((hp.push (kdv_tup [])).push (HandSPX.excO C hp.objs.size)).get? b = some o := fun b o e => Heap.get?_push_of_some _ (Heap.get?_push_of_some _ e)
  have hget : ((hp.push (kdv_tup [])).push (HandSPX.excO C hp.objs.size)).get? (hp.objs.size + 1) = some (HandSPX.excO C hp.objs.size) := by heap_get
  have hnx : X.K.lookup (hp.objs.size + 1) = none := by
    cases e : X.K.lookup (hp.objs.size + 1) with
    | none => rfl
    | some o =>
      have z : hp.get? (hp.objs.size + 1) = some o := X0 _ _ e
      exact absurd (Nat.lt_of_succ_lt (Heap.lt_size z)) (Nat.lt_irrefl _)
  show wpAny _ _ (call (.ref C) []) _ _ _
  refine wpAny_call (HandSPX.call_own F.excBase_ValueError hT hC (looks_findIn X0 f1) (fun self => bind_fn X0 self f2) (Nat.zero_le _) ?_)
  refine err_init (mg := X.mg) (mb := mb) T f1 (x := hp.objs.size + 1) (t0 := hp.objs.size) (s := ⟨(hp.push (kdv_tup [])).push (HandSPX.excO C hp.objs.size), g, d, tk, os⟩) (X0.keeps kk) (hlim.keeps kk) (hgg.keeps kk) (hbb.keeps kk) hmb hsu htop hget hnx ?_ fun h' tk' t1 k' hx' => ?_
  · rw [make_depth]
    omega
  · refine ⟨rfl, ?_⟩
    refine ⟨hp.objs.size + 1, _, _, ⟨hp, g, d, tk, os⟩, H, .ref C, none, rfl, I, fun b o e => k' b o (Nat.ne_of_lt (Nat.lt_succ_of_lt (Heap.lt_size e))) (kk b o e), Heap.get?_none_of_le (Nat.le_succ _), hx', ⟨rfl, rfl⟩, rfl, rfl, fresh1, rfl, I.bare, raises_own T.sB T.tC, h⟩
end
end Sh
set_option Elab.async false
set_option linter.all false
set_option maxRecDepth 100000
set_option maxHeartbeats 4000000
namespace Sh
open PySem PySem.Spec PyProof.Rows L2 StX
section
variable {X : Cx} {CX : CXT} {n : Nat} {C g : Addr} {sp : Sp} {E : XK}
theorem run_at {pins : List (Addr × Obj)} {σ : L2.St} {H : Hp} {s : Shared} {A : Around} {Q : VK} {us : List Value} {ws : List V} (F : FnR X.prog X.w X.K X.mg X.base CX n g sp) (hr : Room n A) (e0 : Env0 X.prog X.w X.K X.mg X.base A X.stack s H) (hx : Passes CX X E) (I : Inv X pins σ H s) (r : Vals ws us) (h : sp ws H Q E) :
    codeAny (model X.prog X.w) A (.call (.ref g) ⟨us, []⟩) (fun r s' => match r with | .ok (.ret v) => EP X pins σ Q v s' | .ok _ => False | .error e => X.xe e s') s := by
  refine codeAny_mono (F A X.stack s H us ws Q E hr e0 r h) fun r s' hq => ?_
  cases r with
  | error e => exact hx pins σ H s e s' I hq
  | ok fl =>
    cases fl with
    | ret u => exact I.after hq
    | next => exact False.elim hq
    | brk => exact False.elim hq
    | cont => exact False.elim hq
/-- len(x) of an instance with its own __len__ -/
def rLenOwn (C : Addr) (sp : Sp) (E : XK) : List V → Hp → VK → Prop := fun xs H Q => ∃ a dx fs, xs = [V.ref a] ∧ H a = some (.ins C dx fs) ∧ sp [.ref a] H (fun z H' => ∃ i : Int, z = .int i ∧ (0 ≤ i ∧ i < 2 ^ 63) ∧ Q z H') E
theorem call_lenOwn (hs : PySem.W.findIn X.K (.ref C) "__len__" = some (some (.ref g))) (hf : PySem.W.isFn X.K (.ref g) = true) (F : FnR X.prog X.w X.K X.mg X.base CX n g sp) (hr : Room (n + 1) X.A) (hx : Passes CX X E) : CallR X (.builtin "len") (rLenOwn C sp E) := by
  intro pins s σ H xs us Q I r h
  obtain ⟨a, dx, fs, rfl, ha, q⟩ := h
  obtain ⟨u, rfl, ru⟩ := vals1 r
  cases (show u = Value.ref a from ru)
  obtain ⟨mA, O, _⟩ := ins_get I.hok ha
  obtain ⟨od, J, _⟩ := O.look
  obtain ⟨m, Fr0⟩ := I.fr
  refine PySem.W.len_K Fr0 I.ok.mod.kin J hs hf (wpAny_mono (wpAny_call (run_at (us := [.ref a]) (ws := [.ref a]) F hr.in1 I.env0.in1 hx I (.cons rfl .nil) q)) (fun w s' z => ?_) fun _ _ x => x)
  obtain ⟨z', H', I', rz, i, ei, hi, qz⟩ := z
  subst ei
  obtain ⟨t, e⟩ := (show ∃ t, w = Value.int i t from rz)
  cases e
  exact ⟨hi, .int i, H', I'.tok _, ⟨_, rfl⟩, qz⟩
/-- x in o, o an instance with its own __contains__ -/
def rInOwn (C : Addr) (sp : Sp) (E : XK) : R2 := fun x y H Q => ∃ a dx fs, y = V.ref a ∧ H a = some (.ins C dx fs) ∧ sp [.ref a, x] H (fun z H' => ∃ k, z = .bl k ∧ Q z H') E
theorem op_inOwn (hs : PySem.W.findIn X.K (.ref C) "__contains__" = some (some (.ref g))) (hf : PySem.W.isFn X.K (.ref g) = true) (F : FnR X.prog X.w X.K X.mg X.base CX n g sp) (hr : Room n X.A) (hx : Passes CX X E) : OpR X (compareOp .In) (rInOwn C sp E) := by
  intro pins s σ H x y v u Q I rx ry h
  obtain ⟨a, dx, fs, rfl, ha, q⟩ := h
  cases (show u = Value.ref a from ry)
  obtain ⟨mA, O, _⟩ := ins_get I.hok ha
  obtain ⟨od, J, _⟩ := O.look
  obtain ⟨m, Fr0⟩ := I.fr
  refine PySem.W.in_K Fr0 I.ok.mod.kin J hs hf (wpAny_mono (wpAny_call (run_at (us := [.ref a, v]) (ws := [.ref a, x]) F hr I.env0 hx I (.cons rfl (.cons rx .nil)) q)) (fun w s' z => ?_) fun _ _ x => x)
  obtain ⟨z', H', I', rz, k, ek, qz⟩ := z
  subst ek
  cases (show w = Value.bool k from rz)
  exact wpAny_truthy_bool ⟨.bl k, H', I', rfl, qz⟩
end
/-! ### xs.count(y), flat items -/
theorem count_eqU {y : V} : ∀ {xs : List V} {us : List Value}, Vals xs us → xs.all flatV = true → us.countP (eqU y) = xs.countP fun z => eqV z y
  | _, _, .nil, _ => rfl
  | _, _, .cons (a := x) (b := u) r t, f => by
    obtain ⟨f1, f2⟩ := Bool.and_eq_true_iff.mp (show (flatV x && List.all _ flatV) = true from f)
    rw [List.countP_cons, List.countP_cons, count_eqU t f2, eqU_of r f1]
def rCnt (K : PySem.W.Frag) : V → List V → Hp → VK → Prop := fun x xs H Q => ∃ (p : Addr) (ys : List V) (y : V), x = .ref p ∧ xs = [y] ∧ SqL K H p ys ∧ flatV y = true ∧ ys.all flatV = true ∧ Q (.int (ys.countP fun z => eqV z y)) H
theorem mt_count {X : Cx} : MtR X "list.count" (rCnt X.K) := by
  intro pins s σ H x xs v us Q I rx rxs h
  obtain ⟨p, ys, y, rfl, rfl, hs, fy, fa, q⟩ := h
  cases rx
  obtain ⟨u, rfl, ru⟩ := rxs.one
  obtain ⟨its, rv, ⟨⟨cls, dd, data, sl⟩, n, ho, hc, hdn, hd⟩, hlen⟩ := I.list hs
  simp only at hc hd
  subst hc hd
  refine call_meets PySem.F.slot_list_count ⟨_, ho, rfl⟩ PySem.F.entry_list_count (PySem.F.args_list_count_2 _ _)
    (SeqAt.list_countAt p its.toArray n dd sl u (eqU y)) ⟨ho, fun z hz => mem_eqAt ru fy rv fa z (by simpa using hz), ?_⟩
  have ec : its.toArray.toList.countP (eqU y) = ys.countP fun z => eqV z y := by
    rw [show its.toArray.toList = its by simp]
    exact count_eqU rv fa
  refine ⟨.int ((ys.countP fun z => eqV z y : Nat) : Int), H, I.tok _, ⟨s.toks, ?_⟩, q⟩
  show Value.int ((its.toArray.toList.countP (eqU y) : Nat) : Int) s.toks = Value.int ((ys.countP fun z => eqV z y : Nat) : Int) s.toks
  rw [ec]
end Sh
set_option Elab.async false
set_option linter.all false
set_option maxRecDepth 100000
set_option maxHeartbeats 4000000
namespace Sh
open PySem PySem.Spec PyProof.Rows L2 StX
/-! ### a def that is handed the exception that is handled -/
def FnP (P : Program) (w : World) (K : PySem.W.Frag) (mg : Str → Option Value) (base : Heap) (k : Nat) (f : Addr) (sp : Addr × Obj → Sp) : Prop :=
  ∀ (A : Around) (outer : List Env) (s : Shared) (H : Hp) (us : List Value) (vs : List V) (Q : VK) (E : XK) (p : Addr × Obj), L2H.RoomH k A → L2H.PinOk outer H s p → Env0 P w K mg base A outer s H → Vals vs us → sp p vs H Q E →
    codeAny (model P w) A (.call (.ref f) ⟨us, []⟩) (CR (L2.CX P w) outer P w H s Q E) s
section
variable {P : Program} {w : World} {K : PySem.W.Frag} {mg : Str → Option Value} {base : Heap}
theorem mkP {x qual : Str} {params : Arguments} {body : List Stmt} {scope : Scope} {f : Addr} {N ps : List Str} {k : Nat} {sp : Addr × Obj → Sp} (F : ∃ fd, FunD K x qual params body scope [] [] f fd) (S : FnScope N ps scope) (len : ∀ p vs H Q E, sp p vs H Q E → vs.length = ps.length)
    (hb : ∀ (kV doc pm : Value) (an : Option Addr) (cdv ct : Value) (us : List Value), us.length = ps.length → bindArgs (PySem.W.fnOf x qual params body scope .none kV doc pm an cdv ct) ⟨us, []⟩ = pure (ps.zip us))
    (hbody : ∀ (cdv : Value) (A : Around) (outer : List Env) (s : Shared) (H : Hp) (vs : List V) (Q : VK) (E : XK) (p : Addr × Obj), L2H.RoomH k (A.deeper (envOfC qual scope s.heap.objs.size f cdv)) → sp p vs H Q E →
      ∃ t, PSs (L2H.cxH (L2.CX P w) P w K mg base N qual scope f cdv A outer s H E p) body t ∧ t { nx := fun _ H' => Q .non H', rt := Q } (start N vs) H) : FnP P w K mg base (k + 1) f sp := by
  obtain ⟨fd, F⟩ := F
  have bb := F.bindsN hb
  obtain ⟨oc, od, dV, kV, doc, pm, an, cdv, ct, osl, rfl, lk, hcd, _, _⟩ := F.ex
  intro A outer s H us vs Q E p hr hpin e0 r hsp
  have hl := len _ _ _ _ _ hsp
  have KX : K.In s.heap := e0.mod.kin.keeps fun b o e => (e0.bs b o e).1
  have lim : s.heap.NoLimit := e0.mod.nolimit.keeps fun b o e => (e0.bs b o e).1
  have hlu : us.length = ps.length := by rw [← r.length]; exact hl
  have hb2 := bb s us KX (by rw [List.append_nil]; exact hlu)
  rw [List.append_nil] at hb2
  have hkind : ∀ y ∈ ps.zip us, scope.names.lookup y.1 = some .local ∨ (scope.names.lookup y.1 = some .cell ∧ ((cellsFrom (s.heap.objs.size + 1) scope.names []).lookup y.1).isSome = true) := fun ⟨n, v⟩ hy => by
    rcases S.par n (List.of_mem_zip hy).1 with q | q
    · exact .inl q
    · exact .inr ⟨q, PySem.W.cellsFrom_some _ _ _ (.inl q)⟩
  refine codeAny_call_function hr.depth (KX _ _ lk) rfl S.co S.gen rfl (PySem.W.codeRec_of KX hcd) (hb2 _ _ _ _ ?_)
  refine wpAny_newFunctionEnv_cells S.kind hkind fun env he s1 x => ?_
  subst he
  refine ⟨lim.keeps x.toInCall.keep, codeAny_func ?_⟩
  obtain ⟨t, ht, hq⟩ := hbody cdv A outer s H vs Q E p (hr.deeper _) hsp
  have I : Inv (L2H.cxH (L2.CX P w) P w K mg base N qual scope f cdv A outer s H E p) [] (L2.start N vs) H s1 := L2H.inv_startH S hpin e0 hl r x
  refine wpAny_mono (ht.run [] s1 (L2.start N vs) H _ I hq) (fun fl s' hs => ?_) fun e s' hs => hs
  have fin : ∀ {σ' : L2.St} {H' : Hp} {v : V} {u : Value}, Inv (L2H.cxH (L2.CX P w) P w K mg base N qual scope f cdv A outer s H E p) [] σ' H' s' → RelV v u → Q v H' → CE outer P w H s Q u s' :=
    fun {σ' H' v u} J rv q => ⟨v, H', J.os, J.bare, J.base, J.hok, rv, q⟩
  cases fl with
  | ret u =>
    obtain ⟨v, σ', H', J, rv, q⟩ := hs
    exact fin J rv q
  | next =>
    obtain ⟨σ', H', J, q⟩ := hs
    exact fin (v := V.non) (u := Value.none) J rfl q
  | brk =>
    obtain ⟨_, _, _, q⟩ := hs
    exact False.elim q
  | cont =>
    obtain ⟨_, _, _, q⟩ := hs
    exact False.elim q
end
section
variable {X : Cx} {k : Nat} {f : Addr} {x : Str} {q pos : Pos} {e : PySem.Expr} {es : List PySem.Expr} {t : TA} {p : Addr × Obj}
/-- f(e, ..) where p is pinned -/
theorem pe_callP {sp : Addr × Obj → Sp} (F : FnP X.prog X.w X.K X.mg X.base k f sp) (hr : L2H.RoomH k X.A) (hp : p ∈ X.pn) (hm : X.mg x = some (.ref f)) (hk : PySem.W.keepIn X.K (.ref f) = true) (ha : PA X (e :: es) t) (hg : Gl X x := by rfl) (hd : (x == ("__debug__" : Str)) = false := by decide)
    (he : starEach (e :: es) X.env = (false, eval e X.env) :: starEach es X.env := by rfl) (hpl : (backTo pos (starEach es X.env)).any (·.1) = false := by rfl) :
    PE X (.Call (.Name x q) (e :: es) [] pos) (tC1 (sp p) E0 t) := by
  refine ⟨fun pins s σ H Q I h => ?_⟩
  refine wpAny_Call_Name_kw (ld_glob I hg hm ?_ hd)
  refine PySem.W.callWith_K (h₀ := X.base) I.ok.mod.kin hk (thn (ha.run pos pins s σ H _ I h) fun us s1 ⟨vs, H1, I1, r, q⟩ => ⟨I1.kIn, ?_⟩) he hpl
  have P1 := I1.pin p (List.mem_append_left _ hp)
  have hpin : L2H.PinOk X.stack H1 s1 p := ⟨P1.1, P1.2.1, fun hm => (List.mem_cons.mp (I1.stkSub p.1 hm)).elim P1.2.2.1 P1.2.2.2.1, P1.2.2.2.2⟩
  refine wpAny_call (codeAny_mono (F X.A X.stack s1 H1 us vs Q E0 p hr hpin I1.env0 r q) fun r s' hq => ?_)
  cases r with
  | error e =>
    obtain ⟨_, _, _, _, _, _, _, _, _, _, _, _, z⟩ := hq
    exact z.elim
  | ok fl =>
    cases fl with
    | ret u => exact I1.after hq
    | next => exact False.elim hq
    | brk => exact False.elim hq
    | cont => exact False.elim hq
/-- isinstance(e, c), e the pinned exception -/
theorem call_isP {a D : Addr} {oe : Obj} (C : ExcC X.K D) (hz : Zc (.ref D) none oe) (hf : ∃ vs, oe.data = .fields vs) (hp : (a, oe) ∈ X.pn) : CallR X (.builtin "isinstance") (rIsE X.K D a) := by
  intro pins s σ H xs us Q I r h
  obtain ⟨c, cv, b, rfl, hcv, e, q⟩ := h
  cases r with
  | cons rx rr =>
    cases rr with
    | cons rt rr =>
      cases rr
      cases rx
      have ec := hcv _ rt
      subst ec
      obtain ⟨hget, _⟩ := I.pin (a, oe) (List.mem_append.mpr (.inl hp))
      obtain ⟨vs, hv⟩ := hf
      have J : PySem.W.InstAt s.heap a oe D none := by
        obtain ⟨oc, od, oda, osl⟩ := oe
        obtain ⟨h1, h2⟩ := hz
        dsimp only at h1 h2 hv
        subst h1 h2 hv
        exact ⟨hget, rfl, rfl, trivial⟩
      exact PySem.W.kia_one (PySem.W.handS_kitx_exc C.hg C.hk C.hs C.hd C.ha C.hn C.ht C.hm) I.kIn J e (fun z => nomatch z) fun tk => ⟨.bl b, H, I.kept (t' := tk) fun _ _ z => z, rfl, q⟩
/-- o.m(e, ..), what is raised wished for at the caller's slots -/
def tMethRS (C : Addr) (m : Str) (sp : Sp) (E : L2.St → XK) (ta : TE) (t : TA) : TE := fun σ H Q => ta σ H fun x H1 => ∃ a dx fs, x = .ref a ∧ H1 a = some (.ins C dx fs) ∧ fs.lookup m = none ∧ t σ H1 fun vs H2 => sp (x :: vs) H2 Q (E σ)
theorem pe_methRS {CX : CXT} {C : Addr} {m : Str} {sp : Sp} {E : L2.St → XK} {o : PySem.Expr} {ta : TE} {apos : Pos} {pl : Sem Bool} (he : PE X o ta) (c : Cls X.K C) (hm : Meth X.K C m f)
    (F : FnR X.prog X.w X.K X.mg X.base CX k f sp) (hr : Room k X.A) (hx : ∀ σ, PassesAt CX X σ (E σ)) (ha : PA X (e :: es) t)
    (hst : starEach (e :: es) X.env = (false, eval e X.env) :: starEach es X.env := by rfl) (hpl : (backTo pos (starEach es X.env)).any (·.1) = false := by rfl)
    (ht : eval (.Call (.Attribute o m apos) (e :: es) [] pos) X.env = (do
      let ov ← eval o X.env
      standAt apos.atName
      let (f, first) ← holding [ov] (getMethod ov m pl)
      callWith pos f first (backTo pos (starEach (e :: es) X.env)) (backToKw pos (keywordEach [] X.env))) := by rfl) :
    PE X (.Call (.Attribute o m apos) (e :: es) [] pos) (tMethRS C m sp E ta t) := by
  refine ⟨fun pins s σ H Q I h => ?_⟩
  refine PySem.W.methodCall_KW (pl := pl) (thn (he.run pins s σ H _ I h) fun u s1 ⟨x, H1, I1, rx, a, dx, fs, ex, ea, l, q⟩ => ?_) ht
  subst ex
  obtain rfl : u = Value.ref a := rx
  refine getmeth_ok I1 ea c hm l ?_
  refine PySem.W.callWith_K (first := [.ref a]) (h₀ := X.base) I.ok.mod.kin hm.kp (thn (ha.run pos pins s1 σ H1 _ I1 q) fun us s2 ⟨vs, H2, I2, r, q2⟩ => ⟨I2.kIn, ?_⟩) hst hpl
  refine wpAny_call (codeAny_mono (F X.A X.stack s2 H2 (.ref a :: us) (.ref a :: vs) Q (E σ) hr I2.env0 (.cons rfl r) q2) fun r s' hq => ?_)
  cases r with
  | error e => exact hx σ pins H2 s2 e s' I2 hq
  | ok fl =>
    cases fl with
    | ret u => exact I2.after hq
    | next => exact False.elim hq
    | brk => exact False.elim hq
    | cont => exact False.elim hq
end
end Sh
set_option Elab.async false
set_option linter.all false
set_option maxRecDepth 100000
set_option maxHeartbeats 4000000
namespace Sh
open PySem PySem.Spec PyProof.Rows L2 StX
section
variable {X : Cx} (K : PySem.W.Frag)
theorem ixl (h : X.K = K := by rfl) : IxR X (rIxL K) := by subst h; exact ix_list
theorem ixt (h : X.K = K := by rfl) : IxR X (rIxT K) := by subst h; exact ix_tup
theorem ixq (h : X.K = K := by rfl) : IxR X (rIx K) := by subst h; exact ix_seq
theorem inq (h : X.K = K := by rfl) : OpR X (compareOp .In) (rIn K false) := by subst h; exact op_in_seq
theorem notInq (h : X.K = K := by rfl) : OpR X (compareOp .NotIn) (rIn K true) := by subst h; exact op_notIn_seq
def rLenQ (K : PySem.W.Frag) : List V → Hp → VK → Prop := fun xs H Q => ∃ p ys, xs = [.ref p] ∧ (SqL K H p ys ∨ SqT K H p ys) ∧ Q (.int ys.length) H
theorem lenq (h : X.K = K := by rfl) : CallR X (.builtin "len") (rLenQ K) := by subst h; exact call_len_seq
def rListQ (K : PySem.W.Frag) : List V → Hp → VK → Prop := fun xs H Q => ∃ p ys, xs = [.ref p] ∧ (SqL K H p ys ∨ SqT K H p ys) ∧ ∀ l, H l = none → Q (.ref l) (upd H l (.lst ys))
theorem listq (h : X.K = K := by rfl) : CallR X (.type "list") (rListQ K) := by subst h; exact call_list_of
def rTupQ (K : PySem.W.Frag) : List V → Hp → VK → Prop := fun xs H Q => ∃ p ys, xs = [.ref p] ∧ ((SqL K H p ys ∧ ∀ l, H l = none → Q (.ref l) (upd H l (.tup ys))) ∨ (SqT K H p ys ∧ Q (.ref p) H))
theorem tupq (h : X.K = K := by rfl) : CallR X (.type "tuple") (rTupQ K) := by subst h; exact call_tuple_of
theorem sll (h : X.K = K := by rfl) : SlR X (rSlL K) := by subst h; exact sl_list
theorem slt (h : X.K = K := by rfl) : SlR X (rSlT K) := by subst h; exact sl_tup
theorem anyq (hc : X.calm = true) (h : X.K = K := by rfl) : CallR X (.builtin "any") (rAny K) := by subst h; exact cr_any hc
theorem allq (hc : X.calm = true) (h : X.K = K := by rfl) : CallR X (.builtin "all") (rAll K) := by subst h; exact cr_all hc
theorem maxq (hc : X.calm = true) (h : X.K = K := by rfl) : CallR X (.builtin "max") (rMax K) := by subst h; exact cr_max hc
theorem isiq (h : X.K = K := by rfl) : CallR X (.builtin "isinstance") (rIsi K) := by subst h; exact call_isi
theorem idxq (h : X.K = K := by rfl) : MtR X "list.index" (rIndex K) := by subst h; exact mt_index
theorem cntq (h : X.K = K := by rfl) : MtR X "list.count" (rCnt K) := by subst h; exact mt_count
section
variable {tg l e : PySem.Expr} {tl te : TE} {pos : Pos} {es : List PySem.Expr} {t : TA}
theorem pil (hl : PE X l tl) (h : X.K = K := by rfl) : PI X tg l (iList K tl) := by subst h; exact pi_list hl
theorem pit (hl : PE X l tl) (h : X.K = K := by rfl) : PI X tg l (iTup K tl) := by subst h; exact pi_tup hl
theorem pgt {k : Nat} {ts : TGs} {n : Nat} (hc : X.calm = true) (hh : PGs X es ts) (h : X.K = K := by rfl) (hn : (assignEach es X.env).length = n := by rfl) (hst : (assignEach es X.env).findIdx? (·.1) = none := by rfl) : PG X (.Tuple es k pos) (gTup K n ts) := by
  subst h; exact pg_tup hc hh hn hst
theorem fldq {f : Str} (he : PE X e te) (hb : attributeBase e f X.env (eval e X.env) = eval e X.env) (h : X.K = K := by rfl) : PE X (.Attribute e f pos) (tFld K te f) := by subst h; exact pe_fld he hb
theorem sfldq {o v : PySem.Expr} {f : Str} {pos' : Pos} {ta tv : TE} (ha : PE X o ta) (hv : PE X v tv) (hs : swapsWith v (some (.Attribute o f pos')) pos.line X.env = pure false) (h : X.K = K := by rfl) : PS X (.Assign [.Attribute o f pos'] v pos) (sFld K ta tv f) := by subst h; exact ps_fld ha hv hs
theorem starq {p : Pos} (he : PE X e te) (hr : PA X es t) (h : X.K = K := by rfl) (hs : starEach (.Starred e p :: es) X.env = (true, eval e X.env) :: starEach es X.env := by rfl) : PA X (.Starred e p :: es) (tStar K te t) := by subst h; exact pa_star he hr hs
end
end
end Sh
set_option Elab.async false
set_option linter.all false
set_option maxRecDepth 100000
set_option maxHeartbeats 4000000
namespace Sh
open PySem PySem.Spec PyProof.Rows L2 StX
section
variable {P : Program} {w : World} {K : PySem.W.Frag} {mg : Str → Option Value} {base : Heap}
/-! ### is_atom -/
def spIsAtom : Sp := fun vs H Q _ => ∃ v c, vs = [v] ∧ IsC H v c ∧ Q (.bl (isAt c)) H
theorem sc_is_atom : FnScope ["formula"] ["formula"] (defScope s_is_atom) := ⟨rfl, rfl, rfl, by decide +kernel, rfl, by decide +kernel, by decide +kernel⟩
theorem ok_is_atom (T : Txt w K mg) : Fn P w K mg base 1 (He.ga K "is_atom") spIsAtom := by
  refine mkN T.F_is_atom sc_is_atom (fun vs H Q E h => ?_) (fun _ _ _ _ _ _ us hl => match us, hl with | [_], _ => rfl) (fun cdv A outer s H vs Q E hr h => ?_)
  · obtain ⟨v, c, rfl, _⟩ := h
    rfl
  obtain ⟨v, c, rfl, hc, q⟩ := h
  refine ⟨_, (pss_one (ps_ret (pe_or (pe_cmpR op_eq (pe_ix (ixt K) (pv 0) pe_int (fun _ _ => rfl)) pe_str (nomark _)) (pe_one (pe_cmpR op_eq (pe_ix (ixt K) (pv 0) pe_int (fun _ _ => rfl)) pe_str (nomark _)))))), ?_⟩
  obtain ⟨a, xs, rfl, ha⟩ := hc.tup
  refine ⟨_, rfl, a, _, 0, _, rfl, rfl, SqT.of ha, at0 _ _, rfl, _, rfl, ?_⟩
  refine ite2 (fun e => ?_) (fun e => ?_)
  · rw [tag_sg] at e
    have z : isAt c = true := by rw [isAt, e, Bool.true_or]
    rw [← z]
    exact q
  · rw [tag_sg] at e
    refine ⟨_, rfl, a, _, 0, _, rfl, rfl, SqT.of ha, at0 _ _, rfl, ?_⟩
    have z : isAt c = decide (V.str (tag c) = V.str "some") := by rw [tag_sm, isAt, Bool.eq_false_iff.mpr e, Bool.false_or]
    rw [← z]
    exact q
/-! ### leaves_of -/
def spLeaves (d : Nat) : Sp := fun vs H Q _ => ∃ M v c, vs = [v] ∧ Av M H ∧ IsC (mi M H) v c ∧ c.depth ≤ d ∧ c.leaves.length ≤ 100000 ∧
  ∀ l xs H', Same H H' → H l = none → H' l = some (.lst xs) → AreC (mi (l :: M) H') xs c.leaves → Q (.ref l) H'
theorem sc_leaves_of : FnScope ["condition", "found", "part"] ["condition"] (defScope s_leaves_of) := ⟨rfl, rfl, rfl, by decide +kernel, rfl, by decide +kernel, by decide +kernel⟩
theorem up_leaves {d : Nat} {f : Addr} {k : Nat} (F : Fn P w K mg base k f (spLeaves (d + 1))) : Fn P w K mg base k f (spLeaves d) := F.imp fun vs H Q E ⟨M, v, c, h1, h2, h3, h4, h5, h6⟩ => ⟨M, v, c, h1, h2, h3, Nat.le_succ_of_le h4, h5, h6⟩
theorem ok_leaves_step (T : Txt w K mg) {d j : Nat} (hj : 1 ≤ j) (G_is_atom : Fn P w K mg base 1 (He.ga K "is_atom") spIsAtom) (G_leaves_of : d = 0 ∨ Fn P w K mg base j (He.ga K "leaves_of") (spLeaves (d - 1))) : Fn P w K mg base (j + 1) (He.ga K "leaves_of") (spLeaves d) := by
  have G_leaves_of : Fn P w K mg base j (He.ga K "leaves_of") (fun vs H Q E => 0 < d ∧ spLeaves (d - 1) vs H Q E) := by
    rcases G_leaves_of with e | G
    · intro A outer s H us vs Q E _ _ _ hs
      exact absurd hs.1 (by omega)
    · exact G.imp fun vs H Q E h => h.2
  refine mkN T.F_leaves_of sc_leaves_of (fun vs H Q E h => ?_) (fun _ _ _ _ _ _ us hl => match us, hl with | [_], _ => rfl) (fun cdv A outer s H vs Q E hr h => ?_)
  · obtain ⟨M, v, c, rfl, _⟩ := h
    rfl
  obtain ⟨M, v, c, rfl, av, hc, hd, hl, q⟩ := h
  have hcH : IsC H v c := hc.same (mi_le M H)
  refine ⟨_, (pss_cons (ps_if (PW.pt (pw_or (pt_cmpR op_eq (pe_ix (ixt K) (pv 0) pe_int (fun _ _ => rfl)) pe_str (nomark _)) (pw_or1 (pt_val (pe_callR G_is_atom (hr.mono (by omega)) T.g_is_atom (kp T.F_is_atom) passL (pa_cons (pv 0) pa_nil)))))) (pss_one (ps_ret (pe_lst (pa_cons (pv 0) pa_nil)))) pss_nil)
      (pss_cons (ps_set (i := 1) sc_leaves_of.nd rfl (Or.inl rfl) (pe_lst pa_nil))
      (pss_cons (ps_for PassesOwn.never rfl (pit K (pe_slice (slt K) (pv 0) (po_some pe_int) po_none)) (pg_name (i := 2) sc_leaves_of.nd rfl (Or.inl rfl)) (pss_one (ps_expr (pe_bm PySem.F.plainAttrs_list PySem.F.slot_list_extend PySem.F.type_list_extend mt_extend (pv 1) (pa_cons (pe_callR G_leaves_of (hr.mono (by omega)) T.g_leaves_of (kp T.F_leaves_of) passL (pa_cons (pv 2) pa_nil)) pa_nil)))))
      (pss_one (ps_ret (pv 1)))))), ?_⟩
  obtain ⟨a, xs, rfl, ha⟩ := hcH.tup
  have leafend : c.leaf = true → ∀ p, H p = none → Q (.ref p) (upd H p (.lst [.ref a])) := fun hlf p hp => by
    refine q p _ _ (same_new hp _) hp upd_same ?_
    rw [Cnd.leaves_leaf hlf]
    exact .cons (hc.same (carry (same_new hp _) hp)) .nil
  refine ⟨_, rfl, a, _, 0, _, rfl, rfl, SqT.of ha, at0 _ _, rfl, _, rfl, ?_⟩
  refine ite2 (fun e => ?_) (fun e => ?_)
  · rw [tag_us] at e
    refine iteT ?_
    exact ⟨_, rfl, by show 1 ≤ sizeLine; decide, leafend (by rw [leaf_eq, e, Bool.true_or])⟩
  · rw [tag_us] at e
    refine ⟨_, rfl, _, c, rfl, hcH, _, rfl, ?_⟩
    refine ite2 (fun e2 => ?_) (fun e2 => ?_)
    · exact ⟨_, rfl, by show 1 ≤ sizeLine; decide, leafend (by rw [leaf_eq, e2, Bool.or_true])⟩
    · have nl : c.leaf = false := by rw [leaf_eq, Bool.eq_false_iff.mpr e, Bool.eq_false_iff.mpr e2]; rfl
      obtain ⟨a', xs', ea, ha', hp⟩ := hc.node nl
      cases ea
      have ha2 := (mi_some ha').1
      rw [ha] at ha2
      cases ha2
      refine ⟨Nat.zero_le _, fun l nl' => ?_⟩
      have s1 : Same H (upd H l (.lst [])) := same_new nl' _
      refine ⟨_, rfl, 1, rfl, a, _, rfl, SqT.of (s1 _ _ ha), cut1_ne _ _, fun p np => ?_⟩
      rw [cut1]
      have s2 : Same H (upd (upd H l (.lst [])) p (.tup xs)) := s1.new np _
      have npl : l ≠ p := ne_of_none upd_same np
      refine ⟨p, rfl, ⟨_, SqT.of upd_same⟩, for_tup (K := K) (a := p) (xs := xs) (fun i σ H' => ∃ z ys, σ = [some (.ref a), some (.ref l), z] ∧ Same H H' ∧ H' p = some (.tup xs) ∧ H' l = some (.lst ys) ∧
        AreC (mi (l :: M) H') ys ((c.parts.take i).flatMap Cnd.leaves)) ⟨none, [], rfl, s2, upd_same, by rw [upd_ne npl]; exact upd_same, .nil⟩ (fun i σ H' _ ⟨_, _, _, _, h, _⟩ => SqT.of h) ?_ ?_⟩
      · rintro i x σ H' hi ⟨z, ys, rfl, sH, hp', hl', ar⟩
        obtain ⟨pc, hpc, hx⟩ := paired_get hp hi
        have hm := List.mem_of_getElem? hpc
        have hdp := Cnd.parts_depth hm
        have av' : Av (l :: M) H' := (av.same sH).cons hl'
        have hx' : IsC (mi (l :: M) H') x pc := hx.same (carry sH nl')
        refine ⟨_, rfl, .inl ⟨rfl, _, SqL.of hl'⟩, _, rfl, ?_⟩
        refine ⟨by omega, l :: M, x, pc, rfl, av', hx', by omega, Nat.le_trans (Cnd.part_leaves_len hm) hl, fun l2 xs2 H2 s3 n2 e2 ar2 => ?_⟩
        have hl2 := s3 _ _ hl'
        have tk := take_more hpc
        have sz : ys.length + xs2.length ≤ sizeLine := by
          have e1 := paired_len ar
          have e3 := paired_len ar2
          have z1 : ((c.parts.take (i + 1)).flatMap Cnd.leaves).length ≤ c.leaves.length := by
            rw [Cnd.leaves_node nl]
            exact flat_take _ _ _
          rw [tk, List.flatMap_append, List.length_append] at z1
          have z2 : ([pc].flatMap Cnd.leaves).length = pc.leaves.length := by simp
          rw [z2] at z1
          exact big_line (by omega)
        refine ⟨l, l2, ys, xs2, rfl, rfl, hl2, e2, sz, ?_⟩
        have nlp : p ≠ l := npl.symm
        refine ⟨_, ys ++ xs2, rfl, (sH.trans s3).put nl' _, by rw [upd_ne nlp]; exact s3 _ _ hp', upd_same, ?_⟩
        rw [tk, List.flatMap_append]
        have up : Same (mi (l :: M) H2) (mi (l :: M) (upd H2 l (.lst (ys ++ xs2)))) := (ta_put (M := [l]) (by simp) _).mi (by simp)
        refine paired_app ((ar.same (mi_same s3)).same up) ?_
        have e3 : [pc].flatMap Cnd.leaves = pc.leaves := by simp
        rw [e3]
        exact (ar2.same (mi_sub _ fun _ => List.mem_cons_of_mem _)).same up
      · rintro σ H' ⟨z, ys, rfl, sH, hp', hl', ar⟩
        refine ⟨_, rfl, q l ys H' sH nl' hl' ?_⟩
        rw [Cnd.leaves_node nl, ← List.take_length (l := c.parts), ← paired_len hp]
        exact ar
theorem ok_leaves (T : Txt w K mg) : ∀ d, Fn P w K mg base (d + 2) (He.ga K "leaves_of") (spLeaves d)
  | 0 => ok_leaves_step T (Nat.le_refl _) (ok_is_atom T) (.inl rfl)
  | d + 1 => ok_leaves_step T (by omega) (ok_is_atom T) (.inr (ok_leaves T d))
end
end Sh
set_option Elab.async false
set_option linter.all false
set_option maxRecDepth 100000
set_option maxHeartbeats 4000000
namespace Sh
open PySem PySem.Spec PyProof.Rows L2 StX
section
variable {P : Program} {w : World} {K : PySem.W.Frag} {mg : Str → Option Value} {base : Heap}
/-! ### used_in -/
def spUsed (d : Nat) : Sp := fun vs H Q _ => ∃ M v c, vs = [v] ∧ Av M H ∧ IsC (mi M H) v c ∧ c.depth ≤ d ∧ c.leaves.length ≤ 100000 ∧
  ∀ l H', Same H H' → H l = none → H' l = some (.lst (c.used.map V.str)) → Q (.ref l) H'
theorem isUs_shape {c : C} (h : isUs c = true) : ∃ n, c = .us n := by
  cases c with
  | us n => exact ⟨n, rfl⟩
  | _ => cases h
theorem used_take_us {l : List C} {i : Nat} {c : C} (h : l[i]? = some c) : (l.take (i + 1)).filterMap Cnd.us? = (l.take i).filterMap Cnd.us? ++ (match c.us? with | some n => [n] | none => []) := by
  rw [take_more h, List.filterMap_append]
  cases e : c.us? with
  | none => simp [List.filterMap_cons, e]
  | some n => simp [List.filterMap_cons, e]
theorem sc_used_in : FnScope ["condition", "leaf"] ["condition"] (defScope s_used_in) := ⟨rfl, rfl, rfl, by decide +kernel, rfl, by decide +kernel, by decide +kernel⟩
theorem ok_used (T : Txt w K mg) (d : Nat) : Fn P w K mg base (d + 3) (He.ga K "used_in") (spUsed d) := by
  have G_leaves_of : Fn P w K mg base (d + 2) (He.ga K "leaves_of") (spLeaves d) := ok_leaves T d
  refine mkN T.F_used_in sc_used_in (fun vs H Q E h => ?_) (fun _ _ _ _ _ _ us hl => match us, hl with | [_], _ => rfl) (fun cdv A outer s H vs Q E hr h => ?_)
  · obtain ⟨M, v, c, rfl, _⟩ := h
    rfl
  obtain ⟨M, v, c, rfl, av, hc, hd, hl, q⟩ := h
  refine ⟨_, (pss_one (ps_ret (pe_lc (own := [("leaf", 1)]) (g := gName 1) (tt := _) rfl sc_used_in.nd (pil K (pe_callR G_leaves_of (hr.mono (by omega)) T.g_leaves_of (kp T.F_leaves_of) passL (pa_cons (pv 0) pa_nil))) (blkOk_by (N := ["condition", "leaf"]) (sc := defScope s_used_in) (by decide +kernel)) (fun _ _ _ _ _ => (pg_name (i := 1) sc_used_in.nd rfl (Or.inl rfl))) (fun _ _ _ _ _ => (pts_one (pt_cmpR op_eq (pe_ix (ixt K) (pv 1) pe_int (fun _ _ => rfl)) pe_str (nomark _)))) (fun _ _ _ _ _ => (pe_ix (ixt K) (pv 1) pe_int (fun _ _ => rfl)))))), ?_⟩
  refine ⟨_, rfl, M, v, c, rfl, av, hc, hd, hl, fun l xs H1 s1 n1 e1 ar => ⟨l, rfl, ⟨_, SqL.of e1⟩, fun D nD => ?_⟩⟩
  have HD : H D = none := s1.free nD
  refine lc_list (K := K) (a := l) (xs := xs) (fun i H' => Same H1 H' ∧ H' D = some (.lst (((c.leaves.take i).filterMap Cnd.us?).map V.str)))
    ⟨same_new nD _, upd_same⟩ (fun i H' _ h => SqL.of (h.1 _ _ e1)) ?_ ?_
  · rintro i x H' hi ⟨s2, eD⟩
    obtain ⟨lc, hlc, hx⟩ := paired_get ar hi
    have hxH : IsC H' x lc := (hx.same (mi_le _ _)).same s2
    obtain ⟨a, ys, rfl, ha⟩ := hxH.tup
    refine ⟨rfl, ?_⟩
    refine ⟨_, rfl, a, _, 0, _, rfl, rfl, SqT.of ha, at0 _ _, rfl, _, rfl, ?_⟩
    have tk := used_take_us hlc
    refine ite2 (fun e => ?_) (fun e => ?_)
    · rw [tag_us] at e
      obtain ⟨n, rfl⟩ := isUs_shape e
      obtain ⟨a', ea, ha2⟩ := hxH
      cases ea
      refine ⟨_, rfl, a, _, 1, _, rfl, rfl, SqT.of ha2, at1 _ _ _, _, eD, ?_, ?_⟩
      · refine big_line' ?_
        rw [List.length_map]
        have z1 := List.length_filterMap_le Cnd.us? (c.leaves.take i)
        rw [List.length_take] at z1
        omega
      · refine ⟨s2.put nD _, ?_⟩
        rw [upd_same, tk, List.map_append]
        rfl
    · rw [tag_us] at e
      refine ⟨s2, ?_⟩
      have z : lc.us? = none := by
        cases y : lc.us? with
        | none => rfl
        | some n => exact absurd (by rw [isUs, y]; rfl) e
      rw [eD, tk, z, List.append_nil]
  · rintro H' ⟨s2, eD⟩
    refine q D H' (s1.trans s2) HD ?_
    rw [eD]
    have z := paired_len ar
    rw [z, List.take_length]
    rfl
/-! ### depth_of -/
def pureC (c : C) : Prop := ∀ l ∈ c.leaves, Cnd.us? l = none
theorem pure_part {c x : C} (h : pureC c) (hx : x ∈ c.parts) : pureC x := fun l hl => h l (Cnd.part_leaves hx hl)
theorem pure_leaf {c : C} (h : pureC c) (hl : c.leaf = true) : isAt c = true := by
  have z := h c (by rw [Cnd.leaves_leaf hl]; exact List.mem_singleton.mpr rfl)
  rw [leaf_eq, isUs, z] at hl
  simpa using hl
theorem at_leaf {c : C} (h : isAt c = true) : c.leaf = true := by rw [leaf_eq, h, Bool.or_true]
def spDepth (d : Nat) : Sp := fun vs H Q _ => ∃ v c, vs = [v] ∧ IsC H v c ∧ pureC c ∧ c.depth ≤ d ∧ ∀ H', Same H H' → Q (.int c.depth) H'
theorem sc_depth_of : FnScope ["formula", "part"] ["formula"] (defScope s_depth_of) := ⟨rfl, rfl, rfl, by decide +kernel, rfl, by decide +kernel, by decide +kernel⟩
theorem ok_depth_step (T : Txt w K mg) {d j : Nat} (hj : 1 ≤ j) (G_is_atom : Fn P w K mg base 1 (He.ga K "is_atom") spIsAtom) (G : d = 0 ∨ Fn P w K mg base j (He.ga K "depth_of") (spDepth (d - 1))) : Fn P w K mg base (j + 1) (He.ga K "depth_of") (spDepth d) := by
  have G_depth_of : Fn P w K mg base j (He.ga K "depth_of") (fun vs H Q E => 0 < d ∧ spDepth (d - 1) vs H Q E) := by
    rcases G with e | G
    · intro A outer s H us vs Q E _ _ _ hs
      exact absurd hs.1 (by omega)
    · exact G.imp fun vs H Q E h => h.2
  refine mkN T.F_depth_of sc_depth_of (fun vs H Q E h => ?_) (fun _ _ _ _ _ _ us hl => match us, hl with | [_], _ => rfl) (fun cdv A outer s H vs Q E hr h => ?_)
  · obtain ⟨v, c, rfl, _⟩ := h
    rfl
  obtain ⟨v, c, rfl, hc, hp, hd, q⟩ := h
  refine ⟨_, (pss_cons (ps_if (pt_val (pe_callR G_is_atom (hr.mono (by omega)) T.g_is_atom (kp T.F_is_atom) passL (pa_cons (pv 0) pa_nil))) (pss_one (ps_ret pe_int)) pss_nil)
      (pss_one (ps_ret (pe_op op_add pe_int (pe_callB (maxq K rfl) rfl T.b_max (by decide +kernel) (pa_cons (pe_lc (own := [("part", 1)]) (g := gName 1) (tt := tYes) rfl sc_depth_of.nd (pit K (pe_slice (slt K) (pv 0) (po_some pe_int) po_none)) (blkOk_by (N := ["formula", "part"]) (sc := defScope s_depth_of) (by decide +kernel)) (fun _ _ _ _ _ => (pg_name (i := 1) sc_depth_of.nd rfl (Or.inl rfl))) (fun _ _ _ _ _ => pts_nil) (fun _ _ _ _ _ => (pe_callR G_depth_of (hr.mono (by omega)) T.g_depth_of (kp T.F_depth_of) passL (pa_cons (pv 1) pa_nil)))) pa_nil)))))), ?_⟩
  refine ⟨_, rfl, _, c, rfl, hc, _, rfl, ?_⟩
  refine ite2 (fun e => ?_) (fun e => ?_)
  · have z := q H (Same.refl H)
    rw [Cnd.depth_leaf (at_leaf e)] at z
    exact z
  · have nl : c.leaf = false := by
      cases y : c.leaf with
      | false => rfl
      | true => exact absurd (pure_leaf hp y) e
    obtain ⟨a, xs, rfl, ha, hps⟩ := hc.node nl
    refine ⟨_, rfl, 1, rfl, a, _, rfl, SqT.of ha, cut1_ne _ _, fun p np => ?_⟩
    rw [cut1]
    refine ⟨p, rfl, ⟨_, SqT.of upd_same⟩, fun D nD => ?_⟩
    have s1 : Same H (upd H p (.tup xs)) := same_new np _
    refine lc_tup (K := K) (a := p) (xs := xs) (fun i H' => Same (upd H p (.tup xs)) H' ∧ H' D = some (.lst (((c.parts.take i).map fun x => (x.depth : Int)).map V.int)))
      ⟨same_new nD _, upd_same⟩ (fun i H' _ h => SqT.of (h.1 _ _ upd_same)) ?_ ?_
    · rintro i x H' hi ⟨s2, eD⟩
      obtain ⟨pc, hpc, hx⟩ := paired_get hps hi
      have hm := List.mem_of_getElem? hpc
      have hdp := Cnd.parts_depth hm
      refine ⟨rfl, ?_⟩
      refine ⟨_, rfl, by omega, x, pc, rfl, (hx.same s1).same s2, pure_part hp hm, by omega, fun H2 s3 => ?_⟩
      refine ⟨_, s3 _ _ eD, ?_, (s2.trans s3).put nD _, ?_⟩
      · refine big_line' ?_
        rw [List.length_map, List.length_map, List.length_take]
        have := @Cnd.parts_len Str c
        omega
      · rw [upd_same, take_more hpc, List.map_append, List.map_append]
        rfl
    · rintro H' ⟨s2, eD⟩
      rw [paired_len hps, List.take_length] at eD
      refine ⟨D, _, rfl, SqL.of eD, by rw [List.length_map]; exact Cnd.parts_pos nl, fun m hm hle => ?_⟩
      obtain ⟨y, hy, rfl⟩ := List.mem_map.mp hm
      have z : c.depth = 1 + y.depth := Cnd.depth_node nl (List.mem_map.mpr ⟨y, hy, rfl⟩) fun n hn => by
        obtain ⟨u, hu, rfl⟩ := List.mem_map.mp hn
        have := hle _ (List.mem_map.mpr ⟨u, hu, rfl⟩)
        omega
      refine ⟨_, _, rfl, rfl, ?_⟩
      have z2 := q H' (s1.trans s2)
      rw [z] at z2
      exact z2
theorem ok_depth (T : Txt w K mg) : ∀ d, Fn P w K mg base (d + 2) (He.ga K "depth_of") (spDepth d)
  | 0 => ok_depth_step T (Nat.le_refl _) (ok_is_atom T) (.inl rfl)
  | d + 1 => ok_depth_step T (by omega) (ok_is_atom T) (.inr (ok_depth T d))
end
end Sh
set_option Elab.async false
set_option linter.all false
set_option maxRecDepth 100000
set_option maxHeartbeats 4000000
namespace Sh
open PySem PySem.Spec PyProof.Rows L2 StX
section
variable {P : Program} {w : World} {K : PySem.W.Frag} {mg : Str → Option Value} {base : Heap}
/-! ### copy_of -/
/-- a row of a small block -/
def IsR (H : Hp) (v : V) (p q : List Int) (s : Str) : Prop := ∃ t cs pl ql, v = .ref t ∧ H t = some (.tup [.ref cs, .ref ql, .str s]) ∧ H cs = some (.lst [.ref pl]) ∧ H pl = some (.lst (p.map V.int)) ∧ H ql = some (.lst (q.map V.int))
theorem IsR.same {H H' : Hp} (s : Same H H') {v : V} {p q : List Int} {z : Str} (h : IsR H v p q z) : IsR H' v p q z := by
  obtain ⟨t, cs, pl, ql, e, h1, h2, h3, h4⟩ := h
  exact ⟨t, cs, pl, ql, e, s _ _ h1, s _ _ h2, s _ _ h3, s _ _ h4⟩
theorem isC_sm {H : Hp} {v : V} {p q : List Int} {s : Str} : IsC H v (.sm p q s) ↔ ∃ a r x, v = .ref a ∧ H a = some (.tup [.str "some", .int 1, .ref r]) ∧ H r = some (.lst [x]) ∧ IsR H x p q s := by
  constructor
  · rintro ⟨a, r, t, cs, pl, ql, e, h1, h2, h3, h4, h5, h6⟩
    exact ⟨a, r, _, e, h1, h2, t, cs, pl, ql, rfl, h3, h4, h5, h6⟩
  · rintro ⟨a, r, x, e, h1, h2, t, cs, pl, ql, rfl, h3, h4, h5, h6⟩
    exact ⟨a, r, t, cs, pl, ql, e, h1, h2, h3, h4, h5, h6⟩
def spCopy (d : Nat) : Sp := fun vs H Q _ => ∃ M v c, vs = [v] ∧ Av M H ∧ IsC (mi M H) v c ∧ pureC c ∧ c.depth ≤ d ∧ ∀ v' H', Same H H' → IsC (mi M H') v' c → Q v' H'
theorem sc_copy_of : FnScope ["formula", "rows", "coefficients", "constant", "sign", "polynomial", "part"] ["formula"] (defScope s_copy_of) := ⟨rfl, rfl, rfl, by decide +kernel, rfl, by decide +kernel, by decide +kernel⟩
/-- behind the list of the new parts the node -/
theorem node_end {M : List Addr} {H H' : Hp} {D p : Addr} {c : C} {xs : List V} (av : Av M H) (s : Same H H') (nD : H D = none) (hD : H' D = some (.lst xs)) (np : H' p = none) (nl : c.leaf = false) (ar : AreC (mi (D :: M) H') xs c.parts) :
    IsC (mi M (upd H' p (.tup (.str (tag c) :: xs)))) (.ref p) c :=
  IsC.mk nl (mi_new (av.same s) np) ((ar.same (mi_sub _ fun _ => List.mem_cons_of_mem _)).same (mi_upd np))
theorem ok_copy_step (T : Txt w K mg) {d j : Nat} (G : d = 0 ∨ Fn P w K mg base j (He.ga K "copy_of") (spCopy (d - 1))) : Fn P w K mg base (j + 1) (He.ga K "copy_of") (spCopy d) := by
  have G_copy_of : Fn P w K mg base j (He.ga K "copy_of") (fun vs H Q E => 0 < d ∧ spCopy (d - 1) vs H Q E) := by
    rcases G with e | G
    · intro A outer s H us vs Q E _ _ _ hs
      exact absurd hs.1 (by omega)
    · exact G.imp fun vs H Q E h => h.2
  refine mkN T.F_copy_of sc_copy_of (fun vs H Q E h => ?_) (fun _ _ _ _ _ _ us hl => match us, hl with | [_], _ => rfl) (fun cdv A outer s H vs Q E hr h => ?_)
  · obtain ⟨M, v, c, rfl, _⟩ := h
    rfl
  obtain ⟨M, v, c, rfl, av, hc, hp, hd, q⟩ := h
  have hcH : IsC H v c := hc.same (mi_le M H)
  refine ⟨_, (pss_cons (ps_if (pt_cmpR op_eq (pe_ix (ixt K) (pv 0) pe_int (fun _ _ => rfl)) pe_str (nomark _)) (pss_one (ps_ret (pe_tup (pa_cons pe_str (pa_cons (pe_callTy (listq K) rfl T.b_list (by decide +kernel) (pa_cons (pe_ix (ixt K) (pv 0) pe_int (fun _ _ => rfl)) pa_nil)) (pa_cons (pe_ix (ixt K) (pv 0) pe_int (fun _ _ => rfl)) pa_nil)))))) pss_nil)
      (pss_cons (ps_if (pt_cmpR op_eq (pe_ix (ixt K) (pv 0) pe_int (fun _ _ => rfl)) pe_str (nomark _)) (pss_cons (ps_set (i := 1) sc_copy_of.nd rfl (Or.inl rfl) (pe_lst pa_nil))
      (pss_cons (ps_for PassesOwn.never rfl (pil K (pe_ix (ixt K) (pv 0) pe_int (fun _ _ => rfl))) (pgt K rfl (pgs_cons (pg_name (i := 2) sc_copy_of.nd rfl (Or.inl rfl)) (pgs_cons (pg_name (i := 3) sc_copy_of.nd rfl (Or.inl rfl)) (pgs_cons (pg_name (i := 4) sc_copy_of.nd rfl (Or.inl rfl)) pgs_nil)))) (pss_one (ps_expr (pe_bm PySem.F.plainAttrs_list PySem.F.slot_list_append PySem.F.type_list_append mt_append (pv 1) (pa_cons (pe_tup (pa_cons (pe_lc (own := [("polynomial", 5)]) (g := gName 5) (tt := tYes) rfl sc_copy_of.nd (pil K (pv 2)) (blkOk_by (N := ["formula", "rows", "coefficients", "constant", "sign", "polynomial", "part"]) (sc := defScope s_copy_of) (by decide +kernel)) (fun _ _ _ _ _ => (pg_name (i := 5) sc_copy_of.nd rfl (Or.inl rfl))) (fun _ _ _ _ _ => pts_nil) (fun _ _ _ _ _ => (pe_callTy (listq K) rfl T.b_list (by decide +kernel) (pa_cons (pv 5) pa_nil)))) (pa_cons (pe_callTy (listq K) rfl T.b_list (by decide +kernel) (pa_cons (pv 3) pa_nil)) (pa_cons (pv 4) pa_nil)))) pa_nil)))))
      (pss_one (ps_ret (pe_tup (pa_cons pe_str (pa_cons (pe_ix (ixt K) (pv 0) pe_int (fun _ _ => rfl)) (pa_cons (pv 1) pa_nil)))))))) pss_nil)
      (pss_one (ps_ret (pe_tup (pa_cons (pe_ix (ixt K) (pv 0) pe_int (fun _ _ => rfl)) (starq K (pe_lc (own := [("part", 6)]) (g := gName 6) (tt := tYes) rfl sc_copy_of.nd (pit K (pe_slice (slt K) (pv 0) (po_some pe_int) po_none)) (blkOk_by (N := ["formula", "rows", "coefficients", "constant", "sign", "polynomial", "part"]) (sc := defScope s_copy_of) (by decide +kernel)) (fun _ _ _ _ _ => (pg_name (i := 6) sc_copy_of.nd rfl (Or.inl rfl))) (fun _ _ _ _ _ => pts_nil) (fun _ _ _ _ _ => (pe_callR G_copy_of (hr.mono (by omega)) T.g_copy_of (kp T.F_copy_of) passL (pa_cons (pv 6) pa_nil)))) pa_nil))))))), ?_⟩
  obtain ⟨a, xs, rfl, ha⟩ := hcH.tup
  refine ⟨_, rfl, a, _, 0, _, rfl, rfl, SqT.of ha, at0 _ _, rfl, _, rfl, ?_⟩
  refine ite2 (fun e => ?_) (fun e => ?_)
  · rw [tag_sg] at e
    cases c with
    | sg p s =>
      obtain ⟨a', l, ea, h1, h2⟩ := hcH
      cases ea
      refine ⟨_, rfl, a, _, 1, _, rfl, rfl, SqT.of h1, at1 _ _ _, l, _, rfl, .inl (SqL.of h2), fun p1 n1 => ?_⟩
      have s1 : Same H (upd H p1 (.lst (p.map V.int))) := same_new n1 _
      refine ⟨_, rfl, a, _, 2, _, rfl, rfl, SqT.of (s1 _ _ h1), at2 _ _ _ _, by show 3 ≤ sizeLine; decide, fun p2 n2 => ?_⟩
      refine q _ _ (s1.new n2 _) ⟨p2, p1, rfl, mi_new (av.same s1) n2, ?_⟩
      exact mi_upd n2 _ _ (mi_new av n1)
    | _ => cases e
  · rw [tag_sg] at e
    refine ⟨_, rfl, a, _, 0, _, rfl, rfl, SqT.of ha, at0 _ _, rfl, _, rfl, ?_⟩
    refine ite2 (fun e2 => ?_) (fun e2 => ?_)
    · rw [tag_sm] at e2
      cases c with
      | sm p q' s =>
        obtain ⟨a', r, x, ea, h1, h2, h3⟩ := isC_sm.mp hcH
        cases ea
        refine ⟨Nat.zero_le _, fun rl nrl => ?_⟩
        have s1 : Same H (upd H rl (.lst [])) := same_new nrl _
        refine ⟨_, rfl, a, _, 2, _, rfl, rfl, SqT.of (s1 _ _ h1), at2 _ _ _ _, r, rfl, ⟨_, SqL.of (s1 _ _ h2)⟩, for_list (K := K) (a := r) (xs := [x])
          (fun i σ H' => ∃ z2 z3 z4, σ = [some (.ref a), some (.ref rl), z2, z3, z4, none, none] ∧ Same H H' ∧ ((i = 0 ∧ H' rl = some (.lst [])) ∨ (i = 1 ∧ ∃ y, H' rl = some (.lst [y]) ∧ IsR (mi (rl :: M) H') y p q' s)))
          ⟨none, none, none, rfl, s1, .inl ⟨rfl, upd_same⟩⟩ (fun i σ H' _ ⟨_, _, _, _, sH, _⟩ => SqL.of (sH _ _ h2)) ?_ ?_⟩
        · rintro i y σ H' hi ⟨z2, z3, z4, rfl, sH, hcase⟩
          have i0 : i = 0 := by
            cases i with
            | zero => rfl
            | succ i => simp at hi
          subst i0
          have ey : x = y := Option.some.inj hi
          subst ey
          have hr : H' rl = some (.lst []) := by
            rcases hcase with ⟨_, h⟩ | ⟨h, _⟩
            · exact h
            · cases h
          obtain ⟨t, cs, pl, ql, rfl, g1, g2, g3, g4⟩ := h3
          refine ⟨t, _, rfl, SqT.of (sH _ _ g1), rfl, _, _, rfl, _, _, rfl, _, _, rfl, rfl, ?_⟩
          refine ⟨_, rfl, .inl ⟨rfl, _, SqL.of hr⟩, _, rfl, cs, rfl, ⟨_, SqL.of (sH _ _ g2)⟩, fun D nD => ?_⟩
          have nDr : rl ≠ D := ne_of_none hr nD
          refine lc_list (K := K) (a := cs) (xs := [.ref pl]) (fun i H2 => Same H' H2 ∧ ((i = 0 ∧ H2 D = some (.lst [])) ∨ (i = 1 ∧ ∃ pl', H' pl' = none ∧ pl' ≠ D ∧ H2 D = some (.lst [.ref pl']) ∧ H2 pl' = some (.lst (p.map V.int)))))
            ⟨same_new nD _, .inl ⟨rfl, upd_same⟩⟩ (fun i H2 _ h => SqL.of (h.1 _ _ (sH _ _ g2))) ?_ ?_
          · rintro i y H2 hi ⟨s2, hcase⟩
            have i0 : i = 0 := by
              cases i with
              | zero => rfl
              | succ i => simp at hi
            subst i0
            have ey : V.ref pl = y := Option.some.inj hi
            subst ey
            have hD2 : H2 D = some (.lst []) := by
              rcases hcase with ⟨_, h⟩ | ⟨h, _⟩
              · exact h
              · cases h
            refine ⟨rfl, ?_⟩
            refine ⟨_, rfl, pl, _, rfl, .inl (SqL.of (s2 _ _ (sH _ _ g3))), fun pl' npl => ?_⟩
            have n1 : D ≠ pl' := ne_of_none hD2 npl
            refine ⟨[], by rw [upd_ne n1]; exact hD2, by show 0 < sizeLine; decide, (s2.new npl _).put nD _, .inr ⟨rfl, pl', s2.free npl, n1.symm, upd_same, ?_⟩⟩
            rw [upd_ne n1.symm]
            exact upd_same
          · rintro H2 ⟨s2, hcase⟩
            obtain ⟨pl', m1, m2, m3, m4⟩ : ∃ pl', H' pl' = none ∧ pl' ≠ D ∧ H2 D = some (.lst [.ref pl']) ∧ H2 pl' = some (.lst (p.map V.int)) := by
              rcases hcase with ⟨h, _⟩ | ⟨_, h⟩
              · cases h
              · exact h
            refine ⟨_, rfl, ql, _, rfl, .inl (SqL.of (s2 _ _ (sH _ _ g4))), fun ql' nql => ?_⟩
            refine ⟨_, rfl, by show 3 ≤ sizeLine; decide, fun t' nt => ?_⟩
            have s3 : Same H2 (upd H2 ql' (.lst (q'.map V.int))) := same_new nql _
            have s4 : Same H2 (upd (upd H2 ql' (.lst (q'.map V.int))) t' (.tup [.ref D, .ref ql', .str s])) := s3.new nt _
            have s5 : Same H' (upd (upd H2 ql' (.lst (q'.map V.int))) t' (.tup [.ref D, .ref ql', .str s])) := s2.trans s4
            refine ⟨rl, [], _, rfl, rfl, s5 _ _ hr, by show 0 < sizeLine; decide, ?_⟩
            refine ⟨_, _, _, rfl, (sH.trans s5).put nrl _, .inr ⟨rfl, _, upd_same, ?_⟩⟩
            have av' : Av (rl :: M) H' := (av.same sH).cons hr
            have up : Same (mi (rl :: M) (upd (upd H2 ql' (.lst (q'.map V.int))) t' (.tup [.ref D, .ref ql', .str s]))) (mi (rl :: M) (upd (upd (upd H2 ql' (.lst (q'.map V.int))) t' (.tup [.ref D, .ref ql', .str s])) rl (.lst ([] ++ [.ref t'])))) := (ta_put (M := [rl]) (by simp) _).mi (by simp)
            have av2 : Av (rl :: M) H2 := av'.same s2
            have fresh : ∀ b, H' b = none → b ∉ rl :: M := fun b hb => av'.out hb
            refine IsR.same up ⟨t', D, pl', ql', rfl, mi_new (av2.same s3) nt, ?_, ?_, ?_⟩
            · exact (mi_same s4) _ _ (mi_at (fresh D nD) m3)
            · exact (mi_same s4) _ _ (mi_at (fresh pl' m1) m4)
            · exact mi_upd nt _ _ (mi_new av2 nql)
        · rintro σ H' ⟨z2, z3, z4, rfl, sH, hcase⟩
          obtain ⟨y, hy1, hy2⟩ : ∃ y, H' rl = some (.lst [y]) ∧ IsR (mi (rl :: M) H') y p q' s := by
            rcases hcase with ⟨h, _⟩ | ⟨_, h⟩
            · cases h
            · exact h
          refine ⟨_, rfl, a, _, 1, _, rfl, rfl, SqT.of (sH _ _ h1), at1 _ _ _, _, rfl, by show 3 ≤ sizeLine; decide, fun p2 n2 => ?_⟩
          refine q _ _ (sH.new n2 _) (isC_sm.mpr ⟨p2, rl, y, rfl, mi_new (av.same sH) n2, mi_upd n2 _ _ (mi_at (av.out nrl) hy1), ?_⟩)
          exact (hy2.same (mi_sub _ fun _ => List.mem_cons_of_mem _)).same (mi_upd n2)
      | _ => cases e2
    · rw [tag_sm] at e2
      have nl : c.leaf = false := by
        cases y : c.leaf with
        | false => rfl
        | true =>
          have z := pure_leaf hp y
          rw [isAt, Bool.eq_false_iff.mpr e, Bool.eq_false_iff.mpr e2] at z
          cases z
      obtain ⟨a', xs', ea, ha', hps⟩ := hc.node nl
      cases ea
      have ha2 := (mi_some ha').1
      rw [ha] at ha2
      cases ha2
      refine ⟨_, rfl, a, _, 0, _, rfl, rfl, SqT.of ha, at0 _ _, ?_⟩
      refine ⟨_, rfl, 1, rfl, a, _, rfl, SqT.of ha, cut1_ne _ _, fun p np => ?_⟩
      rw [cut1]
      refine ⟨p, rfl, ⟨_, SqT.of upd_same⟩, fun D nD => ?_⟩
      have s1 : Same H (upd H p (.tup xs)) := same_new np _
      have nDH : H D = none := s1.free nD
      refine lc_tup (K := K) (a := p) (xs := xs) (fun i H' => Same (upd H p (.tup xs)) H' ∧ ∃ ys, H' D = some (.lst ys) ∧ AreC (mi (D :: M) H') ys (c.parts.take i))
        ⟨same_new nD _, [], upd_same, .nil⟩ (fun i H' _ h => SqT.of (h.1 _ _ upd_same)) ?_ ?_
      · rintro i x H' hi ⟨s2, ys, eD, ar⟩
        obtain ⟨pc, hpc, hx⟩ := paired_get hps hi
        have hm := List.mem_of_getElem? hpc
        have hdp := Cnd.parts_depth hm
        have sH : Same H H' := s1.trans s2
        refine ⟨rfl, ?_⟩
        refine ⟨_, rfl, by omega, D :: M, x, pc, rfl, (av.same sH).cons eD, hx.same (carry sH nDH), pure_part hp hm, by omega, fun v' H2 s3 hv' => ?_⟩
        have lz := paired_len ar
        refine ⟨ys, s3 _ _ eD, ?_, (s2.trans s3).put nD _, _, upd_same, ?_⟩
        · rw [lz, List.length_take]
          have := @Cnd.parts_len Str c
          exact big_line' (by omega)
        · rw [take_more hpc]
          have up : Same (mi (D :: M) H2) (mi (D :: M) (upd H2 D (.lst (ys ++ [v'])))) := (ta_put (M := [D]) (by simp) _).mi (by simp)
          exact paired_app ((ar.same (mi_same s3)).same up) (.cons (hv'.same up) .nil)
      · rintro H' ⟨s2, ys, eD, ar⟩
        rw [paired_len hps, List.take_length] at ar
        have sH : Same H H' := s1.trans s2
        have e1 := paired_len ar
        refine ⟨D, ys, rfl, .inr (SqL.of eD), ?_, fun p2 n2 => ?_⟩
        · have := @Cnd.parts_len Str c
          show (V.str (tag c) :: (ys ++ [])).length ≤ sizeLine
          rw [List.append_nil, List.length_cons, e1]
          exact big_line (by omega)
        · rw [List.append_nil]
          exact q _ _ (sH.new n2 _) (node_end av sH nDH eD n2 nl ar)
theorem ok_copy (T : Txt w K mg) : ∀ d, Fn P w K mg base (d + 1) (He.ga K "copy_of") (spCopy d)
  | 0 => ok_copy_step T (.inl rfl)
  | d + 1 => ok_copy_step T (.inr (ok_copy T d))
end
end Sh
set_option Elab.async false
set_option linter.all false
set_option maxRecDepth 100000
set_option maxHeartbeats 4000000
namespace Sh
open PySem PySem.Spec PyProof.Rows L2 StX
section
variable {P : Program} {w : World} {K : PySem.W.Frag} {mg : Str → Option Value} {base : Heap}
/-! ### atoms_of -/
def spAtoms (d : Nat) : Sp := fun vs H Q _ => ∃ M v c, vs = [v] ∧ Av M H ∧ IsC (mi M H) v c ∧ pureC c ∧ c.depth ≤ d ∧ c.leaves.length ≤ 100000 ∧
  ∀ l xs H', Same H H' → H l = none → H' l = some (.lst xs) → AreC (mi (l :: M) H') xs c.leaves → Q (.ref l) H'
theorem sc_atoms_of : FnScope ["formula", "found", "part"] ["formula"] (defScope s_atoms_of) := ⟨rfl, rfl, rfl, by decide +kernel, rfl, by decide +kernel, by decide +kernel⟩
theorem ok_atoms_step (T : Txt w K mg) {d j : Nat} (hj : 1 ≤ j) (G_is_atom : Fn P w K mg base 1 (He.ga K "is_atom") spIsAtom) (G_copy_of : Fn P w K mg base 1 (He.ga K "copy_of") (spCopy 0)) (G : d = 0 ∨ Fn P w K mg base j (He.ga K "atoms_of") (spAtoms (d - 1))) : Fn P w K mg base (j + 1) (He.ga K "atoms_of") (spAtoms d) := by
  have G_atoms_of : Fn P w K mg base j (He.ga K "atoms_of") (fun vs H Q E => 0 < d ∧ spAtoms (d - 1) vs H Q E) := by
    rcases G with e | G
    · intro A outer s H us vs Q E _ _ _ hs
      exact absurd hs.1 (by omega)
    · exact G.imp fun vs H Q E h => h.2
  refine mkN T.F_atoms_of sc_atoms_of (fun vs H Q E h => ?_) (fun _ _ _ _ _ _ us hl => match us, hl with | [_], _ => rfl) (fun cdv A outer s H vs Q E hr h => ?_)
  · obtain ⟨M, v, c, rfl, _⟩ := h
    rfl
  obtain ⟨M, v, c, rfl, av, hc, hp, hd, hl, q⟩ := h
  have hcH : IsC H v c := hc.same (mi_le M H)
  refine ⟨_, (pss_cons (ps_if (pt_val (pe_callR G_is_atom (hr.mono (by omega)) T.g_is_atom (kp T.F_is_atom) passL (pa_cons (pv 0) pa_nil))) (pss_one (ps_ret (pe_lst (pa_cons (pe_callR G_copy_of (hr.mono (by omega)) T.g_copy_of (kp T.F_copy_of) passL (pa_cons (pv 0) pa_nil)) pa_nil)))) pss_nil)
      (pss_cons (ps_set (i := 1) sc_atoms_of.nd rfl (Or.inl rfl) (pe_lst pa_nil))
      (pss_cons (ps_for PassesOwn.never rfl (pit K (pe_slice (slt K) (pv 0) (po_some pe_int) po_none)) (pg_name (i := 2) sc_atoms_of.nd rfl (Or.inl rfl)) (pss_one (ps_expr (pe_bm PySem.F.plainAttrs_list PySem.F.slot_list_extend PySem.F.type_list_extend mt_extend (pv 1) (pa_cons (pe_callR G_atoms_of (hr.mono (by omega)) T.g_atoms_of (kp T.F_atoms_of) passL (pa_cons (pv 2) pa_nil)) pa_nil)))))
      (pss_one (ps_ret (pv 1)))))), ?_⟩
  refine ⟨_, rfl, _, c, rfl, hcH, _, rfl, ?_⟩
  refine ite2 (fun e => ?_) (fun e => ?_)
  · have hlf := at_leaf e
    refine ⟨_, rfl, M, v, c, rfl, av, hc, hp, by rw [Cnd.depth_leaf hlf]; exact Nat.le_refl _, fun v' H1 s1 hv' => ?_⟩
    refine ⟨by show 1 ≤ sizeLine; decide, fun l nl => ?_⟩
    refine q l [v'] _ (s1.new nl _) (s1.free nl) upd_same ?_
    rw [Cnd.leaves_leaf hlf]
    exact .cons (hv'.same (carry (same_new nl _) nl)) .nil
  · have nl : c.leaf = false := by
      cases y : c.leaf with
      | false => rfl
      | true => exact absurd (pure_leaf hp y) e
    obtain ⟨a, xs, rfl, ha', hps⟩ := hc.node nl
    have ha := (mi_some ha').1
    refine ⟨Nat.zero_le _, fun l nl' => ?_⟩
    have s1 : Same H (upd H l (.lst [])) := same_new nl' _
    refine ⟨_, rfl, 1, rfl, a, _, rfl, SqT.of (s1 _ _ ha), cut1_ne _ _, fun p np => ?_⟩
    rw [cut1]
    have s2 : Same H (upd (upd H l (.lst [])) p (.tup xs)) := s1.new np _
    have npl : l ≠ p := ne_of_none upd_same np
    refine ⟨p, rfl, ⟨_, SqT.of upd_same⟩, for_tup (K := K) (a := p) (xs := xs) (fun i σ H' => ∃ z ys, σ = [some (.ref a), some (.ref l), z] ∧ Same H H' ∧ H' p = some (.tup xs) ∧ H' l = some (.lst ys) ∧
      AreC (mi (l :: M) H') ys ((c.parts.take i).flatMap Cnd.leaves)) ⟨none, [], rfl, s2, upd_same, by rw [upd_ne npl]; exact upd_same, .nil⟩ (fun i σ H' _ ⟨_, _, _, _, h, _⟩ => SqT.of h) ?_ ?_⟩
    · rintro i x σ H' hi ⟨z, ys, rfl, sH, hp', hl', ar⟩
      obtain ⟨pc, hpc, hx⟩ := paired_get hps hi
      have hm := List.mem_of_getElem? hpc
      have hdp := Cnd.parts_depth hm
      have av' : Av (l :: M) H' := (av.same sH).cons hl'
      have hx' : IsC (mi (l :: M) H') x pc := hx.same (carry sH nl')
      refine ⟨_, rfl, .inl ⟨rfl, _, SqL.of hl'⟩, _, rfl, ?_⟩
      refine ⟨by omega, l :: M, x, pc, rfl, av', hx', pure_part hp hm, by omega, Nat.le_trans (Cnd.part_leaves_len hm) hl, fun l2 xs2 H2 s3 n2 e2 ar2 => ?_⟩
      have hl2 := s3 _ _ hl'
      have tk := take_more hpc
      have sz : ys.length + xs2.length ≤ sizeLine := by
        have e1 := paired_len ar
        have e3 := paired_len ar2
        have z1 : ((c.parts.take (i + 1)).flatMap Cnd.leaves).length ≤ c.leaves.length := by
          rw [Cnd.leaves_node nl]
          exact flat_take _ _ _
        rw [tk, List.flatMap_append, List.length_append] at z1
        have z2 : ([pc].flatMap Cnd.leaves).length = pc.leaves.length := by simp
        rw [z2] at z1
        exact big_line (by omega)
      refine ⟨l, l2, ys, xs2, rfl, rfl, hl2, e2, sz, ?_⟩
      have nlp : p ≠ l := npl.symm
      refine ⟨_, ys ++ xs2, rfl, (sH.trans s3).put nl' _, by rw [upd_ne nlp]; exact s3 _ _ hp', upd_same, ?_⟩
      rw [tk, List.flatMap_append]
      have up : Same (mi (l :: M) H2) (mi (l :: M) (upd H2 l (.lst (ys ++ xs2)))) := (ta_put (M := [l]) (by simp) _).mi (by simp)
      refine paired_app ((ar.same (mi_same s3)).same up) ?_
      have e3 : [pc].flatMap Cnd.leaves = pc.leaves := by simp
      rw [e3]
      exact (ar2.same (mi_sub _ fun _ => List.mem_cons_of_mem _)).same up
    · rintro σ H' ⟨z, ys, rfl, sH, hp', hl', ar⟩
      refine ⟨_, rfl, q l ys H' sH nl' hl' ?_⟩
      rw [Cnd.leaves_node nl, ← List.take_length (l := c.parts), ← paired_len hps]
      exact ar
theorem ok_atoms (T : Txt w K mg) : ∀ d, Fn P w K mg base (d + 2) (He.ga K "atoms_of") (spAtoms d)
  | 0 => ok_atoms_step T (Nat.le_refl _) (ok_is_atom T) (ok_copy T 0) (.inl rfl)
  | d + 1 => ok_atoms_step T (by omega) (ok_is_atom T) (ok_copy T 0) (.inr (ok_atoms T d))
/-! ### size_of -/
theorem eqV_sg (c : C) : eqV (.str (tag c)) (.str "sign") = c.isSg := by
  rw [← tag_sg, dec_str]
  rfl
theorem eqV_sm (c : C) : eqV (.str (tag c)) (.str "some") = c.isSm := by
  rw [← tag_sm, dec_str]
  rfl
theorem count_tags (f : C → Bool) (z : V) (h : ∀ c, eqV (.str (tag c)) z = f c) (l : List C) : (l.map fun x => V.str (tag x)).countP (fun y => eqV y z) = l.countP f := by
  rw [List.countP_map]
  congr 1
  funext c
  exact h c
theorem flat_tags (l : List C) : (l.map fun x => V.str (tag x)).all flatV = true := by
  rw [List.all_eq_true]
  intro x hx
  obtain ⟨c, _, rfl⟩ := List.mem_map.mp hx
  rfl
def spSize (d : Nat) : Sp := fun vs H Q _ => ∃ M v c, vs = [v] ∧ Av M H ∧ IsC (mi M H) v c ∧ pureC c ∧ c.depth ≤ d ∧ c.leaves.length ≤ 100000 ∧
  ∀ t H', Same H H' → H' t = some (.tup [.int c.nsg, .int c.nsm, .int c.depth]) → Q (.ref t) H'
theorem sc_size_of : FnScope ["formula", "kinds", "atom"] ["formula"] (defScope s_size_of) := ⟨rfl, rfl, rfl, by decide +kernel, rfl, by decide +kernel, by decide +kernel⟩
theorem ok_size (T : Txt w K mg) (d : Nat) : Fn P w K mg base (d + 3) (He.ga K "size_of") (spSize d) := by
  have G_atoms_of : Fn P w K mg base (d + 2) (He.ga K "atoms_of") (spAtoms d) := ok_atoms T d
  have G_depth_of : Fn P w K mg base (d + 2) (He.ga K "depth_of") (spDepth d) := ok_depth T d
  refine mkN T.F_size_of sc_size_of (fun vs H Q E h => ?_) (fun _ _ _ _ _ _ us hl => match us, hl with | [_], _ => rfl) (fun cdv A outer s H vs Q E hr h => ?_)
  · obtain ⟨M, v, c, rfl, _⟩ := h
    rfl
  obtain ⟨M, v, c, rfl, av, hc, hp, hd, hl, q⟩ := h
  refine ⟨_, (pss_cons (ps_setLc (i := 1) (own := [("atom", 2)]) (g := gName 2) (tt := tYes) rfl sc_size_of.nd rfl rfl (sw_true rfl rfl rfl (by decide +kernel)) (pil K (pe_callR G_atoms_of (hr.mono (by omega)) T.g_atoms_of (kp T.F_atoms_of) passL (pa_cons (pv 0) pa_nil))) (blkOk_by (N := ["formula", "kinds", "atom"]) (sc := defScope s_size_of) (by decide +kernel)) (fun _ _ _ _ _ => (pg_name (i := 2) sc_size_of.nd rfl (Or.inl rfl))) (fun _ _ _ _ _ => pts_nil) (fun _ _ _ _ _ => (pe_ix (ixt K) (pv 2) pe_int (fun _ _ => rfl))))
      (pss_one (ps_ret (pe_tup (pa_cons (pe_bm PySem.F.plainAttrs_list PySem.F.slot_list_count PySem.F.type_list_count (cntq K) (pv 1) (pa_cons pe_str pa_nil)) (pa_cons (pe_bm PySem.F.plainAttrs_list PySem.F.slot_list_count PySem.F.type_list_count (cntq K) (pv 1) (pa_cons pe_str pa_nil)) (pa_cons (pe_callR G_depth_of (hr.mono (by omega)) T.g_depth_of (kp T.F_depth_of) passL (pa_cons (pv 0) pa_nil)) pa_nil))))))), ?_⟩
  refine ⟨_, rfl, M, v, c, rfl, av, hc, hp, hd, hl, fun l xs H1 s1 n1 e1 ar => ⟨l, rfl, ⟨_, SqL.of e1⟩, fun D nD => ?_⟩⟩
  refine lc_list (K := K) (a := l) (xs := xs) (fun i H' => Same H1 H' ∧ H' D = some (.lst ((c.leaves.take i).map fun x => V.str (tag x))))
    ⟨same_new nD _, upd_same⟩ (fun i H' _ h => SqL.of (h.1 _ _ e1)) ?_ ?_
  · rintro i x H' hi ⟨s2, eD⟩
    obtain ⟨lc, hlc, hx⟩ := paired_get ar hi
    have hxH : IsC H' x lc := (hx.same (mi_le _ _)).same s2
    obtain ⟨a, ys, rfl, ha⟩ := hxH.tup
    refine ⟨rfl, ?_⟩
    refine ⟨_, rfl, a, _, 0, _, rfl, rfl, SqT.of ha, at0 _ _, _, eD, ?_, s2.put nD _, ?_⟩
    · rw [List.length_map, List.length_take]
      exact big_line' (by omega)
    · rw [upd_same, take_more hlc, List.map_append]
      rfl
  · rintro H' ⟨s2, eD⟩
    rw [paired_len ar, List.take_length] at eD
    have sH := s1.trans s2
    refine ⟨_, rfl, .inl ⟨rfl, _, SqL.of eD⟩, D, _, _, rfl, rfl, SqL.of eD, rfl, flat_tags _, ?_⟩
    refine ⟨_, rfl, .inl ⟨rfl, _, SqL.of eD⟩, D, _, _, rfl, rfl, SqL.of eD, rfl, flat_tags _, ?_⟩
    refine ⟨_, rfl, v, c, rfl, (hc.same (mi_le M H)).same sH, hp, hd, fun H2 s3 => ?_⟩
    rw [count_tags Cnd.isSg _ eqV_sg, count_tags Cnd.isSm _ eqV_sm]
    exact ⟨by show 3 ≤ sizeLine; decide, fun t nt => q t _ ((sH.trans s3).new nt _) upd_same⟩
/-! ### filled -/
/-- what the dict says of the names in use -/
def FillR (M : List Addr) (H : Hp) (kvs : List (Key × V)) (f : Str → Option C) (c : C) : Prop := ∀ n ∈ c.used, (valV kvs (Sum.inr n) = none ∧ f n = none) ∨ ∃ x c', valV kvs (Sum.inr n) = some x ∧ f n = some c' ∧ IsC (mi M H) x c'
def spFill (d : Nat) : Sp := fun vs H Q _ => ∃ M v c dx kvs f, vs = [v, .ref dx] ∧ Av M H ∧ IsC (mi M H) v c ∧ H dx = some (.dK kvs) ∧ FillR M H kvs f c ∧ c.depth ≤ d ∧ ∀ v' H', Same H H' → IsC (mi M H') v' (Cnd.fill f c) → Q v' H'
theorem sc_filled : FnScope ["condition", "wholes", "part"] ["condition", "wholes"] (defScope s_filled) := ⟨rfl, rfl, rfl, by decide +kernel, rfl, by decide +kernel, by decide +kernel⟩
theorem tag_fill (f : Str → Option C) {c : C} (h : c.leaf = false) : tag (Cnd.fill f c) = tag c := by cases c <;> first | (cases h; done) | rfl
theorem ok_fill_step (T : Txt w K mg) {d j : Nat} (hj : 1 ≤ j) (G_is_atom : Fn P w K mg base 1 (He.ga K "is_atom") spIsAtom) (G_copy_of : Fn P w K mg base 1 (He.ga K "copy_of") (spCopy 0)) (G : d = 0 ∨ Fn P w K mg base j (He.ga K "filled") (spFill (d - 1))) : Fn P w K mg base (j + 1) (He.ga K "filled") (spFill d) := by
  have G_filled : Fn P w K mg base j (He.ga K "filled") (fun vs H Q E => 0 < d ∧ spFill (d - 1) vs H Q E) := by
    rcases G with e | G
    · intro A outer s H us vs Q E _ _ _ hs
      exact absurd hs.1 (by omega)
    · exact G.imp fun vs H Q E h => h.2
  refine mkN T.F_filled sc_filled (fun vs H Q E h => ?_) (fun _ _ _ _ _ _ us hl => match us, hl with | [_, _], _ => rfl) (fun cdv A outer s H vs Q E hr h => ?_)
  · obtain ⟨M, v, c, dx, kvs, f, rfl, _⟩ := h
    rfl
  obtain ⟨M, v, c, dx, kvs, f, rfl, av, hc, hdx, fr, hd, q⟩ := h
  have hcH : IsC H v c := hc.same (mi_le M H)
  refine ⟨_, (pss_cons (ps_if (pt_cmpR op_eq (pe_ix (ixt K) (pv 0) pe_int (fun _ _ => rfl)) pe_str (nomark _)) (pss_one (ps_ret (pe_dget2 (hu_of hr) (pv 1) (pe_ix (ixt K) (pv 0) pe_int (fun _ _ => rfl)) (pe_tup (pa_cons pe_str (pa_cons (pe_ix (ixt K) (pv 0) pe_int (fun _ _ => rfl)) pa_nil))) ⟨rfl, rfl, rfl, rfl⟩))) pss_nil)
      (pss_cons (ps_if (pt_val (pe_callR G_is_atom (hr.mono (by omega)) T.g_is_atom (kp T.F_is_atom) passL (pa_cons (pv 0) pa_nil))) (pss_one (ps_ret (pe_callR G_copy_of (hr.mono (by omega)) T.g_copy_of (kp T.F_copy_of) passL (pa_cons (pv 0) pa_nil)))) pss_nil)
      (pss_one (ps_ret (pe_tup (pa_cons (pe_ix (ixt K) (pv 0) pe_int (fun _ _ => rfl)) (starq K (pe_lc (own := [("part", 2)]) (g := gName 2) (tt := tYes) rfl sc_filled.nd (pit K (pe_slice (slt K) (pv 0) (po_some pe_int) po_none)) (blkOk_by (N := ["condition", "wholes", "part"]) (sc := defScope s_filled) (by decide +kernel)) (fun _ _ _ _ _ => (pg_name (i := 2) sc_filled.nd rfl (Or.inl rfl))) (fun _ _ _ _ _ => pts_nil) (fun _ _ _ _ _ => (pe_callR G_filled (hr.mono (by omega)) T.g_filled (kp T.F_filled) passL (pa_cons (pv 2) (pa_cons (pv 1) pa_nil))))) pa_nil))))))), ?_⟩
  obtain ⟨a, xs, rfl, ha⟩ := hcH.tup
  refine ⟨_, rfl, a, _, 0, _, rfl, rfl, SqT.of ha, at0 _ _, rfl, _, rfl, ?_⟩
  refine ite2 (fun e => ?_) (fun e => ?_)
  · rw [tag_us] at e
    obtain ⟨n, rfl⟩ := isUs_shape e
    obtain ⟨a', ea, h1⟩ := hcH
    cases ea
    have hn : n ∈ (Cnd.us n : C).used := Cnd.mem_used.mpr (List.mem_singleton.mpr rfl)
    refine ⟨_, rfl, dx, rfl, .inl ⟨_, .inl hdx⟩, _, rfl, a, _, 1, _, rfl, rfl, SqT.of h1, at1 _ _ _, ?_⟩
    refine ⟨_, rfl, a, _, 1, _, rfl, rfl, SqT.of h1, at1 _ _ _, by show 2 ≤ sizeLine; decide, fun p np => ?_⟩
    have s1 : Same H (upd H p (.tup [.str "use", .str n])) := same_new np _
    refine ⟨_, DGet.k (k := Sum.inr n) (s1 _ _ hdx), ?_⟩
    rcases fr n hn with ⟨e1, e2⟩ | ⟨x, c', e1, e2, hx⟩
    · rw [e1]
      refine q _ _ s1 ?_
      rw [Cnd.fill, e2]
      exact ⟨p, rfl, mi_new av np⟩
    · rw [e1]
      refine q _ _ s1 ?_
      rw [Cnd.fill, e2]
      exact hx.same (mi_upd np)
  · rw [tag_us] at e
    refine ⟨_, rfl, _, c, rfl, hcH, _, rfl, ?_⟩
    refine ite2 (fun e2 => ?_) (fun e2 => ?_)
    · have hlf := at_leaf e2
      have z : c.us? = none := by
        cases y : c.us? with
        | none => rfl
        | some n => exact absurd (by rw [isUs, y]; rfl) e
      refine ⟨_, rfl, M, _, c, rfl, av, hc, fun l hl => ?_, by rw [Cnd.depth_leaf hlf]; exact Nat.le_refl _, fun v' H1 s1 hv' => ?_⟩
      · rw [Cnd.leaves_leaf hlf] at hl
        rw [List.mem_singleton.mp hl, z]
      · refine q _ _ s1 ?_
        rw [Cnd.fill_atom f hlf z]
        exact hv'
    · have nl : c.leaf = false := by rw [leaf_eq, Bool.eq_false_iff.mpr e, Bool.eq_false_iff.mpr e2]; rfl
      obtain ⟨a', xs', ea, ha', hps⟩ := hc.node nl
      cases ea
      have ha2 := (mi_some ha').1
      rw [ha] at ha2
      cases ha2
      refine ⟨_, rfl, a, _, 0, _, rfl, rfl, SqT.of ha, at0 _ _, ?_⟩
      refine ⟨_, rfl, 1, rfl, a, _, rfl, SqT.of ha, cut1_ne _ _, fun p np => ?_⟩
      rw [cut1]
      refine ⟨p, rfl, ⟨_, SqT.of upd_same⟩, fun D nD => ?_⟩
      have s1 : Same H (upd H p (.tup xs)) := same_new np _
      have nDH : H D = none := s1.free nD
      refine lc_tup (K := K) (a := p) (xs := xs) (fun i H' => Same (upd H p (.tup xs)) H' ∧ ∃ ys, H' D = some (.lst ys) ∧ AreC (mi (D :: M) H') ys ((c.parts.take i).map (Cnd.fill f)))
        ⟨same_new nD _, [], upd_same, .nil⟩ (fun i H' _ h => SqT.of (h.1 _ _ upd_same)) ?_ ?_
      · rintro i x H' hi ⟨s2, ys, eD, ar⟩
        obtain ⟨pc, hpc, hx⟩ := paired_get hps hi
        have hm := List.mem_of_getElem? hpc
        have hdp := Cnd.parts_depth hm
        have sH : Same H H' := s1.trans s2
        refine ⟨rfl, ?_⟩
        refine ⟨_, rfl, _, rfl, by omega, D :: M, x, pc, dx, kvs, f, rfl, (av.same sH).cons eD, hx.same (carry sH nDH), sH _ _ hdx, fun n hn => ?_, by omega, fun v' H2 s3 hv' => ?_⟩
        · rcases fr n (Cnd.part_used hm hn) with h | ⟨y, c', h1, h2, h3⟩
          · exact .inl h
          · exact .inr ⟨y, c', h1, h2, h3.same (carry sH nDH)⟩
        · have lz := paired_len ar
          refine ⟨ys, s3 _ _ eD, ?_, (s2.trans s3).put nD _, _, upd_same, ?_⟩
          · rw [lz, List.length_map, List.length_take]
            have := @Cnd.parts_len Str c
            exact big_line' (by omega)
          · rw [take_more hpc, List.map_append]
            have up : Same (mi (D :: M) H2) (mi (D :: M) (upd H2 D (.lst (ys ++ [v'])))) := (ta_put (M := [D]) (by simp) _).mi (by simp)
            exact paired_app ((ar.same (mi_same s3)).same up) (.cons (hv'.same up) .nil)
      · rintro H' ⟨s2, ys, eD, ar⟩
        rw [paired_len hps, List.take_length, ← Cnd.fill_parts f nl] at ar
        have sH : Same H H' := s1.trans s2
        have e1 := paired_len ar
        refine ⟨D, ys, rfl, .inr (SqL.of eD), ?_, fun p2 n2 => ?_⟩
        · have := @Cnd.parts_len Str (Cnd.fill f c)
          show (V.str (tag c) :: (ys ++ [])).length ≤ sizeLine
          rw [List.append_nil, List.length_cons, e1]
          exact big_line (by omega)
        · rw [List.append_nil, ← tag_fill f nl]
          exact q _ _ (sH.new n2 _) (node_end av sH nDH eD n2 (Cnd.fill_leaf f nl) ar)
theorem ok_fill (T : Txt w K mg) : ∀ d, Fn P w K mg base (d + 2) (He.ga K "filled") (spFill d)
  | 0 => ok_fill_step T (Nat.le_refl _) (ok_is_atom T) (ok_copy T 0) (.inl rfl)
  | d + 1 => ok_fill_step T (by omega) (ok_is_atom T) (ok_copy T 0) (.inr (ok_fill T d))
/-! ### copy_condition -/
def spCopyC (d : Nat) : Sp := fun vs H Q _ => ∃ M v c, vs = [v] ∧ Av M H ∧ IsC (mi M H) v c ∧ c.depth ≤ d ∧ ∀ v' H', Same H H' → IsC (mi M H') v' c → Q v' H'
theorem sc_copy_condition : FnScope ["condition"] ["condition"] (defScope s_copy_condition) := ⟨rfl, rfl, rfl, by decide +kernel, rfl, by decide +kernel, by decide +kernel⟩
theorem ok_copyC (T : Txt w K mg) (d : Nat) : Fn P w K mg base (d + 3) (He.ga K "copy_condition") (spCopyC d) := by
  have G_filled : Fn P w K mg base (d + 2) (He.ga K "filled") (spFill d) := ok_fill T d
  refine mkN T.F_copy_condition sc_copy_condition (fun vs H Q E h => ?_) (fun _ _ _ _ _ _ us hl => match us, hl with | [_], _ => rfl) (fun cdv A outer s H vs Q E hr h => ?_)
  · obtain ⟨M, v, c, rfl, _⟩ := h
    rfl
  obtain ⟨M, v, c, rfl, av, hc, hd, q⟩ := h
  refine ⟨_, (pss_one (ps_ret (pe_callR G_filled (hr.mono (by omega)) T.g_filled (kp T.F_filled) passL (pa_cons (pv 0) (pa_cons pe_dnewK pa_nil))))), ?_⟩
  refine ⟨_, rfl, fun dx ndx => ?_⟩
  have s1 : Same H (upd H dx (.dK [])) := same_new ndx _
  refine ⟨M, v, c, dx, [], fun _ => none, rfl, av.same s1, hc.same (mi_same s1), upd_same, fun n _ => .inl ⟨rfl, rfl⟩, hd, fun v' H' s2 hv => q _ _ (s1.trans s2) ?_⟩
  rw [Cnd.fill_none] at hv
  exact hv
end
end Sh
set_option Elab.async false
set_option linter.all false
set_option maxRecDepth 100000
set_option maxHeartbeats 4000000
namespace Sh
open PySem PySem.Spec PyProof.Rows L2 StX
section
variable {P : Program} {w : World} {K : PySem.W.Frag} {mg : Str → Option Value} {base : Heap}
/-! ### pairs in the heap -/
abbrev PsC := Ps Str
def IsP (H : Hp) (x : V) (p : Str × C) : Prop := ∃ a v, x = .ref a ∧ H a = some (.tup [.str p.1, v]) ∧ IsC H v p.2
theorem IsP.same {H H' : Hp} (s : Same H H') {x : V} {p : Str × C} (h : IsP H x p) : IsP H' x p := by
  obtain ⟨a, v, e, h1, h2⟩ := h
  exact ⟨a, v, e, s _ _ h1, h2.same s⟩
abbrev ArePs (H : Hp) : List V → PsC → Prop := Paired (IsP H)
theorem ArePs.same {H H' : Hp} (s : Same H H') {xs : List V} {ps : PsC} (h : ArePs H xs ps) : ArePs H' xs ps := L2.Paired.mapP h fun _ _ q => q.same s
def IsPs (H : Hp) (a : Addr) (ps : PsC) : Prop := ∃ xs, H a = some (.lst xs) ∧ ArePs H xs ps
theorem IsPs.same {H H' : Hp} (s : Same H H') {a : Addr} {ps : PsC} (h : IsPs H a ps) : IsPs H' a ps := by
  obtain ⟨xs, h1, h2⟩ := h
  exact ⟨xs, s _ _ h1, h2.same s⟩
theorem dec_strS (x y : Str) : (decide (V.str x = V.str y)) = decide (x = y) := by
  by_cases h : x = y
  · rw [decide_eq_true h, decide_eq_true (by rw [h])]
  · rw [decide_eq_false h, decide_eq_false (fun e => h (by cases e; rfl))]
/-! ### condition_in -/
def spIn : Sp := fun vs H Q _ => ∃ M a n ps, vs = [.ref a, .str n] ∧ Av M H ∧ IsPs (mi M H) a ps ∧ (match cin ps n with | none => Q .non H | some c => ∀ v, IsC (mi M H) v c → Q v H)
theorem sc_condition_in : FnScope ["pairs", "name", "other", "condition"] ["pairs", "name"] (defScope s_condition_in) := ⟨rfl, rfl, rfl, by decide +kernel, rfl, by decide +kernel, by decide +kernel⟩
theorem ok_in (T : Txt w K mg) : Fn P w K mg base 1 (He.ga K "condition_in") spIn := by
  refine mkN T.F_condition_in sc_condition_in (fun vs H Q E h => ?_) (fun _ _ _ _ _ _ us hl => match us, hl with | [_, _], _ => rfl) (fun cdv A outer s H vs Q E hr h => ?_)
  · obtain ⟨M, a, n, ps, rfl, _⟩ := h
    rfl
  obtain ⟨M, a, n, ps, rfl, av, ⟨xs, h1, h2⟩, q⟩ := h
  refine ⟨_, (pss_cons (ps_for PassesOwn.never rfl (pil K (pv 0)) (pgt K rfl (pgs_cons (pg_name (i := 2) sc_condition_in.nd rfl (Or.inl rfl)) (pgs_cons (pg_name (i := 3) sc_condition_in.nd rfl (Or.inl rfl)) pgs_nil))) (pss_one (ps_if (pt_cmpR op_eq (pv 2) (pv 1) (nomark _)) (pss_one (ps_ret (pv 3))) pss_nil)))
      (pss_one (ps_ret pe_non))), ?_⟩
  have ha : H a = some (.lst xs) := (mi_some h1).1
  refine ⟨_, rfl, a, rfl, ⟨_, SqL.of ha⟩, for_list (K := K) (a := a) (xs := xs) (fun i σ H' => ∃ z1 z2, σ = [some (.ref a), some (.str n), z1, z2] ∧ H' = H ∧ cin ps n = cin (ps.drop i) n) ⟨none, none, rfl, rfl, rfl⟩ (fun i σ H' _ ⟨_, _, _, e, _⟩ => by subst e; exact SqL.of ha) ?_ ?_⟩
  · rintro i x σ H' hi ⟨z1, z2, rfl, rfl, e⟩
    obtain ⟨⟨m, c⟩, hp, a2, v, rfl, g1, g2⟩ := paired_get h2 hi
    have dr : ps.drop i = (m, c) :: ps.drop (i + 1) := by
      obtain ⟨hlt, e2⟩ := List.getElem?_eq_some_iff.mp hp
      rw [List.drop_eq_getElem_cons hlt, e2]
    rw [dr, cin_cons] at e
    refine ⟨a2, _, rfl, SqT.of (mi_some g1).1, rfl, _, _, rfl, _, _, rfl, rfl, ?_⟩
    refine ⟨_, rfl, _, rfl, rfl, _, rfl, ?_⟩
    refine ite2 (fun d => ?_) (fun d => ?_)
    · have d : m = n := by
        rw [dec_strS] at d
        exact of_decide_eq_true d
      rw [if_pos d] at e
      rw [e] at q
      exact ⟨_, rfl, q v g2⟩
    · have d : ¬ m = n := by
        rw [dec_strS] at d
        exact fun z => d (decide_eq_true z)
      rw [if_neg d] at e
      exact ⟨_, _, rfl, rfl, e⟩
  · rintro σ H' ⟨z1, z2, rfl, rfl, e⟩
    have : cin ps n = none := by
      rw [e, paired_len h2, List.drop_length]
      rfl
    rw [this] at q
    exact q
end
end Sh
set_option Elab.async false
set_option linter.all false
set_option maxRecDepth 100000
set_option maxHeartbeats 4000000
namespace Sh
open PySem PySem.Spec PyProof.Rows L2 StX
/-! ### keywords -/
def FnK (P : Program) (w : World) (K : PySem.W.Frag) (mg : Str → Option Value) (base : Heap) (k : Nat) (f : Addr) (n : Nat) (ks : List Str) (sp : Sp) : Prop :=
  ∀ (A : Around) (outer : List Env) (s : Shared) (H : Hp) (us ws : List Value) (vs zs : List V) (Q : VK) (E : XK), Room k A → Env0 P w K mg base A outer s H → Vals vs us → Vals zs ws → vs.length = n → zs.length = ks.length → sp (vs ++ zs) H Q E →
    codeAny (model P w) A (.call (.ref f) ⟨us, ks.zip ws⟩) (CR (L2.CX P w) outer P w H s Q E) s
def tCallK (n m : Nat) (sp : Sp) (E : XK) (t tk : TA) : TE := fun σ H Q => t σ H fun vs H1 => tk σ H1 fun zs H2 => vs.length = n ∧ zs.length = m ∧ sp (vs ++ zs) H2 Q E
section
variable {X : Cx} {k n : Nat} {f : Addr} {ks : List Str} {sp : Sp} {E : XK} {x : Str} {p pos : Pos} {e : PySem.Expr} {es : List PySem.Expr} {kws : List Keyword} {t tk : TA}
theorem pe_callKw (F : FnK X.prog X.w X.K X.mg X.base k f n ks sp) (hr : Room k X.A) (hm : X.mg x = some (.ref f)) (hk : PySem.W.keepIn X.K (.ref f) = true) (hx : Passes (L2.CX X.prog X.w) X E) (ha : PA X (e :: es) t) (hkw : PK X kws tk)
    (hg : Gl X x := by rfl) (hall : (backToKw pos (keywordEach kws X.env)).all (·.1.isSome) = true := by rfl) (hks : (backToKw pos (keywordEach kws X.env)).filterMap (·.1) = ks := by rfl)
    (hdb : (x == ("__debug__" : Str)) = false := by decide) (he : starEach (e :: es) X.env = (false, eval e X.env) :: starEach es X.env := by rfl)
    (hpl : ((backTo pos (starEach (e :: es) X.env)).any (·.1) || (backToKw pos (keywordEach kws X.env)).any (·.1.isNone)) = false := by rfl) :
    PE X (.Call (.Name x p) (e :: es) kws pos) (tCallK n ks.length sp E t tk) := by
  refine ⟨fun pins s σ H Q I h => ?_⟩
  refine wpAny_Call_Name_kw (ld_glob I hg hm ?_ hdb)
  refine PySem.W.callWith_KW (h₀ := X.base) I.ok.mod.kin hk hall (thn (ha.run pos pins s σ H _ I h) fun us s1 ⟨vs, H1, I1, r, q⟩ => ?_) hpl he
  refine thn (hkw.run pos pins s1 σ H1 _ I1 q) fun ws s2 ⟨zs, H2, I2, rz, l1, l2, q2⟩ => ⟨I2.kIn, ?_⟩
  rw [hks]
  refine wpAny_call (codeAny_mono (F X.A X.stack s2 H2 us ws vs zs Q E hr I2.env0 r rz l1 l2 q2) fun r s' hq => ?_)
  cases r with
  | error e => exact hx pins σ H2 s2 e s' I2 hq
  | ok fl =>
    cases fl with
    | ret u => exact I2.after hq
    | next => exact False.elim hq
    | brk => exact False.elim hq
    | cont => exact False.elim hq
end
section
variable {P : Program} {w : World} {K : PySem.W.Frag} {mg : Str → Option Value} {base : Heap}
/-- a def called by keywords ks behind n positional values -/
theorem toK {x qual : Str} {params : Arguments} {body : List Stmt} {scope : Scope} {kws : List (Str × V)} {f : Addr} {fd : FuncData} {ps : List Str} {k n : Nat} {ks : List Str} {sp : Sp} (F : FunD K x qual params body scope [] kws f fd) (G : FnOk P w K mg base (L2.CX P w) k f fd ps sp)
    (hb : ∀ (kV doc pm : Value) (an : Option Addr) (cdv ct : Value) (us ws : List Value), us.length = n → ws.length = ks.length → bindArgs (PySem.W.fnOf x qual params body scope .none kV doc pm an cdv ct) ⟨us, ks.zip ws⟩ = pure (ps.zip (us ++ ws))) : FnK P w K mg base k f n ks sp := by
  obtain ⟨oc, od, dV, kV, doc, pm, an, cdv, ct, osl, rfl, lk, hcd, hD, hK⟩ := F.ex
  intro A outer s H us ws vs zs Q E hr e0 r rz l1 l2 h
  rcases hD with ⟨_, rfl⟩ | ⟨e, _⟩
  · exact G.run A outer s H ⟨us, ks.zip ws⟩ (us ++ ws) (vs ++ zs) Q E hr e0 (.of_eq (hb kV doc pm an cdv ct us ws (r.length.symm.trans l1) (rz.length.symm.trans l2))) (r.append rz) h
  · exact absurd rfl e
end
/-- errors and other facts of the written part -/
structure Aux (P : Program) (K : PySem.W.Frag) : Prop where
  x_BadSize : ErrC P K (He.ga K "BadSize")
  x_TooDeep : ErrC P K (He.ga K "TooDeep")
  x_BadName : ErrC P K (He.ga K "BadName")
  x_UnknownName : ErrC P K (He.ga K "UnknownName")
  x_Circle : ErrC P K (He.ga K "Circle")
  x_InUse : ErrC P K (He.ga K "InUse")
  top : (P.main.scope.names.lookup ("super" : Str)).isSome = false
section
variable {P : Program} {w : World} {K : PySem.W.Frag} {mg : Str → Option Value} {base : Heap}
/-! ### is_whole -/
def spWhole : Sp := fun vs H Q _ => ∃ i : Int, vs = [.int i] ∧ Q (.bl true) H
theorem sc_is_whole : FnScope ["value"] ["value"] (defScope s_is_whole) := ⟨rfl, rfl, rfl, by decide +kernel, rfl, by decide +kernel, by decide +kernel⟩
theorem ok_whole1 (T : Txt w K mg) : Fn P w K mg base 1 (He.ga K "is_whole") spWhole := by
  refine mkN T.F_is_whole sc_is_whole (fun vs H Q E h => ?_) (fun _ _ _ _ _ _ us hl => match us, hl with | [_], _ => rfl) (fun cdv A outer s H vs Q E hr h => ?_)
  · obtain ⟨i, rfl, _⟩ := h
    rfl
  obtain ⟨i, rfl, q⟩ := h
  refine ⟨_, (pss_one (ps_ret (pe_and (pe_callB (isiq K) rfl T.b_isinstance (by decide +kernel) (pa_cons (pv 0) (pa_cons (pe_bltn (x := "int") (v := .ty "int") (by rfl) T.b_int (by decide +kernel) rfl) pa_nil))) (pe_one (pe_not (pe_callB (isiq K) rfl T.b_isinstance (by decide +kernel) (pa_cons (pv 0) (pa_cons (pe_bltn (x := "bool") (v := .ty "bool") (by rfl) T.b_bool (by decide +kernel) rfl) pa_nil)))))))), ?_⟩
  refine ⟨_, rfl, _, _, _, _, _, rfl, .ty _, .base (.int _), kit_ty (by decide +kernel), _, rfl, iteT ?_⟩
  exact ⟨_, rfl, _, _, _, _, _, rfl, .ty _, .base (.int _), kit_ty (r := false) (by decide +kernel), _, rfl, q⟩
/-! ### check_polynomial -/
structure PolyOk (m b : Int) (p : List Int) : Prop where
  len : (p.length : Int) ≤ m + 1
  rng : ∀ c ∈ p, -b < c ∧ c < b
  last : ∀ ys x, p = ys ++ [x] → x ≠ 0
def spPoly : Sp := fun vs H Q _ => ∃ a p m b, vs = [.ref a, .int m, .int b] ∧ H a = some (.lst (p.map V.int)) ∧ PolyOk m b p ∧ Q .non H
theorem sc_check_polynomial : FnScope ["polynomial", "most", "bound", "coefficient"] ["polynomial", "most", "bound"] (defScope s_check_polynomial) := ⟨rfl, rfl, rfl, by decide +kernel, rfl, by decide +kernel, by decide +kernel⟩
theorem ok_poly (T : Txt w K mg) : FnK P w K mg base 2 (He.ga K "check_polynomial") 1 ["most", "bound"] spPoly := by
  have G_is_whole : Fn P w K mg base 1 (He.ga K "is_whole") spWhole := ok_whole1 T
  obtain ⟨fd, F⟩ := T.F_check_polynomial
  refine toK F (FunD.ok F sc_check_polynomial (fun vs H Q E h => ?_) (fun cdv A outer s H vs Q E hr h => ?_)) (fun _ _ _ _ _ _ us ws h1 h2 => match us, ws, h1, h2 with | [_], [_, _], _, _ => rfl)
  · obtain ⟨a, p, m, b, rfl, _⟩ := h
    rfl
  suffices z : ∃ t, PSs (cxOf (L2.CX P w) P w K mg base ["polynomial", "most", "bound", "coefficient"] "check_polynomial" (defScope s_check_polynomial) (He.ga K "check_polynomial") cdv A outer s H E).nox (defBody s_check_polynomial) t ∧ t { nx := fun _ H' => Q .non H', rt := Q } (start ["polynomial", "most", "bound", "coefficient"] vs) H by
    obtain ⟨t, d, q⟩ := z
    exact ⟨t, d.nox, q⟩
  obtain ⟨a, p, m, b, rfl, ha, ok, q⟩ := h
  refine ⟨_, (pss_cons (ps_if (pt_cmpR op_gt (pe_callB (lenq K) rfl T.b_len PySem.boot_len (pa_cons (pv 0) pa_nil)) (pe_op op_add (pv 1) pe_int) (nomark _)) (pss_one ps_never) pss_nil)
      (pss_cons (ps_for PassesOwn.never rfl (pil K (pv 0)) (pg_name (i := 3) sc_check_polynomial.nd rfl (Or.inl rfl)) (pss_one (ps_if (PW.pt (pw_or (pt_not (pt_val (pe_callR G_is_whole (hr.mono (by omega)) T.g_is_whole (kp T.F_is_whole) passL (pa_cons (pv 3) pa_nil)))) (pw_or1 (pt_not (pt_chain op_lt op_lt (pe_un un_neg (pv 2)) (pv 3) (pv 2)))))) (pss_one ps_never) pss_nil)))
      (pss_one (ps_if (PW.pt (pw_and (pt_truth (pv 0) (by intro _; rfl)) (pw_and1 (pt_cmpR op_eq (pe_ix (ixl K) (pv 0) (pe_un un_neg pe_int) (fun _ _ => rfl)) pe_int (nomark _))))) (pss_one ps_never) pss_nil)))), ?_⟩
  refine ⟨_, rfl, a, _, rfl, .inl (SqL.of ha), _, rfl, _, _, rfl, rfl, _, _, rfl, rfl, _, rfl, ite2 (fun e => ?_) (fun e => ?_)⟩
  · have := of_decide_eq_true e
    rw [List.length_map] at this
    have := ok.len
    omega
  refine ⟨_, rfl, a, rfl, ⟨_, SqL.of ha⟩, for_list (K := K) (a := a) (xs := p.map V.int) (fun i σ H' => ∃ z1, σ = [some (.ref a), some (.int m), some (.int b), z1] ∧ H' = H) ⟨none, rfl, rfl⟩ (fun i σ H' _ ⟨_, _, e⟩ => by subst e; exact SqL.of ha) ?_ ?_⟩
  · rintro i x σ H' hi ⟨z1, rfl, rfl⟩
    obtain ⟨c, hc, rfl⟩ := List.mem_map.mp (List.mem_of_getElem? hi)
    have r := ok.rng c hc
    refine ⟨_, rfl, c, rfl, true, rfl, iteF ?_⟩
    refine ⟨_, rfl, _, rfl, _, rfl, _, _, rfl, rfl, _, rfl, ?_⟩
    refine ite2 (fun _ => ?_) (fun e => absurd (decide_eq_true r.1) e)
    refine ⟨_, rfl, _, _, rfl, rfl, _, rfl, ?_⟩
    refine ite2 (fun e => ?_) (fun _ => ?_)
    · rw [decide_eq_true r.2] at e
      cases e
    · exact ⟨_, rfl, rfl⟩
  · rintro σ H' ⟨z1, rfl, rfl⟩
    refine ⟨_, rfl, _, .inl ⟨_, SqL.of ha, rfl⟩, ite2 (fun e => ?_) (fun _ => ?_)⟩
    · obtain ⟨ys, x, ep⟩ : ∃ ys x, p = ys ++ [x] := by
        cases h0 : p with
        | nil => rw [h0] at e; cases e
        | cons y l => exact ⟨(y :: l).dropLast, (y :: l).getLast (by simp), (List.dropLast_concat_getLast _).symm⟩
      have nz := ok.last ys x ep
      refine ⟨_, rfl, _, rfl, a, _, _, .int x, rfl, rfl, SqL.of ha, ?_, rfl, _, rfl, ?_⟩
      · rw [ep, List.map_append]
        exact atI_last _ _
      · refine ite2 (fun e => ?_) (fun _ => q)
        have : V.int x = V.int 0 := of_decide_eq_true e
        cases this
        exact absurd rfl nz
    · exact iteF q
/-! ### check_row, check_block -/
def inRow (s : Str) : Bool := inV (.str s) [.str "<", .str "<=", .str "="]
structure RowOk (p q : List Int) (s : Str) : Prop where
  p : PolyOk 2 20 p
  q : PolyOk 2 20 q
  s : inRow s = true
def spRow : Sp := fun vs H Q _ => ∃ x p q s, vs = [.int 1, x] ∧ IsR H x p q s ∧ RowOk p q s ∧ ∀ H', Same H H' → Q .non H'
theorem sc_check_row : FnScope ["many", "row", "coefficients", "constant", "sign", "polynomial"] ["many", "row"] (defScope s_check_row) := ⟨rfl, rfl, rfl, by decide +kernel, rfl, by decide +kernel, by decide +kernel⟩
theorem ok_row (T : Txt w K mg) : Fn P w K mg base 3 (He.ga K "check_row") spRow := by
  have K_check_polynomial : FnK P w K mg base 2 (He.ga K "check_polynomial") 1 ["most", "bound"] spPoly := ok_poly T
  refine mkN T.F_check_row sc_check_row (fun vs H Q E h => ?_) (fun _ _ _ _ _ _ us hl => match us, hl with | [_, _], _ => rfl) (fun cdv A outer s H vs Q E hr h => ?_)
  · obtain ⟨x, p, q, s, rfl, _⟩ := h
    rfl
  obtain ⟨x, p, q, z, rfl, hx, ok, qq⟩ := h
  refine ⟨_, (pss_cons (ps_asg (pv 1) (pgt K rfl (pgs_cons (pg_name (i := 2) sc_check_row.nd rfl (Or.inl rfl)) (pgs_cons (pg_name (i := 3) sc_check_row.nd rfl (Or.inl rfl)) (pgs_cons (pg_name (i := 4) sc_check_row.nd rfl (Or.inl rfl)) pgs_nil)))))
      (pss_cons (ps_if (pt_cmpR op_ne (pe_callB (lenq K) rfl T.b_len PySem.boot_len (pa_cons (pv 2) pa_nil)) (pv 0) (nomark _)) (pss_one ps_never) pss_nil)
      (pss_cons (ps_for PassesOwn.never rfl (pil K (pe_op op_cat (pv 2) (pe_lst (pa_cons (pv 3) pa_nil)))) (pg_name (i := 5) sc_check_row.nd rfl (Or.inl rfl)) (pss_one (ps_expr (pe_callKw K_check_polynomial (hr.mono (by omega)) T.g_check_polynomial (kp T.F_check_polynomial) passL (pa_cons (pv 5) pa_nil) (pk_cons pe_int (pk_cons pe_int pk_nil))))))
      (pss_one (ps_if (pt_cmpR (notInq K) (pv 4) (pe_glob (v := .ref (He.ga K "ROW_SIGNS")) rfl T.g_ROW_SIGNS rfl) rfl) (pss_one ps_never) pss_nil))))), ?_⟩
  obtain ⟨t, cs, pl, ql, rfl, h1, h2, h3, h4⟩ := hx
  refine ⟨_, rfl, t, _, rfl, SqT.of h1, rfl, _, _, rfl, _, _, rfl, _, _, rfl, rfl, ?_⟩
  refine ⟨_, rfl, cs, _, rfl, .inl (SqL.of h2), _, rfl, rfl, _, rfl, ite2 (fun e => ?_) (fun _ => ?_)⟩
  · exact absurd e (by show ¬ (!decide (V.int 1 = V.int 1)) = true; decide)
  refine ⟨_, rfl, _, rfl, by show 1 ≤ sizeLine; decide, fun l1 n1 => ?_⟩
  have s1 : Same H (upd H l1 (.lst [.ref ql])) := same_new n1 _
  refine ⟨cs, l1, _, _, rfl, rfl, s1 _ _ h2, upd_same, by show 2 ≤ sizeLine; decide, fun l2 n2 => ?_⟩
  have s2 : Same H (upd (upd H l1 (.lst [.ref ql])) l2 (.lst [.ref pl, .ref ql])) := s1.new n2 _
  refine ⟨l2, rfl, ⟨_, SqL.of upd_same⟩, for_list (K := K) (a := l2) (xs := [.ref pl, .ref ql]) (fun i σ H' => ∃ z1, σ = [some (.int 1), some (.ref t), some (.ref cs), some (.ref ql), some (.str z), z1] ∧ H' = upd (upd H l1 (.lst [.ref ql])) l2 (.lst [.ref pl, .ref ql])) ⟨none, rfl, rfl⟩ (fun i σ H' _ ⟨_, _, e⟩ => by subst e; exact SqL.of upd_same) ?_ ?_⟩
  · rintro i x σ H' hi ⟨z1, rfl, rfl⟩
    obtain ⟨a, r, rfl, e2, e3⟩ : ∃ a r, x = .ref a ∧ H a = some (.lst (r.map V.int)) ∧ PolyOk 2 20 r := by
      match i, hi with
      | 0, hi => cases hi; exact ⟨pl, p, rfl, h3, ok.p⟩
      | 1, hi => cases hi; exact ⟨ql, q, rfl, h4, ok.q⟩
    exact ⟨_, rfl, rfl, rfl, a, r, 2, 20, rfl, s2 _ _ e2, e3, ⟨_, rfl, rfl⟩⟩
  · rintro σ H' ⟨z1, rfl, rfl⟩
    refine ⟨_, rfl, _, [.str "<", .str "<=", .str "="], rfl, .inr (He.tupB_ok T.v_ROW _), rfl, rfl, _, rfl, ite2 (fun e => ?_) (fun _ => qq _ s2)⟩
    have e : (!inRow z) = true := e
    rw [ok.s] at e
    cases e
def spBlock : Sp := fun vs H Q _ => ∃ v p q s, vs = [v] ∧ IsC H v (.sm p q s) ∧ RowOk p q s ∧ ∀ H', Same H H' → Q .non H'
theorem sc_check_block : FnScope ["block", "many", "rows", "row"] ["block"] (defScope s_check_block) := ⟨rfl, rfl, rfl, by decide +kernel, rfl, by decide +kernel, by decide +kernel⟩
theorem ok_block (T : Txt w K mg) : Fn P w K mg base 4 (He.ga K "check_block") spBlock := by
  have G_is_whole : Fn P w K mg base 1 (He.ga K "is_whole") spWhole := ok_whole1 T
  have G_check_row : Fn P w K mg base 3 (He.ga K "check_row") spRow := ok_row T
  refine mkN T.F_check_block sc_check_block (fun vs H Q E h => ?_) (fun _ _ _ _ _ _ us hl => match us, hl with | [_], _ => rfl) (fun cdv A outer s H vs Q E hr h => ?_)
  · obtain ⟨v, p, q, s, rfl, _⟩ := h
    rfl
  obtain ⟨v, p, q, z, rfl, hv, ok, qq⟩ := h
  refine ⟨_, (pss_cons (ps_par (i := 1) (j := 2) rfl sc_check_block.nd rfl rfl (by decide) rfl rfl (pa_cons (pe_ix (ixt K) (pv 0) pe_int (fun _ _ => rfl)) (pa_cons (pe_ix (ixt K) (pv 0) pe_int (fun _ _ => rfl)) pa_nil)) (by rfl))
      (pss_cons (ps_if (PW.pt (pw_or (pt_not (pt_val (pe_callR G_is_whole (hr.mono (by omega)) T.g_is_whole (kp T.F_is_whole) passL (pa_cons (pv 1) pa_nil)))) (pw_or (pt_cmpR (notInq K) (pv 1) (pe_tup (pa_cons pe_int (pa_cons pe_int pa_nil))) rfl) (pw_or1 (pt_not (pt_chain op_le op_le pe_int (pe_callB (lenq K) rfl T.b_len PySem.boot_len (pa_cons (pv 2) pa_nil)) pe_int)))))) (pss_one ps_never) pss_nil)
      (pss_one (ps_for PassesOwn.never rfl (pil K (pv 2)) (pg_name (i := 3) sc_check_block.nd rfl (Or.inl rfl)) (pss_one (ps_expr (pe_callR G_check_row (hr.mono (by omega)) T.g_check_row (kp T.F_check_row) passL (pa_cons (pv 1) (pa_cons (pv 3) pa_nil))))))))), ?_⟩
  obtain ⟨a, r, x, rfl, h1, h2, h3⟩ := isC_sm.mp hv
  refine ⟨_, rfl, a, _, 1, _, rfl, rfl, SqT.of h1, at1 _ _ _, _, rfl, a, _, 2, _, rfl, rfl, SqT.of h1, at2 _ _ _ _, _, _, rfl, ?_⟩
  refine ⟨_, rfl, 1, rfl, true, rfl, iteF ?_⟩
  refine ⟨_, rfl, by show 2 ≤ sizeLine; decide, fun p1 n1 => ?_⟩
  have s1 : Same H (upd H p1 (.tup [.int 1, .int 2])) := same_new n1 _
  refine ⟨p1, _, rfl, .inr (SqT.of upd_same), rfl, rfl, _, rfl, ite2 (fun e => ?_) (fun _ => ?_)⟩
  · exact absurd e (by decide +kernel)
  refine ⟨_, rfl, r, _, rfl, .inl (SqL.of (s1 _ _ h2)), _, _, rfl, rfl, _, rfl, ?_⟩
  refine iteT ⟨_, _, rfl, rfl, _, rfl, iteF ?_⟩
  refine ⟨_, rfl, r, rfl, ⟨_, SqL.of (s1 _ _ h2)⟩, for_list (K := K) (a := r) (xs := [x]) (fun i σ H' => ∃ z1, σ = [some (.ref a), some (.int 1), some (.ref r), z1] ∧ Same H H') ⟨none, rfl, s1⟩ (fun i σ H' _ ⟨_, _, e⟩ => SqL.of (e _ _ h2)) ?_ ?_⟩
  · rintro i y σ H' hi ⟨z1, rfl, sH⟩
    have e : y = x := by
      match i, hi with
      | 0, hi => cases hi; rfl
    subst e
    exact ⟨_, rfl, _, rfl, y, p, q, z, rfl, h3.same sH, ok, fun H2 s2 => ⟨_, rfl, sH.trans s2⟩⟩
  · rintro σ H' ⟨z1, rfl, sH⟩
    exact qq _ sH
end
end Sh
set_option Elab.async false
set_option linter.all false
set_option maxRecDepth 100000
set_option maxHeartbeats 4000000
namespace Sh
open PySem PySem.Spec PyProof.Rows L2 StX
section
variable {P : Program} {w : World} {K : PySem.W.Frag} {mg : Str → Option Value} {base : Heap}
/-! ### check_part -/
def sixS : List Str := ["<", ">=", "<=", ">", "=", "!="]
def okL : C → Prop
  | .sg p s => PolyOk 4 100 p ∧ s ∈ sixS
  | .sm p q s => RowOk p q s
  | _ => True
def okC (c : C) : Prop := ∀ l ∈ c.leaves, okL l
theorem okC_part {c x : C} (h : okC c) (hx : x ∈ c.parts) : okC x := fun l hl => h l (Cnd.part_leaves hx hl)
theorem okC_leaf {c : C} (h : okC c) (hl : c.leaf = true) : okL c := h c (by rw [Cnd.leaves_leaf hl]; exact List.mem_singleton.mpr rfl)
def spPart (j : Nat) : Sp := fun vs H Q E => ∃ v c d hu, vs = [v, .int ((d : Nat) : Int), .bl hu] ∧ IsC H v c ∧ okC c ∧ (hu = false → pureC c) ∧ c.depth ≤ j ∧
  (d + c.depth ≤ 6 → ∀ H', Same H H' → Q .non H') ∧ (6 < d + c.depth → ∀ H', Same H H' → E (.ref (He.ga K "TooDeep")) none H')
theorem six_in {K : PySem.W.Frag} {w : World} {mg : Str → Option Value} (T : Txt w K mg) {s : Str} (h : s ∈ sixS) : ∃ u, PySem.W.nsIn K (He.ga K "OPPOSITE") s = some (some u) := by
  have h' : s ∈ ([("<", .str ">="), (">=", .str "<"), ("<=", .str ">"), (">", .str "<="), ("=", .str "!="), ("!=", .str "=")] : List (Str × He.Dv)).map (·.1) := h
  obtain ⟨q, hq, rfl⟩ := List.mem_map.mp h'
  obtain ⟨u, e, _⟩ := He.valsB_ok T.v_OPPOSITE hq
  exact ⟨u, e⟩
def tlen : C → Nat
  | .us _ => 1
  | .nt _ => 1
  | _ => 2
theorem IsC.tupL {H : Hp} {c : C} {v : V} (h : IsC H v c) : ∃ a xs, v = .ref a ∧ H a = some (.tup (.str (tag c) :: xs)) ∧ xs.length = tlen c := by
  cases c with
  | sg p s => obtain ⟨a, l, e, h1, _⟩ := h; exact ⟨a, _, e, h1, rfl⟩
  | sm p q s => obtain ⟨a, _, _, _, _, _, e, h1, _⟩ := h; exact ⟨a, _, e, h1, rfl⟩
  | us n => obtain ⟨a, e, h1⟩ := h; exact ⟨a, _, e, h1, rfl⟩
  | nt c => obtain ⟨a, x, e, h1, _⟩ := h; exact ⟨a, _, e, h1, rfl⟩
  | bn o c d => obtain ⟨a, x, y, e, h1, _⟩ := h; exact ⟨a, _, e, h1, rfl⟩
theorem len_of {K : PySem.W.Frag} {w : World} {mg : Str → Option Value} (T : Txt w K mg) (c : C) (hc : isUs c = false) : ∃ u, PySem.W.nsIn K (He.ga K "LENGTHS") (tag c) = some (some u) ∧ RelV (.int ((tlen c + 1 : Nat) : Int)) u := by
  have key : ∀ (q : Str × He.Dv), q ∈ ([("sign", .int 3), ("some", .int 3), ("not", .int 2), ("and", .int 3), ("or", .int 3)] : List (Str × He.Dv)) → ∃ u, PySem.W.nsIn K (He.ga K "LENGTHS") q.1 = some (some u) ∧ RelV (q.2.v K) u := fun q hq => He.valsB_ok T.v_LENGTHS hq
  cases c with
  | sg p s => exact key ("sign", .int 3) (.head _)
  | sm p q s => exact key ("some", .int 3) (.tail _ (.head _))
  | us n => cases hc
  | nt c => exact key ("not", .int 2) (.tail _ (.tail _ (.head _)))
  | bn o a b =>
    cases o
    · exact key ("or", .int 3) (.tail _ (.tail _ (.tail _ (.tail _ (.head _)))))
    · exact key ("and", .int 3) (.tail _ (.tail _ (.tail _ (.head _))))
theorem sc_check_part : FnScope ["formula", "depth", "has_uses", "kind", "part"] ["formula", "depth", "has_uses"] (defScope s_check_part) := ⟨rfl, rfl, rfl, by decide +kernel, rfl, by decide +kernel, by decide +kernel⟩
theorem ok_part_step (T : Txt w K mg) (U : Aux P K) {d j : Nat} (hj : 4 ≤ j) (G : d = 0 ∨ FnK P w K mg base j (He.ga K "check_part") 2 ["has_uses"] (spPart (K := K) (d - 1))) {fd : FuncData} (F : FunD K "check_part" "check_part" (defArgs s_check_part) (defBody s_check_part) (defScope s_check_part) [] [("has_uses", .bl false)] (He.ga K "check_part") fd) :
    FnOk P w K mg base (L2.CX P w) (j + 1) (He.ga K "check_part") fd ["formula", "depth", "has_uses"] (spPart (K := K) d) := by
  have K_check_polynomial : FnK P w K mg base 2 (He.ga K "check_polynomial") 1 ["most", "bound"] spPoly := ok_poly T
  have G_check_block : Fn P w K mg base 4 (He.ga K "check_block") spBlock := ok_block T
  have K_check_part : FnK P w K mg base j (He.ga K "check_part") 2 ["has_uses"] (fun vs H Q E => 0 < d ∧ spPart (K := K) (d - 1) vs H Q E) := by
    rcases G with e | G
    · intro A outer s H us ws vs zs Q E _ _ _ _ _ _ hs
      exact absurd hs.1 (by omega)
    · intro A outer s H us ws vs zs Q E h1 h2 h3 h4 h5 h6 hs
      exact G A outer s H us ws vs zs Q E h1 h2 h3 h4 h5 h6 hs.2
  refine FunD.ok F sc_check_part (fun vs H Q E h => ?_) (fun cdv A outer s H vs Q E hr h => ?_)
  · obtain ⟨v, c, d, hu, rfl, _⟩ := h
    rfl
  obtain ⟨v, c, n, hu, rfl, hc, ok, hp, hd, q1, q2⟩ := h
  refine ⟨_, (pss_cons (ps_if (pt_cmpR op_gt (pv 1) (pe_gi T.i_DEEPEST) (nomark _)) (pss_one (ps_raise rfl (takes_of rfl rfl rfl rfl) (pmk_err U.x_TooDeep T.g_TooDeep hr T.b_super U.top))) pss_nil)
      (pss_cons (ps_set (i := 3) sc_check_part.nd rfl (Or.inl rfl) (pe_ix (ixt K) (pv 0) pe_int (fun _ _ => rfl)))
      (pss_cons (ps_if (PW.pt (pw_and (pt_truth (pv 2) (by intro _; rfl)) (pw_and (pt_cmpR op_eq (pv 3) pe_str (nomark _)) (pw_and1 (pt_cmpR op_eq (pe_callB (lenq K) rfl T.b_len PySem.boot_len (pa_cons (pv 0) pa_nil)) pe_int (nomark _)))))) (pss_one ps_retN) pss_nil)
      (pss_cons (ps_if (PW.pt (pw_or (pt_cmpR (op_notIn_kd (Classical.choose_spec (Classical.choose_spec T.d_LENGTHS))) (pv 3) (pe_glob (v := .ref (He.ga K "LENGTHS")) rfl T.g_LENGTHS rfl) rfl) (pw_or1 (pt_cmpR op_ne (pe_callB (lenq K) rfl T.b_len PySem.boot_len (pa_cons (pv 0) pa_nil)) (pe_ix ix_kdict (pe_glob (v := .ref (He.ga K "LENGTHS")) rfl T.g_LENGTHS rfl) (pv 3) (fun _ _ => rfl)) (nomark _))))) (pss_one ps_never) pss_nil)
      (pss_one (ps_if (pt_cmpR op_eq (pv 3) pe_str (nomark _)) (pss_cons (ps_expr (pe_callKw K_check_polynomial (hr.mono (by omega)) T.g_check_polynomial (kp T.F_check_polynomial) passL (pa_cons (pe_ix (ixt K) (pv 0) pe_int (fun _ _ => rfl)) pa_nil) (pk_cons pe_int (pk_cons pe_int pk_nil))))
      (pss_one (ps_if (pt_cmpR (op_notIn_kd (Classical.choose_spec (Classical.choose_spec T.d_OPPOSITE))) (pe_ix (ixt K) (pv 0) pe_int (fun _ _ => rfl)) (pe_glob (v := .ref (He.ga K "OPPOSITE")) rfl T.g_OPPOSITE rfl) rfl) (pss_one ps_never) pss_nil))) (pss_one (ps_if (pt_cmpR op_eq (pv 3) pe_str (nomark _)) (pss_one (ps_expr (pe_callR G_check_block (hr.mono (by omega)) T.g_check_block (kp T.F_check_block) passL (pa_cons (pv 0) pa_nil)))) (pss_one (ps_for (passes_of rfl) rfl (pit K (pe_slice (slt K) (pv 0) (po_some pe_int) po_none)) (pg_name (i := 4) sc_check_part.nd rfl (Or.inl rfl)) (pss_one (ps_expr (pe_callKw K_check_part (hr.mono (by omega)) T.g_check_part (kp T.F_check_part) (passes_call (takes_of rfl rfl rfl rfl) (fun _ _ _ _ h => h)) (pa_cons (pv 4) (pa_cons (pe_op op_add (pv 1) pe_int) pa_nil)) (pk_cons (pv 2) pk_nil)))))))))))))), ?_⟩
  obtain ⟨a, xs, rfl, ha, hl⟩ := hc.tupL
  refine ⟨_, rfl, _, _, rfl, rfl, _, rfl, ite2 (fun e => ?_) (fun e => ?_)⟩
  · have := of_decide_eq_true e
    exact q2 (by omega) _ (Same.refl _)
  have hn : n ≤ 6 := by
    have : ¬ ((6 : Int) < n) := fun z => e (decide_eq_true z)
    omega
  refine ⟨_, rfl, a, _, 0, _, rfl, rfl, SqT.of ha, at0 _ _, ?_⟩
  have le : (V.str (tag c) :: xs).length = tlen c + 1 := by rw [List.length_cons, hl]
  refine ⟨_, rfl, hu, rfl, ?_⟩
  by_cases hus : isUs c = true
  · have e1 : hu = true := by
      cases hu with
      | true => rfl
      | false =>
        exfalso
        have h2 : c.leaf = true := by rw [leaf_eq, hus, Bool.true_or]
        have h3 := pure_leaf (hp rfl) h2
        cases c <;> first | (cases hus; done) | (cases h3; done)
    subst e1
    refine iteT ⟨_, rfl, rfl, _, rfl, ?_⟩
    rw [tag_us, hus]
    refine iteT ⟨_, rfl, a, _, rfl, .inr (SqT.of ha), rfl, _, rfl, ?_⟩
    have z : tlen c = 1 := by cases c <;> first | (cases hus; done) | rfl
    rw [le, z]
    refine ite2 (fun _ => ?_) (fun e => absurd (decide_eq_true rfl) e)
    refine q1 ?_ _ (Same.refl _)
    have h2 : c.leaf = true := by rw [leaf_eq, hus, Bool.true_or]
    rw [Cnd.depth_leaf h2]
    exact hn
  · have hus := Bool.eq_false_iff.mpr hus
    obtain ⟨u, e1, r1⟩ := len_of T c hus
    obtain ⟨es, nn, D⟩ := T.d_LENGTHS
    cases hu
    case' true =>
      refine iteT ⟨_, rfl, rfl, _, rfl, ?_⟩
      rw [tag_us, hus]
      refine iteF ?_
    case' false =>
      refine iteF ?_
    all_goals
      refine iteF ?_
      refine ⟨_, rfl, _, some u, rfl, rfl, e1, _, rfl, iteF ?_⟩
      refine ⟨_, rfl, a, _, rfl, .inr (SqT.of ha), _, rfl, _, _, .int ((tlen c + 1 : Nat) : Int), rfl, rfl, ⟨es, nn, u, D.at_, D.lit, e1, r1⟩, rfl, _, rfl, ?_⟩
      rw [le]
      refine ite2 (fun e => ?_) (fun _ => ?_)
      · rw [decide_eq_true rfl] at e
        cases e
      refine ⟨_, rfl, rfl, _, rfl, ite2 (fun e => ?_) (fun e => ?_)⟩
      · rw [tag_sg] at e
        cases c with
        | sg p s =>
          obtain ⟨a', l, ea, h1, h2⟩ := hc
          cases ea
          have okl := okC_leaf ok rfl
          refine ⟨_, rfl, a, _, 1, _, rfl, rfl, SqT.of h1, at1 _ _ _, rfl, rfl, l, p, 4, 100, rfl, h2, okl.1, ?_⟩
          obtain ⟨u2, e2⟩ := six_in T okl.2
          refine ⟨_, rfl, a, _, 2, _, rfl, rfl, SqT.of h1, at2 _ _ _ _, _, some u2, rfl, rfl, e2, _, rfl, iteF ?_⟩
          exact q1 hn _ (Same.refl _)
        | _ => cases e
      · rw [tag_sg] at e
        refine ⟨_, rfl, rfl, _, rfl, ite2 (fun e2 => ?_) (fun e2 => ?_)⟩
        · rw [tag_sm] at e2
          cases c with
          | sm p q s =>
            exact ⟨_, rfl, _, p, q, s, rfl, hc, okC_leaf ok rfl, fun H' sH => q1 hn _ sH⟩
          | _ => cases e2
        · rw [tag_sm] at e2
          have nl : c.leaf = false := by rw [leaf_eq, hus, isAt, Bool.eq_false_iff.mpr e, Bool.eq_false_iff.mpr e2]; rfl
          obtain ⟨a', xs', ea, ha', hps⟩ := hc.node nl
          cases ea
          rw [ha] at ha'
          cases ha'
          refine ⟨_, rfl, 1, rfl, a, _, rfl, SqT.of ha, cut1_ne _ _, fun p np => ?_⟩
          rw [cut1]
          have s1 : Same H (upd H p (.tup xs)) := same_new np _
          refine ⟨p, rfl, ⟨_, SqT.of upd_same⟩, for_tup (K := K) (a := p) (xs := xs) (fun i σ H' => ∃ z, σ = [some (.ref a), some (.int n), some (.bl _), some (.str (tag c)), z] ∧ Same H H' ∧ H' p = some (.tup xs) ∧ ∀ x ∈ c.parts.take i, n + 1 + x.depth ≤ 6) ⟨none, rfl, s1, upd_same, fun _ h => by cases h⟩ (fun i σ H' _ ⟨_, _, _, h, _⟩ => SqT.of h) ?_ ?_⟩
          · rintro i x σ H' hi ⟨z, rfl, sH, hp', small⟩
            obtain ⟨pc, hpc, hx⟩ := paired_get hps hi
            have hm := List.mem_of_getElem? hpc
            have hdp := Cnd.parts_depth hm
            refine ⟨_, rfl, _, rfl, _, _, rfl, rfl, _, rfl, rfl, rfl, by omega, x, pc, n + 1, _, rfl, hx.same sH, okC_part ok hm, fun z => pure_part (hp z) hm, by omega, fun le H2 s2 => ?_, fun gt H2 s2 => q2 (by omega) _ (sH.trans s2)⟩
            refine ⟨_, rfl, sH.trans s2, s2 _ _ hp', fun y hy => ?_⟩
            rw [take_more hpc] at hy
            rcases List.mem_append.mp hy with h | h
            · exact small y h
            · rw [List.mem_singleton.mp h]
              exact le
          · rintro σ H' ⟨z, rfl, sH, hp', small⟩
            rw [paired_len hps, List.take_length] at small
            refine q1 ?_ _ sH
            cases c with
            | nt c =>
              have := small c (by simp [Cnd.parts])
              show n + (c.depth + 1) ≤ 6
              omega
            | bn o c1 c2 =>
              have h1 := small c1 (by simp [Cnd.parts])
              have h2 := small c2 (by simp [Cnd.parts])
              show n + (max c1.depth c2.depth + 1) ≤ 6
              omega
            | _ => cases nl
theorem ok_partK (T : Txt w K mg) (U : Aux P K) : ∀ d, FnK P w K mg base (d + 5) (He.ga K "check_part") 2 ["has_uses"] (spPart (K := K) d)
  | 0 => by
    obtain ⟨fd, F⟩ := T.F_check_part
    exact toK F (ok_part_step T U (Nat.le_refl 4) (.inl rfl) F) (fun _ _ _ _ _ _ us ws h1 h2 => match us, ws, h1, h2 with | [_, _], [_], _, _ => rfl)
  | d + 1 => by
    obtain ⟨fd, F⟩ := T.F_check_part
    exact toK F (ok_part_step T U (by omega) (.inr (ok_partK T U d)) F) (fun _ _ _ _ _ _ us ws h1 h2 => match us, ws, h1, h2 with | [_, _], [_], _, _ => rfl)
theorem ok_part (T : Txt w K mg) (U : Aux P K) (d : Nat) : Fn P w K mg base (d + 6) (He.ga K "check_part") (fun vs H Q E => spPart (K := K) d (vs ++ [.bl false]) H Q E) := by
  obtain ⟨fd, F⟩ := T.F_check_part
  obtain ⟨ds, r, b⟩ := F.binds0 (ps := ["formula", "depth", "has_uses"]) 2 (by simp) rfl (fun D doc pm an cdv ct us ks h1 h2 => match us, ks, h1, h2 with | [_, _], [_], _, _ => ⟨_, _, _, _, _, _, rfl, rfl, rfl⟩)
  exact (ok_part_step T U (j := d + 5) (by omega) (d := d) (by
    cases d with
    | zero => exact .inl rfl
    | succ d =>
      refine .inr ?_
      intro A outer s H us ws vs zs Q E h1 h2 h3 h4 h5 h6 hs
      exact ok_partK T U d A outer s H us ws vs zs Q E (h1.mono (by omega)) h2 h3 h4 h5 h6 hs) F).raw b r
end
end Sh
set_option Elab.async false
set_option linter.all false
set_option maxRecDepth 100000
set_option maxHeartbeats 4000000
namespace Sh
open PySem PySem.Spec PyProof.Rows L2 StX
section
variable {P : Program} {w : World} {K : PySem.W.Frag} {mg : Str → Option Value} {base : Heap}
def errN : Err → Str
  | .deep => "TooDeep"
  | .size => "BadSize"
  | .unk => "UnknownName"
  | .circ => "Circle"
  | .inuse => "InUse"
  | .badname => "BadName"
def Bad (K : PySem.W.Frag) (E : XK) (e : Err) (H : Hp) : Prop := E (.ref (He.ga K (errN e))) none H
def DueP (K : PySem.W.Frag) (c : C) (H : Hp) (Q : VK) (E : XK) : Prop := match due c with
  | none => ∀ H', Same H H' → Q .non H'
  | some e => ∀ H', Same H H' → Bad K E e H'
theorem due_deep {K : PySem.W.Frag} {c : C} {H : Hp} {Q : VK} {E : XK} (q : DueP K c H Q E) (h : 6 < c.depth) : ∀ H', Same H H' → E (.ref (He.ga K "TooDeep")) none H' := by
  unfold DueP due at q
  rw [if_pos h] at q
  exact q
theorem due_size {K : PySem.W.Frag} {c : C} {H : Hp} {Q : VK} {E : XK} (q : DueP K c H Q E) (h : ¬ 6 < c.depth) (h2 : 6 < c.nsg ∨ 3 < c.nsm) : ∀ H', Same H H' → E (.ref (He.ga K "BadSize")) none H' := by
  unfold DueP due at q
  rw [if_neg h, if_pos h2] at q
  exact q
theorem due_ok {K : PySem.W.Frag} {c : C} {H : Hp} {Q : VK} {E : XK} (q : DueP K c H Q E) (h : ¬ 6 < c.depth) (h2 : ¬ (6 < c.nsg ∨ 3 < c.nsm)) : ∀ H', Same H H' → Q .non H' := by
  unfold DueP due at q
  rw [if_neg h, if_neg h2] at q
  exact q
/-! ### check_formula -/
def spCheckF (d : Nat) : Sp := fun vs H Q E => ∃ M v c, vs = [v] ∧ Av M H ∧ IsC (mi M H) v c ∧ okC c ∧ pureC c ∧ c.depth ≤ d ∧ c.leaves.length ≤ 100000 ∧ DueP K c H Q E
theorem sc_check_formula : FnScope ["formula", "signs", "blocks", "_"] ["formula"] (defScope s_check_formula) := ⟨rfl, rfl, rfl, by decide +kernel, rfl, by decide +kernel, by decide +kernel⟩
theorem ok_checkF (T : Txt w K mg) (U : Aux P K) (d : Nat) : Fn P w K mg base (d + 7) (He.ga K "check_formula") (spCheckF (K := K) d) := by
  have G_check_part := ok_part (base := base) T U d
  have G_size_of : Fn P w K mg base (d + 3) (He.ga K "size_of") (spSize d) := ok_size T d
  refine mkR T.F_check_formula sc_check_formula (fun vs H Q E h => ?_) (fun _ _ _ _ _ _ us hl => match us, hl with | [_], _ => rfl) (fun cdv A outer s H vs Q E hr h => ?_)
  · obtain ⟨M, v, c, rfl, _⟩ := h
    rfl
  obtain ⟨M, v, c, rfl, av, hc, ok, hp, hd, hl, q⟩ := h
  refine ⟨_, (pss_cons (ps_expr (pe_callR G_check_part (hr.mono (by omega)) T.g_check_part (kp T.F_check_part) (passes_call (takes_of rfl rfl rfl rfl) (fun _ _ _ _ h => h)) (pa_cons (pv 0) (pa_cons pe_int pa_nil))))
      (pss_cons (ps_asg (pe_callR G_size_of (hr.mono (by omega)) T.g_size_of (kp T.F_size_of) passL (pa_cons (pv 0) pa_nil)) (pgt K rfl (pgs_cons (pg_name (i := 1) sc_check_formula.nd rfl (Or.inl rfl)) (pgs_cons (pg_name (i := 2) sc_check_formula.nd rfl (Or.inl rfl)) (pgs_cons (pg_name (i := 3) sc_check_formula.nd rfl (Or.inl rfl)) pgs_nil)))))
      (pss_one (ps_if (PW.pt (pw_or (pt_cmpR op_gt (pv 1) (pe_gi T.i_MOST_SIGNS) (nomark _)) (pw_or1 (pt_cmpR op_gt (pv 2) (pe_gi T.i_MOST_BLOCKS) (nomark _))))) (pss_one (ps_raise rfl (takes_of rfl rfl rfl rfl) (pmk_err U.x_BadSize T.g_BadSize hr T.b_super U.top))) pss_nil)))), ?_⟩
  have hcH : IsC H v c := hc.same (mi_le M H)
  refine ⟨_, rfl, v, c, 0, false, rfl, hcH, ok, fun _ => hp, hd, fun le H1 s1 => ?_, fun gt H1 s1 => ?_⟩
  · refine ⟨_, rfl, M, v, c, rfl, av.same s1, hc.same (mi_same s1), hp, hd, hl, fun t H2 s2 ht => ?_⟩
    refine ⟨t, _, rfl, SqT.of ht, rfl, _, _, rfl, _, _, rfl, _, _, rfl, rfl, ?_⟩
    have s3 := s1.trans s2
    refine ⟨_, rfl, _, _, rfl, rfl, _, rfl, ite2 (fun e => ?_) (fun e => ?_)⟩
    · refine iteT (due_size q (by omega) (.inl ?_) _ s3)
      have := of_decide_eq_true e
      omega
    · refine ⟨_, rfl, _, _, rfl, rfl, _, rfl, ite2 (fun e2 => ?_) (fun e2 => ?_)⟩
      · refine due_size q (by omega) (.inr ?_) _ s3
        have := of_decide_eq_true e2
        omega
      · refine due_ok q (by omega) ?_ _ s3
        rintro (h | h)
        · exact e (decide_eq_true (by omega))
        · exact e2 (decide_eq_true (by omega))
  · exact due_deep q (by omega) _ s1
/-! ### check_condition -/
def spCheckC (d : Nat) : Sp := fun vs H Q E => ∃ M v c, vs = [v] ∧ Av M H ∧ IsC (mi M H) v c ∧ okC c ∧ c.depth ≤ d ∧ c.leaves.length ≤ 100000 ∧ DueP K c H Q E
theorem sc_check_condition : FnScope ["condition", "kinds", "leaf"] ["condition"] (defScope s_check_condition) := ⟨rfl, rfl, rfl, by decide +kernel, rfl, by decide +kernel, by decide +kernel⟩
theorem ok_checkC (T : Txt w K mg) (U : Aux P K) (d : Nat) : Fn P w K mg base (d + 7) (He.ga K "check_condition") (spCheckC (K := K) d) := by
  have K_check_part := ok_partK (base := base) T U d
  have G_leaves_of : Fn P w K mg base (d + 2) (He.ga K "leaves_of") (spLeaves d) := ok_leaves T d
  refine mkR T.F_check_condition sc_check_condition (fun vs H Q E h => ?_) (fun _ _ _ _ _ _ us hl => match us, hl with | [_], _ => rfl) (fun cdv A outer s H vs Q E hr h => ?_)
  · obtain ⟨M, v, c, rfl, _⟩ := h
    rfl
  obtain ⟨M, v, c, rfl, av, hc, ok, hd, hl, q⟩ := h
  refine ⟨_, (pss_cons (ps_expr (pe_callKw K_check_part (hr.mono (by omega)) T.g_check_part (kp T.F_check_part) (passes_call (takes_of rfl rfl rfl rfl) (fun _ _ _ _ h => h)) (pa_cons (pv 0) (pa_cons pe_int pa_nil)) (pk_cons pe_bl pk_nil)))
      (pss_cons (ps_setLc (i := 1) (own := [("leaf", 2)]) (g := gName 2) (tt := tYes) rfl sc_check_condition.nd rfl rfl (sw_true rfl rfl rfl (by decide +kernel)) (pil K (pe_callR G_leaves_of (hr.mono (by omega)) T.g_leaves_of (kp T.F_leaves_of) passL (pa_cons (pv 0) pa_nil))) (blkOk_by (N := ["condition", "kinds", "leaf"]) (sc := defScope s_check_condition) (by decide +kernel)) (fun _ _ _ _ _ => (pg_name (i := 2) sc_check_condition.nd rfl (Or.inl rfl))) (fun _ _ _ _ _ => pts_nil) (fun _ _ _ _ _ => (pe_ix (ixt K) (pv 2) pe_int (fun _ _ => rfl))))
      (pss_one (ps_if (PW.pt (pw_or (pt_cmpR op_gt (pe_bm PySem.F.plainAttrs_list PySem.F.slot_list_count PySem.F.type_list_count (cntq K) (pv 1) (pa_cons pe_str pa_nil)) (pe_gi T.i_MOST_SIGNS) (nomark _)) (pw_or1 (pt_cmpR op_gt (pe_bm PySem.F.plainAttrs_list PySem.F.slot_list_count PySem.F.type_list_count (cntq K) (pv 1) (pa_cons pe_str pa_nil)) (pe_gi T.i_MOST_BLOCKS) (nomark _))))) (pss_one (ps_raise rfl (takes_of rfl rfl rfl rfl) (pmk_err U.x_BadSize T.g_BadSize hr T.b_super U.top))) pss_nil)))), ?_⟩
  have hcH : IsC H v c := hc.same (mi_le M H)
  refine ⟨_, rfl, rfl, rfl, v, c, 0, true, rfl, hcH, ok, (fun h => nomatch h), hd, fun le H1 s1 => ?_, fun gt H1 s1 => ?_⟩
  · refine ⟨_, rfl, M, v, c, rfl, av.same s1, hc.same (mi_same s1), hd, hl, fun l xs H2 s2 n1 e1 ar => ⟨l, rfl, ⟨_, SqL.of e1⟩, fun D nD => ?_⟩⟩
    refine lc_list (K := K) (a := l) (xs := xs) (fun i H' => Same H2 H' ∧ H' D = some (.lst ((c.leaves.take i).map fun x => V.str (tag x))))
      ⟨same_new nD _, upd_same⟩ (fun i H' _ h => SqL.of (h.1 _ _ e1)) ?_ ?_
    · rintro i x H' hi ⟨s2, eD⟩
      obtain ⟨lc, hlc, hx⟩ := paired_get ar hi
      have hxH : IsC H' x lc := (hx.same (mi_le _ _)).same s2
      obtain ⟨a, ys, rfl, ha⟩ := hxH.tup
      refine ⟨rfl, ?_⟩
      refine ⟨_, rfl, a, _, 0, _, rfl, rfl, SqT.of ha, at0 _ _, _, eD, ?_, s2.put nD _, ?_⟩
      · rw [List.length_map, List.length_take]
        exact big_line' (by omega)
      · rw [upd_same, take_more hlc, List.map_append]
        rfl
    · rintro H' ⟨s4, eD⟩
      rw [paired_len ar, List.take_length] at eD
      have s3 := (s1.trans s2).trans s4
      refine ⟨_, rfl, .inl ⟨rfl, _, SqL.of eD⟩, D, _, _, rfl, rfl, SqL.of eD, rfl, flat_tags _, ?_⟩
      rw [count_tags Cnd.isSg _ eqV_sg]
      refine ⟨_, _, rfl, rfl, _, rfl, ite2 (fun e => ?_) (fun e => ?_)⟩
      · refine iteT (due_size q (by omega) (.inl ?_) _ s3)
        have : (6 : Int) < (c.nsg : Nat) := of_decide_eq_true e
        omega
      · refine ⟨_, rfl, .inl ⟨rfl, _, SqL.of eD⟩, D, _, _, rfl, rfl, SqL.of eD, rfl, flat_tags _, ?_⟩
        rw [count_tags Cnd.isSm _ eqV_sm]
        refine ⟨_, _, rfl, rfl, _, rfl, ite2 (fun e2 => ?_) (fun e2 => ?_)⟩
        · refine due_size q (by omega) (.inr ?_) _ s3
          have : (3 : Int) < (c.nsm : Nat) := of_decide_eq_true e2
          omega
        · refine due_ok q (by omega) ?_ _ s3
          rintro (h | h)
          · exact e (decide_eq_true (by show (6 : Int) < (c.nsg : Nat); omega))
          · exact e2 (decide_eq_true (by show (3 : Int) < (c.nsm : Nat); omega))
  · exact due_deep q (by omega) _ s1
end
end Sh
set_option Elab.async false
set_option linter.all false
set_option maxRecDepth 100000
set_option maxHeartbeats 4000000
namespace Sh
open PySem PySem.Spec PyProof.Rows L2 StX
/-- over a list that stays -/
theorem dc_list {K : PySem.W.Frag} {a : Addr} {xs : List V} {g : TG} {tt : TT} {tk tv : TE} {vs : List Nat} {σ : L2.St} {H1 : Hp} {D : Addr} {Qd : Hp → Prop} (Pv : Nat → Hp → Prop) (h0 : Pv 0 (upd H1 D (.dK []))) (hl : ∀ i H, i ≤ xs.length → Pv i H → SqL K H a xs)
    (hs : ∀ i x H, xs[i]? = some x → Pv i H → g x (wipe σ vs) H fun σ2 H2 => wipe σ2 vs = wipe σ vs ∧ tt σ2 H2 fun b H3 =>
      if b = true then tk σ2 H3 fun y H4 => tv σ2 H4 fun z H5 => ∃ kvs k, y = kV k ∧ H5 D = some (.dK kvs) ∧ kvs.length < sizeLine ∧ Pv (i + 1) (upd H5 D (.dK (putK kvs k z))) else Pv (i + 1) H3) (hd : ∀ H, Pv xs.length H → Qd H) :
    ∃ W : Nat → Nat → Hp → Prop, (∃ m, W 0 m (upd H1 D (.dK []))) ∧ ∀ i m H, W i m H →
      ((Itl K a).stop i H ∧ Qd H) ∨ ((Itl K a).go i H ∧ ∃ Nx : Hp → Prop, (∀ H', Nx H' → ∃ m', m' < m ∧ W (i + 1) m' H') ∧ ∀ x H', (Itl K a).yld i H x H' → g x (wipe σ vs) H' fun σ2 H2 => wipe σ2 vs = wipe σ vs ∧ tt σ2 H2 fun b H3 =>
        if b = true then tk σ2 H3 fun y H4 => tv σ2 H4 fun z H5 => ∃ kvs k, y = kV k ∧ H5 D = some (.dK kvs) ∧ kvs.length < sizeLine ∧ Nx (upd H5 D (.dK (putK kvs k z))) else Nx H3) := by
  refine ⟨fun i m H => m = xs.length - i ∧ i ≤ xs.length ∧ Pv i H, ⟨xs.length, by simp, Nat.zero_le _, h0⟩, ?_⟩
  rintro i m H ⟨rfl, hi, p⟩
  have q := hl i H hi p
  by_cases hlt : i < xs.length
  · refine .inr ⟨⟨xs, xs[i], q, by simp [hlt]⟩, Pv (i + 1), fun H' p' => ⟨xs.length - (i + 1), by omega, rfl, hlt, p'⟩, fun x H' y => ?_⟩
    obtain ⟨e, y⟩ := y
    subst e
    exact hs i x _ (y xs q) p
  · have e : i = xs.length := by omega
    subst e
    exact .inl ⟨⟨xs, q, Nat.le_refl _⟩, hd H p⟩
section
variable {P : Program} {w : World} {K : PySem.W.Frag} {mg : Str → Option Value} {base : Heap}
/-! ### leads_to -/
structure SB (S : List Str) (B : Nat) : Prop where
  s : S.length ≤ 13
  b1 : 1 ≤ B
  b4 : B ≤ 4
  lim : B ^ (S.length + 1) ≤ 100000
/-- a right list of pairs, with a rank -/
structure Rt (S : List Str) (B : Nat) (ps : PsC) (r : Str → Nat) : Prop where
  good : Good okL S B ps
  sb : SB S B
  rk : Rk ps r
  le : ∀ n, r n ≤ ps.length
theorem Rt.le13 {S : List Str} {B : Nat} {ps : PsC} {r : Str → Nat} (G : Rt S B ps r) (n : Str) : r n ≤ 13 := Nat.le_trans (G.le n) (Nat.le_trans G.good.len G.sb.s)
theorem rt_of {S : List Str} {B : Nat} {ps : PsC} (G : Good okL S B ps) (sb : SB S B) : ∃ r, Rt S B ps r := by
  obtain ⟨r, R, h⟩ := G.rks
  exact ⟨r, G, sb, R, h⟩
def spLeads (j : Nat) : Sp := fun vs H Q _ => ∃ M a ps r S B s n, vs = [.ref a, .str s, .str n] ∧ Av M H ∧ IsPs (mi M H) a ps ∧ Rt S B ps r ∧ (∃ c, cin ps s = some c) ∧ r s < j ∧ ∀ H', Same H H' → Q (.bl (leads ps n s)) H'
theorem sc_leads_to : FnScope ["pairs", "start", "name", "other"] ["pairs", "start", "name"] (defScope s_leads_to) := ⟨rfl, rfl, rfl, by decide +kernel, rfl, by decide +kernel, by decide +kernel⟩
theorem any_map_id {α : Type} (l : List α) (f : α → Bool) : (l.map f).any id = l.any f := by rw [List.any_map]; rfl
theorem ok_leads_step (T : Txt w K mg) {d j : Nat} (hj : 5 ≤ j) (G : d = 0 ∨ Fn P w K mg base j (He.ga K "leads_to") (spLeads (d - 1))) : Fn P w K mg base (j + 1) (He.ga K "leads_to") (spLeads d) := by
  have G_leads_to : Fn P w K mg base j (He.ga K "leads_to") (fun vs H Q E => 0 < d ∧ spLeads (d - 1) vs H Q E) := by
    rcases G with e | G
    · intro A outer s H us vs Q E _ _ _ hs
      exact absurd hs.1 (by omega)
    · exact G.imp fun vs H Q E h => h.2
  have G_condition_in : Fn P w K mg base 1 (He.ga K "condition_in") spIn := ok_in T
  have G_used_in : Fn P w K mg base 5 (He.ga K "used_in") (spUsed 2) := ok_used T 2
  refine mkN T.F_leads_to sc_leads_to (fun vs H Q E h => ?_) (fun _ _ _ _ _ _ us hl => match us, hl with | [_, _, _], _ => rfl) (fun cdv A outer s H vs Q E hr h => ?_)
  · obtain ⟨M, a, ps, r, S, B, s, n, rfl, _⟩ := h
    rfl
  obtain ⟨M, a, ps, r, S, B, z, n, rfl, av, hps, rt, ⟨c, hc⟩, hr', q⟩ := h
  refine ⟨_, (pss_cons (ps_if (pt_cmpR op_eq (pv 1) (pv 2) (nomark _)) (pss_one (ps_ret pe_bl)) pss_nil)
      (pss_one (ps_ret (pe_callB (anyq K rfl) rfl T.b_any (by decide +kernel) (pa_cons (pe_lc (own := [("other", 3)]) (g := gName 3) (tt := tYes) rfl sc_leads_to.nd (pil K (pe_callR G_used_in (hr.mono (by omega)) T.g_used_in (kp T.F_used_in) passL (pa_cons (pe_callR G_condition_in (hr.mono (by omega)) T.g_condition_in (kp T.F_condition_in) passL (pa_cons (pv 0) (pa_cons (pv 1) pa_nil))) pa_nil))) (blkOk_by (N := ["pairs", "start", "name", "other"]) (sc := defScope s_leads_to) (by decide +kernel)) (fun _ _ _ _ _ => (pg_name (i := 3) sc_leads_to.nd rfl (Or.inl rfl))) (fun _ _ _ _ _ => pts_nil) (fun _ _ _ _ _ => (pe_callR G_leads_to (hr.mono (by omega)) T.g_leads_to (kp T.F_leads_to) passL (pa_cons (pv 0) (pa_cons (pv 3) (pa_cons (pv 2) pa_nil)))))) pa_nil))))), ?_⟩
  have eqn := leads_eq (n := n) rt.rk hc (by have := rt.le13 z; omega)
  refine ⟨_, rfl, _, rfl, rfl, _, rfl, ite2 (fun e => ?_) (fun e => ?_)⟩
  · rw [dec_strS] at e
    have z2 := q _ (Same.refl H)
    rw [eqn, e, Bool.true_or] at z2
    exact z2
  · rw [dec_strS] at e
    rw [Bool.eq_false_iff.mpr e, Bool.false_or] at eqn
    rw [eqn] at q
    have co := rt.good.at hc
    refine ⟨_, rfl, _, rfl, M, a, z, ps, rfl, av, hps, ?_⟩
    rw [hc]
    intro v hv
    refine ⟨M, v, c, rfl, av, hv, co.dep, Nat.le_trans co.len (Nat.le_trans rt.sb.b4 (by decide)), fun l H1 s1 n1 e1 => ⟨l, rfl, ⟨_, SqL.of e1⟩, fun D nD => ?_⟩⟩
    have ul : c.used.length ≤ 4 := Nat.le_trans (Cnd.used_len c) (Nat.le_trans co.len rt.sb.b4)
    refine lc_list (K := K) (a := l) (xs := c.used.map V.str) (fun i H' => Same H1 H' ∧ H' D = some (.lst (((c.used.take i).map (leads ps n)).map V.bl)))
      ⟨same_new nD _, upd_same⟩ (fun i H' _ h => SqL.of (h.1 _ _ e1)) ?_ ?_
    · rintro i x H' hi ⟨s2, eD⟩
      rw [List.getElem?_map] at hi
      cases hu : c.used[i]? with
      | none => rw [hu] at hi; cases hi
      | some u =>
        rw [hu] at hi
        cases hi
        have hm := List.mem_of_getElem? hu
        obtain ⟨ru, hcu⟩ := rt.rk z c hc u hm
        have sH := s1.trans s2
        refine ⟨rfl, ?_⟩
        refine ⟨_, rfl, _, rfl, _, rfl, by omega, M, a, ps, r, S, B, u, n, rfl, av.same sH, hps.same (mi_same sH), rt, hcu, by omega, fun H2 s3 => ?_⟩
        refine ⟨_, s3 _ _ eD, ?_, (s2.trans s3).put nD _, ?_⟩
        · rw [List.length_map, List.length_map, List.length_take]
          exact big_line' (by omega)
        · rw [upd_same, take_more hu, List.map_append, List.map_append]
          rfl
    · rintro H' ⟨s2, eD⟩
      rw [List.length_map, List.take_length] at eD
      refine ⟨D, _, rfl, SqL.of eD, ?_⟩
      rw [any_map_id]
      exact q _ (s1.trans s2)
theorem ok_leads (T : Txt w K mg) : ∀ d, Fn P w K mg base (d + 6) (He.ga K "leads_to") (spLeads d)
  | 0 => ok_leads_step T (Nat.le_refl _) (.inl rfl)
  | d + 1 => ok_leads_step T (by omega) (.inr (ok_leads T d))
/-! ### whole_in -/
theorem rt_whole {S : List Str} {B : Nat} {ps : PsC} {r : Str → Nat} (rt : Rt S B ps r) {n : Str} (h : ∃ c, cin ps n = some c) : (wh ps n).depth ≤ 28 ∧ (wh ps n).leaves.length ≤ 100000 ∧ okC (wh ps n) ∧ pureC (wh ps n) := by
  obtain ⟨c, e⟩ := h
  have l := rt.good.len
  obtain ⟨h1, h2, h3⟩ := whole_facts rt.good rt.rk (fun m => by have := rt.le13 m; omega) rt.sb.b1 (ps.length + 1) n c e (by have := rt.le n; omega)
  have s13 := rt.sb.s
  refine ⟨by omega, Nat.le_trans h2 (Nat.le_trans (Nat.pow_le_pow_right rt.sb.b1 (by omega)) rt.sb.lim), fun l hl => (h3 l hl).1, fun l hl => (h3 l hl).2⟩
def spWholeIn (j : Nat) : Sp := fun vs H Q _ => ∃ M a ps r S B n, vs = [.ref a, .str n] ∧ Av M H ∧ IsPs (mi M H) a ps ∧ Rt S B ps r ∧ (∃ c, cin ps n = some c) ∧ r n < j ∧ ∀ v' H', Same H H' → IsC (mi M H') v' (wh ps n) → Q v' H'
theorem sc_whole_in : FnScope ["pairs", "name", "condition", "other"] ["pairs", "name"] (defScope s_whole_in) := ⟨rfl, rfl, rfl, by decide +kernel, rfl, by decide +kernel, by decide +kernel⟩
theorem ok_wholeIn_step (T : Txt w K mg) {d j : Nat} (hj : 5 ≤ j) (G : d = 0 ∨ Fn P w K mg base j (He.ga K "whole_in") (spWholeIn (d - 1))) : Fn P w K mg base (j + 1) (He.ga K "whole_in") (spWholeIn d) := by
  have G_whole_in : Fn P w K mg base j (He.ga K "whole_in") (fun vs H Q E => 0 < d ∧ spWholeIn (d - 1) vs H Q E) := by
    rcases G with e | G
    · intro A outer s H us vs Q E _ _ _ hs
      exact absurd hs.1 (by omega)
    · exact G.imp fun vs H Q E h => h.2
  have G_condition_in : Fn P w K mg base 1 (He.ga K "condition_in") spIn := ok_in T
  have G_used_in : Fn P w K mg base 5 (He.ga K "used_in") (spUsed 2) := ok_used T 2
  have G_filled : Fn P w K mg base 4 (He.ga K "filled") (spFill 2) := ok_fill T 2
  refine mkN T.F_whole_in sc_whole_in (fun vs H Q E h => ?_) (fun _ _ _ _ _ _ us hl => match us, hl with | [_, _], _ => rfl) (fun cdv A outer s H vs Q E hr h => ?_)
  · obtain ⟨M, a, ps, r, S, B, n, rfl, _⟩ := h
    rfl
  obtain ⟨M, a, ps, r, S, B, n, rfl, av, hps, rt, ⟨c, hc⟩, hr', q⟩ := h
  refine ⟨_, (pss_cons (ps_set (i := 2) sc_whole_in.nd rfl (Or.inl rfl) (pe_callR G_condition_in (hr.mono (by omega)) T.g_condition_in (kp T.F_condition_in) passL (pa_cons (pv 0) (pa_cons (pv 1) pa_nil))))
      (pss_one (ps_ret (pe_callR G_filled (hr.mono (by omega)) T.g_filled (kp T.F_filled) passL (pa_cons (pv 2) (pa_cons (pe_dc (own := [("other", 3)]) (g := gName 3) (tt := tYes) rfl sc_whole_in.nd (pil K (pe_callR G_used_in (hr.mono (by omega)) T.g_used_in (kp T.F_used_in) passL (pa_cons (pv 2) pa_nil))) (blkOk_by (N := ["pairs", "name", "condition", "other"]) (sc := defScope s_whole_in) (by decide +kernel)) (fun _ _ _ _ _ => (pg_name (i := 3) sc_whole_in.nd rfl (Or.inl rfl))) (fun _ _ _ _ _ => pts_nil) (fun _ _ _ _ _ => (pv 3)) (fun _ _ _ _ _ => (pe_callR G_whole_in (hr.mono (by omega)) T.g_whole_in (kp T.F_whole_in) passL (pa_cons (pv 0) (pa_cons (pv 3) pa_nil))))) pa_nil)))))), ?_⟩
  have eqn := wh_eq rt.rk hc (by have := rt.le13 n; omega)
  have co := rt.good.at hc
  have ul : c.used.length ≤ 4 := Nat.le_trans (Cnd.used_len c) (Nat.le_trans co.len rt.sb.b4)
  refine ⟨_, rfl, _, rfl, M, a, n, ps, rfl, av, hps, ?_⟩
  rw [hc]
  intro v hv
  refine ⟨_, rfl, _, rfl, M, v, c, rfl, av, hv, co.dep, Nat.le_trans co.len (Nat.le_trans rt.sb.b4 (by decide)), fun l H1 s1 n1 e1 => ⟨l, rfl, ⟨_, SqL.of e1⟩, fun D nD => ?_⟩⟩
  have HD : H D = none := s1.free nD
  refine dc_list (K := K) (a := l) (xs := c.used.map V.str) (fun i H' => Same H1 H' ∧ ∃ kvs, H' D = some (.dK kvs) ∧ kvs.length ≤ i ∧ ∀ u ∈ c.used.take i, ∃ x, valV kvs (Sum.inr u) = some x ∧ IsC (mi (D :: M) H') x (wh ps u))
    ⟨same_new nD _, [], upd_same, Nat.le_refl _, fun _ h => by cases h⟩ (fun i H' _ h => SqL.of (h.1 _ _ e1)) ?_ ?_
  · rintro i x H' hi ⟨s2, kvs, eD, kl, kv⟩
    rw [List.getElem?_map] at hi
    cases hu : c.used[i]? with
    | none => rw [hu] at hi; cases hi
    | some u =>
      rw [hu] at hi
      cases hi
      have hm := List.mem_of_getElem? hu
      obtain ⟨ru, hcu⟩ := rt.rk n c hc u hm
      have sH := s1.trans s2
      have il : i < c.used.length := (List.getElem?_eq_some_iff.mp hu).1
      refine ⟨rfl, ?_⟩
      refine ⟨_, rfl, _, rfl, _, rfl, by omega, D :: M, a, ps, r, S, B, u, rfl, (av.same sH).cons eD, hps.same (carry sH HD), rt, hcu, by omega, fun v' H2 s3 hv' => ?_⟩
      refine ⟨kvs, Sum.inr u, rfl, s3 _ _ eD, big_line' (by omega), (s2.trans s3).put nD _, _, upd_same, ?_, fun u2 h2 => ?_⟩
      · have := length_putK kvs (Sum.inr u : Key) v'
        omega
      · have up : Same (mi (D :: M) H2) (mi (D :: M) (upd H2 D (.dK (putK kvs (Sum.inr u) v')))) := (ta_put (M := [D]) (by simp) _).mi (by simp)
        rw [valV_put]
        by_cases z : u2 = u
        · subst z
          exact ⟨v', if_pos rfl, hv'.same up⟩
        · rw [if_neg (fun e => z (by cases e; rfl))]
          rw [take_more hu] at h2
          rcases List.mem_append.mp h2 with h2 | h2
          · obtain ⟨x, e2, e3⟩ := kv u2 h2
            exact ⟨x, e2, (e3.same (mi_same s3)).same up⟩
          · exact absurd (List.mem_singleton.mp h2) z
  · rintro H' ⟨s2, kvs, eD, kl, kv⟩
    rw [List.length_map, List.take_length] at kv
    have sH := s1.trans s2
    refine ⟨M, v, c, D, kvs, fun m => some (wh ps m), rfl, av.same sH, hv.same (mi_same sH), eD, fun u hu => .inr ?_, co.dep, fun v' H2 s3 hv' => q _ _ (sH.trans s3) ?_⟩
    · obtain ⟨x, e2, e3⟩ := kv u hu
      exact ⟨x, _, e2, rfl, e3.same (mi_sub _ fun _ => List.mem_cons_of_mem _)⟩
    · rw [eqn]
      exact hv'
theorem ok_wholeIn (T : Txt w K mg) : ∀ d, Fn P w K mg base (d + 6) (He.ga K "whole_in") (spWholeIn d)
  | 0 => ok_wholeIn_step T (Nat.le_refl _) (.inl rfl)
  | d + 1 => ok_wholeIn_step T (by omega) (.inr (ok_wholeIn T d))
/-! ### put_in -/
def spPutIn : Sp := fun vs H Q _ => ∃ M a ps n v c, vs = [.ref a, .str n, v] ∧ Av M H ∧ IsPs (mi M H) a ps ∧ IsC (mi M H) v c ∧ ps.length ≤ 1000 ∧ ∀ l H', Same H H' → H l = none → IsPs (mi M H') l (putP ps n c) → Q (.ref l) H'
theorem sc_put_in : FnScope ["pairs", "name", "condition", "other", "told"] ["pairs", "name", "condition"] (defScope s_put_in) := ⟨rfl, rfl, rfl, by decide +kernel, rfl, by decide +kernel, by decide +kernel⟩
theorem ok_putIn (T : Txt w K mg) : Fn P w K mg base 2 (He.ga K "put_in") spPutIn := by
  have G_condition_in : Fn P w K mg base 1 (He.ga K "condition_in") spIn := ok_in T
  refine mkN T.F_put_in sc_put_in (fun vs H Q E h => ?_) (fun _ _ _ _ _ _ us hl => match us, hl with | [_, _, _], _ => rfl) (fun cdv A outer s H vs Q E hr h => ?_)
  · obtain ⟨M, a, ps, n, v, c, rfl, _⟩ := h
    rfl
  obtain ⟨M, a, ps, n, v, c, rfl, av, hps, hv, hl, q⟩ := h
  refine ⟨_, (pss_cons (ps_if (pt_cmpR op_isN (pe_callR G_condition_in (hr.mono (by omega)) T.g_condition_in (kp T.F_condition_in) passL (pa_cons (pv 0) (pa_cons (pv 1) pa_nil))) pe_non (nomark _)) (pss_one (ps_ret (pe_op op_cat (pv 0) (pe_lst (pa_cons (pe_tup (pa_cons (pv 1) (pa_cons (pv 2) pa_nil))) pa_nil))))) pss_nil)
      (pss_one (ps_ret (pe_lc (own := [("other", 3), ("told", 4)]) (g := _) (tt := tYes) rfl sc_put_in.nd (pil K (pv 0)) (blkOk_by (N := ["pairs", "name", "condition", "other", "told"]) (sc := defScope s_put_in) (by decide +kernel)) (fun _ _ _ _ _ => (pgt (n := 2) K rfl (pgs_cons (pg_name (i := 3) sc_put_in.nd rfl (Or.inl rfl)) (pgs_cons (pg_name (i := 4) sc_put_in.nd rfl (Or.inl rfl)) pgs_nil)))) (fun _ _ _ _ _ => pts_nil) (fun _ _ _ _ _ => (pe_tup (pa_cons (pv 3) (pa_cons (pe_ifExp (pt_cmpR op_eq (pv 3) (pv 1) (nomark _)) (pv 2) (pv 4)) pa_nil)))))))), ?_⟩
  obtain ⟨xs, h1, h2⟩ := id hps
  have ha : H a = some (.lst xs) := (mi_some h1).1
  have xl := paired_len h2
  refine ⟨_, rfl, _, rfl, M, a, n, ps, rfl, av, hps, ?_⟩
  cases hc : cin ps n with
  | none =>
    refine ⟨rfl, _, rfl, iteT ?_⟩
    refine ⟨_, rfl, _, rfl, _, rfl, by show 2 ≤ sizeLine; decide, fun p np => ?_⟩
    have s1 : Same H (upd H p (.tup [.str n, v])) := same_new np _
    refine ⟨by show 1 ≤ sizeLine; decide, fun l1 n1 => ?_⟩
    have s2 : Same H (upd (upd H p (.tup [.str n, v])) l1 (.lst [.ref p])) := s1.new n1 _
    refine ⟨a, l1, _, _, rfl, rfl, s2 _ _ ha, upd_same, big_line (by rw [xl]; show ps.length + 1 ≤ _; omega), fun l2 n2 => ?_⟩
    have s3 : Same H (upd (upd (upd H p (.tup [.str n, v])) l1 (.lst [.ref p])) l2 (.lst (xs ++ [.ref p]))) := s2.new n2 _
    refine q l2 _ s3 (s2.free n2) ⟨_, mi_new (av.same s2) n2, ?_⟩
    have e : putP ps n c = ps ++ [(n, c)] := by unfold putP; rw [hc]
    rw [e]
    refine paired_app (h2.same (mi_same s3)) (.cons ⟨p, v, rfl, ?_, hv.same (mi_same s3)⟩ .nil)
    exact mi_upd n2 _ _ (mi_upd n1 _ _ (mi_new av np))
  | some c0 =>
    intro v0 hv0
    obtain ⟨a0, _, rfl, _⟩ := hv0.tup
    refine ⟨rfl, _, rfl, iteF ?_⟩
    refine ⟨_, rfl, a, rfl, ⟨_, SqL.of ha⟩, fun D nD => ?_⟩
    refine lc_list (K := K) (a := a) (xs := xs) (fun i H' => Same H H' ∧ ∃ ys, H' D = some (.lst ys) ∧ ArePs (mi (D :: M) H') ys ((ps.take i).map fun p => (p.1, if p.1 = n then c else p.2)))
      ⟨same_new nD _, [], upd_same, .nil⟩ (fun i H' _ h => SqL.of (h.1 _ _ ha)) ?_ ?_
    · rintro i x H' hi ⟨s1, ys, eD, ar⟩
      obtain ⟨⟨m, c1⟩, hp, a2, v1, rfl, g1, g2⟩ := paired_get h2 hi
      have hlt : i < ps.length := (List.getElem?_eq_some_iff.mp hp).1
      refine ⟨a2, _, rfl, SqT.of (s1 _ _ (mi_some g1).1), rfl, _, _, rfl, _, _, rfl, rfl, rfl, ?_⟩
      have fin : ∀ v2 c2, IsC (mi M H) v2 c2 → c2 = (if m = n then c else c1) → ∀ p, H' p = none → ∃ acc, upd H' p (.tup [.str m, v2]) D = some (.lst acc) ∧ acc.length < sizeLine ∧ Same H (upd (upd H' p (.tup [.str m, v2])) D (.lst (acc ++ [.ref p]))) ∧ ∃ ys, upd (upd H' p (.tup [.str m, v2])) D (.lst (acc ++ [.ref p])) D = some (.lst ys) ∧ ArePs (mi (D :: M) (upd (upd H' p (.tup [.str m, v2])) D (.lst (acc ++ [.ref p])))) ys ((ps.take (i + 1)).map fun p => (p.1, if p.1 = n then c else p.2)) := fun v2 c2 h3 h4 p np => by
        have s2 : Same H' (upd H' p (.tup [.str m, v2])) := same_new np _
        refine ⟨ys, s2 _ _ eD, ?_, (s1.trans s2).put nD _, _, upd_same, ?_⟩
        · have := paired_len ar
          rw [List.length_map, List.length_take] at this
          exact big_line' (by omega)
        · have up : Same (mi (D :: M) (upd H' p (.tup [.str m, v2]))) (mi (D :: M) (upd (upd H' p (.tup [.str m, v2])) D (.lst (ys ++ [.ref p])))) := (ta_put (M := [D]) (by simp) _).mi (by simp)
          rw [take_more hp, List.map_append]
          refine paired_app ((ar.same (mi_same s2)).same up) (.cons ⟨p, v2, rfl, up _ _ (mi_new ((av.same s1).cons eD) np), ?_⟩ .nil)
          have := (h3.same (carry (s1.trans s2) nD)).same up
          rw [h4] at this
          exact this
      refine ⟨_, rfl, _, rfl, _, rfl, rfl, _, rfl, ite2 (fun e => ?_) (fun e => ?_)⟩
      · rw [dec_strS] at e
        exact ⟨_, rfl, by show 2 ≤ sizeLine; decide, fun p np => fin v c hv (by rw [if_pos (of_decide_eq_true e)]) p np⟩
      · rw [dec_strS] at e
        exact ⟨_, rfl, by show 2 ≤ sizeLine; decide, fun p np => fin v1 c1 g2 (by rw [if_neg (fun z => e (decide_eq_true z))]) p np⟩
    · rintro H' ⟨s1, ys, eD, ar⟩
      rw [xl, List.take_length] at ar
      refine q D H' s1 nD ⟨ys, mi_at (av.out nD) eD, ?_⟩
      have e : putP ps n c = ps.map fun p => (p.1, if p.1 = n then c else p.2) := by unfold putP; rw [hc]
      rw [e]
      exact ArePs.same (mi_sub _ fun _ => List.mem_cons_of_mem _) ar
end
end Sh
set_option Elab.async false
set_option linter.all false
set_option maxRecDepth 100000
set_option maxHeartbeats 4000000
namespace Sh
open PySem PySem.Spec PyProof.Rows L2 StX
/-- a comprehension over a text -/
theorem lc_str {x : Str} {g : TG} {tt : TT} {te : TE} {vs : List Nat} {σ : L2.St} {H1 : Hp} {D : Addr} {Qd : Hp → Prop} (Pv : Nat → Hp → Prop) (h0 : Pv 0 (upd H1 D (.lst [])))
    (hs : ∀ i c H, x.cps[i]? = some c → Pv i H → g (.str ⟨#[c]⟩) (wipe σ vs) H fun σ2 H2 => wipe σ2 vs = wipe σ vs ∧ tt σ2 H2 fun b H3 =>
      if b = true then te σ2 H3 fun y H4 => ∃ acc, H4 D = some (.lst acc) ∧ acc.length < sizeLine ∧ Pv (i + 1) (upd H4 D (.lst (acc ++ [y]))) else Pv (i + 1) H3) (hd : ∀ H, Pv x.cps.size H → Qd H) :
    ∃ W : Nat → Nat → Hp → Prop, (∃ m, W 0 m (upd H1 D (.lst []))) ∧ ∀ i m H, W i m H →
      ((Its x).stop i H ∧ Qd H) ∨ ((Its x).go i H ∧ ∃ Nx : Hp → Prop, (∀ H', Nx H' → ∃ m', m' < m ∧ W (i + 1) m' H') ∧ ∀ y H', (Its x).yld i H y H' → g y (wipe σ vs) H' fun σ2 H2 => wipe σ2 vs = wipe σ vs ∧ tt σ2 H2 fun b H3 =>
        if b = true then te σ2 H3 fun y H4 => ∃ acc, H4 D = some (.lst acc) ∧ acc.length < sizeLine ∧ Nx (upd H4 D (.lst (acc ++ [y]))) else Nx H3) := by
  refine ⟨fun i m H => m = x.cps.size - i ∧ i ≤ x.cps.size ∧ Pv i H, ⟨x.cps.size, by simp, Nat.zero_le _, h0⟩, ?_⟩
  rintro i m H ⟨rfl, hi, p⟩
  by_cases hlt : i < x.cps.size
  · refine .inr ⟨hlt, Pv (i + 1), fun H' p' => ⟨x.cps.size - (i + 1), by omega, rfl, hlt, p'⟩, fun y H' yy => ?_⟩
    obtain ⟨e, c, hc, ey⟩ := yy
    subst e ey
    exact hs i c _ hc p
  · have e : i = x.cps.size := by omega
    subst e
    exact .inl ⟨Nat.le_refl _, hd H p⟩
section
variable {P : Program} {w : World} {K : PySem.W.Frag} {mg : Str → Option Value} {base : Heap}
/-! ### is_name -/
def LETT : Str := "abcdefghijklmnopqrstuvwxyz"
def DIGI : Str := "0123456789"
structure NameOk (s : Str) : Prop where
  pos : 1 ≤ s.cps.size
  le : s.cps.size ≤ 12
  all : ∀ c ∈ s.cps.toList, c ∈ (LETT ++ DIGI).cps.toList
  one : ∀ c, s.cps[0]? = some c → c ∈ LETT.cps.toList
def spIsName : Sp := fun vs H Q _ => ∃ s, vs = [.str s] ∧ NameOk s ∧ ∀ H', Same H H' → Q (.bl true) H'
theorem sc_is_name : FnScope ["value", "sign"] ["value"] (defScope s_is_name) := ⟨rfl, rfl, rfl, by decide +kernel, rfl, by decide +kernel, by decide +kernel⟩
theorem ok_isName (T : Txt w K mg) : Fn P w K mg base 1 (He.ga K "is_name") spIsName := by
  refine mkN T.F_is_name sc_is_name (fun vs H Q E h => ?_) (fun _ _ _ _ _ _ us hl => match us, hl with | [_], _ => rfl) (fun cdv A outer s H vs Q E hr h => ?_)
  · obtain ⟨z, rfl, _⟩ := h
    rfl
  obtain ⟨z, rfl, ok, q⟩ := h
  refine ⟨_, (pss_cons (ps_if (PW.pt (pw_or (pt_not (pt_val (pe_callB (isiq K) rfl T.b_isinstance (by decide +kernel) (pa_cons (pv 0) (pa_cons (pe_bltn (x := "str") (v := .ty "str") (by rfl) T.b_str (by decide +kernel) rfl) pa_nil))))) (pw_or1 (pt_not (pt_chain op_le op_le pe_int (pe_callB call_len_str rfl T.b_len PySem.boot_len (pa_cons (pv 0) pa_nil)) pe_int))))) (pss_one (ps_ret pe_bl)) pss_nil)
      (pss_one (ps_ret (pe_and (pe_cmpR op_in_sign (pe_ix ix_str (pv 0) pe_int (fun _ _ => rfl)) (pe_gs T.s_LETTERS) rfl) (pe_one (pe_callB (allq K rfl) rfl T.b_all (by decide +kernel) (pa_cons (pe_lc (own := [("sign", 1)]) (g := gName 1) (tt := tYes) rfl sc_is_name.nd (pi_str (pv 0)) (blkOk_by (N := ["value", "sign"]) (sc := defScope s_is_name) (by decide +kernel)) (fun _ _ _ _ _ => (pg_name (i := 1) sc_is_name.nd rfl (Or.inl rfl))) (fun _ _ _ _ _ => pts_nil) (fun _ _ _ _ _ => (pe_cmpR op_in_sign (pv 1) (pe_op op_add_str (pe_gs T.s_LETTERS) (pe_gs T.s_DIGITS)) rfl))) pa_nil))))))), ?_⟩
  have zl : z.length = z.cps.size := rfl
  have z1 := ok.pos
  have z2 := ok.le
  refine ⟨_, rfl, _, _, _, _, _, rfl, .ty _, .base (.str _), kit_ty (r := true) (by decide +kernel), _, rfl, iteF ?_⟩
  refine ⟨_, rfl, z, rfl, big_line (by omega), _, _, rfl, rfl, _, rfl, ?_⟩
  refine ite2 (fun _ => ?_) (fun e => absurd (decide_eq_true (show (1 : Int) ≤ z.length by omega)) e)
  refine ⟨_, _, rfl, rfl, _, rfl, ?_⟩
  refine ite2 (fun e => ?_) (fun _ => ?_)
  · rw [decide_eq_true (show (z.length : Int) ≤ 12 by omega)] at e
    cases e
  obtain ⟨c, hc⟩ : ∃ c, z.cps[0]? = some c := ⟨z.cps[0], Array.getElem?_eq_getElem (by omega)⟩
  refine ⟨_, rfl, z, 0, c, rfl, rfl, big_line (by omega), atI_nat (j := 0) (by rw [Array.getElem?_toList]; exact hc), c, LETT, rfl, rfl, ?_⟩
  rw [decide_eq_true (ok.one c hc)]
  refine ⟨_, rfl, iteT ?_⟩
  refine ⟨_, rfl, z, rfl, fun D nD => ?_⟩
  refine lc_str (x := z) (fun i H' => Same H H' ∧ ∃ bs : List Bool, H' D = some (.lst (bs.map V.bl)) ∧ bs.length = i ∧ ∀ b ∈ bs, b = true) ⟨same_new nD _, [], upd_same, rfl, fun _ h => by cases h⟩ ?_ ?_
  · rintro i d H' hi ⟨s1, bs, eD, bl, ba⟩
    refine ⟨rfl, ?_⟩
    have il : i < z.cps.size := by
      by_cases h : i < z.cps.size
      · exact h
      · rw [Array.getElem?_eq_none (by omega)] at hi; cases hi
    refine ⟨_, rfl, LETT, DIGI, rfl, rfl, by show 36 ≤ sizeLine; exact big_line (by omega), d, _, rfl, rfl, ?_⟩
    have hm : d ∈ z.cps.toList := List.mem_of_getElem? (by rw [Array.getElem?_toList]; exact hi)
    rw [decide_eq_true (ok.all d hm)]
    refine ⟨_, eD, by rw [List.length_map]; exact big_line' (by omega), s1.put nD _, bs ++ [true], ?_, by rw [List.length_append, bl]; rfl, fun b hb => ?_⟩
    · rw [upd_same, List.map_append]
      rfl
    · rcases List.mem_append.mp hb with h | h
      · exact ba b h
      · exact List.mem_singleton.mp h
  · rintro H' ⟨s1, bs, eD, bl, ba⟩
    refine ⟨D, bs, rfl, SqL.of eD, ?_⟩
    have : bs.all id = true := List.all_eq_true.mpr fun b hb => ba b hb
    rw [this]
    exact q _ s1
end
end Sh
set_option Elab.async false
set_option linter.all false
set_option maxRecDepth 100000
set_option maxHeartbeats 4000000
namespace Sh
open PySem PySem.Spec PyProof.Rows L2 StX
section
variable {P : Program} {w : World} {K : PySem.W.Frag} {mg : Str → Option Value} {base : Heap}
/-! ### the sheet in the heap -/
abbrev SC (K : PySem.W.Frag) : Addr := He.ga K "Sheet"
abbrev SF (st : Addr) (k : Nat) (en : Addr) : List (Str × V) := [("_states", .ref st), ("_now", .int ((k : Nat) : Int)), ("_entries", .ref en)]
def SheetAt (K : PySem.W.Frag) (H : Hp) (p : Addr) (ps : PsC) (N : Nat) : Prop := ∃ dx st en xs k a es, H p = some (.ins (SC K) dx (SF st k en)) ∧ H st = some (.lst xs) ∧ xs.length = k + 1 ∧ xs[k]? = some (.ref a) ∧ IsPs (mi [p] H) a ps ∧
  H en = some (.lst es) ∧ es.length = k ∧ k ≤ N
theorem SheetAt.same {H H' : Hp} (s : Same H H') {p : Addr} {ps : PsC} {N : Nat} (h : SheetAt K H p ps N) : SheetAt K H' p ps N := by
  obtain ⟨dx, st, en, xs, k, a, es, h1, h2, h3, h4, h5, h6, h7, h8⟩ := h
  exact ⟨dx, st, en, xs, k, a, es, s _ _ h1, s _ _ h2, h3, h4, h5.same (mi_same s), s _ _ h6, h7, h8⟩
theorem SheetAt.av {H : Hp} {p : Addr} {ps : PsC} {N : Nat} (h : SheetAt K H p ps N) : Av [p] H := by
  obtain ⟨dx, st, en, xs, k, a, es, h1, _⟩ := h
  intro b hb
  rw [List.mem_singleton.mp hb, h1]
  exact fun z => by cases z
/-! ### _pairs -/
def spPairs2 : Sp := fun vs H Q _ => ∃ H0 p ps N, vs = [.ref p] ∧ SheetAt K H0 p ps N ∧ Same H0 H ∧ ∀ a, IsPs (mi [p] H0) a ps → Q (.ref a) H
def spPairs : Sp := fun vs H Q _ => ∃ p ps N, vs = [.ref p] ∧ SheetAt K H p ps N ∧ ∀ a, IsPs (mi [p] H) a ps → Q (.ref a) H
theorem sc_m_pairs : FnScope ["self"] ["self"] (defScope m_pairs) := ⟨rfl, rfl, rfl, by decide +kernel, rfl, by decide +kernel, by decide +kernel⟩
theorem ok_pairs2 (T : Txt w K mg) : Fn P w K mg base 1 (He.ma K (SC K) "_pairs") (spPairs2 (K := K)) := by
  refine mkN T.F_m_pairs sc_m_pairs (fun vs H Q E h => ?_) (fun _ _ _ _ _ _ us hl => match us, hl with | [_], _ => rfl) (fun cdv A outer s H vs Q E hr h => ?_)
  · obtain ⟨H0, p, ps, N, rfl, _⟩ := h
    rfl
  obtain ⟨H0, p, ps, N, rfl, ⟨dx, st, en, xs, k, a, es, h1, h2, h3, h4, h5, h6, h7, h8⟩, s0, q⟩ := h
  refine ⟨_, (pss_one (ps_ret (pe_ix (ixl K) (fldq K (pv 0) rfl) (fldq K (pv 0) rfl) (fun _ _ => rfl)))), ?_⟩
  exact ⟨_, rfl, p, _, dx, _, _, rfl, s0 _ _ h1, T.c_Sheet, T.n_states, rfl, _, rfl, p, _, dx, _, _, rfl, s0 _ _ h1, T.c_Sheet, T.n_now, rfl, st, _, _, _, rfl, rfl, SqL.of (s0 _ _ h2), atI_nat h4, q a h5⟩
theorem ok_pairs (T : Txt w K mg) : Fn P w K mg base 1 (He.ma K (SC K) "_pairs") (spPairs (K := K)) :=
  (ok_pairs2 T).imp fun vs H Q E ⟨p, ps, N, h1, h2, h3⟩ => ⟨H, p, ps, N, h1, h2, Same.refl _, h3⟩
/-! ### _condition_of -/
def spCondOf : Sp := fun vs H Q E => ∃ p ps N n, vs = [.ref p, .str n] ∧ SheetAt K H p ps N ∧ (match cin ps n with | none => Bad K E .unk H | some c => ∀ v, IsC (mi [p] H) v c → Q v H)
theorem sc_m_condition_of : FnScope ["self", "name", "found"] ["self", "name"] (defScope m_condition_of) := ⟨rfl, rfl, rfl, by decide +kernel, rfl, by decide +kernel, by decide +kernel⟩
theorem ok_condOf (T : Txt w K mg) (U : Aux P K) : Fn P w K mg base 2 (He.ma K (SC K) "_condition_of") (spCondOf (K := K)) := by
  have G_m_pairs : Fn P w K mg base 1 (He.ma K (SC K) "_pairs") (spPairs (K := K)) := ok_pairs T
  have G_condition_in : Fn P w K mg base 1 (He.ga K "condition_in") spIn := ok_in T
  refine mkR T.F_m_condition_of sc_m_condition_of (fun vs H Q E h => ?_) (fun _ _ _ _ _ _ us hl => match us, hl with | [_, _], _ => rfl) (fun cdv A outer s H vs Q E hr h => ?_)
  · obtain ⟨p, ps, N, n, rfl, _⟩ := h
    rfl
  obtain ⟨p, ps, N, n, rfl, sh, q⟩ := h
  refine ⟨_, (pss_cons (ps_set (i := 2) sc_m_condition_of.nd rfl (Or.inl rfl) (pe_callR G_condition_in (hr.mono (by omega)) T.g_condition_in (kp T.F_condition_in) passL (pa_cons (pe_methR0 (pv 0) T.c_Sheet T.M_pairs G_m_pairs (hr.mono (by omega)) passL) (pa_cons (pv 1) pa_nil))))
      (pss_cons (ps_if (pt_cmpR op_isN (pv 2) pe_non (nomark _)) (pss_one (ps_raise rfl (takes_of rfl rfl rfl rfl) (pmk_err U.x_UnknownName T.g_UnknownName hr T.b_super U.top))) pss_nil)
      (pss_one (ps_ret (pv 2))))), ?_⟩
  obtain ⟨dx, st, en, xs, k, a, es, h1, h2, h3, h4, h5, h6, h7, h8⟩ := id sh
  refine ⟨_, rfl, p, dx, _, rfl, h1, rfl, p, ps, N, rfl, sh, fun a ha => ?_⟩
  refine ⟨_, rfl, [p], a, n, ps, rfl, sh.av, ha, ?_⟩
  cases hc : cin ps n with
  | none =>
    rw [hc] at q
    exact ⟨_, rfl, rfl, _, rfl, iteT q⟩
  | some c =>
    rw [hc] at q
    intro v hv
    obtain ⟨a0, _, rfl, _⟩ := hv.tup
    exact ⟨_, rfl, rfl, _, rfl, iteF ⟨_, rfl, q _ hv⟩⟩
/-! ### __len__, __contains__ -/
def spLen : Sp := fun vs H Q _ => ∃ p ps N, vs = [.ref p] ∧ SheetAt K H p ps N ∧ Q (.int ((ps.length : Nat) : Int)) H
theorem sc_m_len : FnScope ["self"] ["self"] (defScope m_len) := ⟨rfl, rfl, rfl, by decide +kernel, rfl, by decide +kernel, by decide +kernel⟩
theorem ok_len (T : Txt w K mg) : Fn P w K mg base 1 (He.ma K (SC K) "__len__") (spLen (K := K)) := by
  refine mkN T.F_m_len sc_m_len (fun vs H Q E h => ?_) (fun _ _ _ _ _ _ us hl => match us, hl with | [_], _ => rfl) (fun cdv A outer s H vs Q E hr h => ?_)
  · obtain ⟨p, ps, N, rfl, _⟩ := h
    rfl
  obtain ⟨p, ps, N, rfl, ⟨dx, st, en, xs, k, a, es, h1, h2, h3, h4, ⟨ys, h5, h5'⟩, h6, h7, h8⟩, q⟩ := h
  refine ⟨_, (pss_one (ps_ret (pe_callB (lenq K) rfl T.b_len PySem.boot_len (pa_cons (pe_ix (ixl K) (fldq K (pv 0) rfl) (fldq K (pv 0) rfl) (fun _ _ => rfl)) pa_nil)))), ?_⟩
  refine ⟨_, rfl, p, _, dx, _, _, rfl, h1, T.c_Sheet, T.n_states, rfl, _, rfl, p, _, dx, _, _, rfl, h1, T.c_Sheet, T.n_now, rfl, st, _, _, _, rfl, rfl, SqL.of h2, atI_nat h4, a, ys, rfl, .inl (SqL.of (mi_some h5).1), ?_⟩
  rw [paired_len h5']
  exact q
def spCont : Sp := fun vs H Q _ => ∃ p ps N n, vs = [.ref p, .str n] ∧ SheetAt K H p ps N ∧ Q (.bl (decide (n ∈ nms ps))) H
theorem sc_m_contains : FnScope ["self", "name"] ["self", "name"] (defScope m_contains) := ⟨rfl, rfl, rfl, by decide +kernel, rfl, by decide +kernel, by decide +kernel⟩
theorem ok_cont (T : Txt w K mg) : Fn P w K mg base 2 (He.ma K (SC K) "__contains__") (spCont (K := K)) := by
  have G_condition_in : Fn P w K mg base 1 (He.ga K "condition_in") spIn := ok_in T
  refine mkN T.F_m_contains sc_m_contains (fun vs H Q E h => ?_) (fun _ _ _ _ _ _ us hl => match us, hl with | [_, _], _ => rfl) (fun cdv A outer s H vs Q E hr h => ?_)
  · obtain ⟨p, ps, N, n, rfl, _⟩ := h
    rfl
  obtain ⟨p, ps, N, n, rfl, sh, q⟩ := h
  refine ⟨_, (pss_one (ps_ret (pe_cmpR op_notN (pe_callR G_condition_in (hr.mono (by omega)) T.g_condition_in (kp T.F_condition_in) passL (pa_cons (pe_ix (ixl K) (fldq K (pv 0) rfl) (fldq K (pv 0) rfl) (fun _ _ => rfl)) (pa_cons (pv 1) pa_nil))) pe_non (nomark _)))), ?_⟩
  obtain ⟨dx, st, en, xs, k, a, es, h1, h2, h3, h4, h5, h6, h7, h8⟩ := id sh
  refine ⟨_, rfl, p, _, dx, _, _, rfl, h1, T.c_Sheet, T.n_states, rfl, _, rfl, p, _, dx, _, _, rfl, h1, T.c_Sheet, T.n_now, rfl, st, _, _, _, rfl, rfl, SqL.of h2, atI_nat h4, ?_⟩
  refine ⟨_, rfl, [p], a, n, ps, rfl, sh.av, h5, ?_⟩
  cases hc : cin ps n with
  | none =>
    rw [decide_eq_false (cin_none.mp hc)] at q
    exact ⟨rfl, q⟩
  | some c =>
    rw [decide_eq_true (cin_some.mpr ⟨c, hc⟩)] at q
    intro v hv
    obtain ⟨a0, _, rfl, _⟩ := hv.tup
    exact ⟨rfl, q⟩
/-! ### names -/
def spNames : Sp := fun vs H Q _ => ∃ p ps N, vs = [.ref p] ∧ SheetAt K H p ps N ∧ ps.length ≤ 1000 ∧ ∀ l H', Same H H' → H l = none → H' l = some (.lst ((nms ps).map V.str)) → Q (.ref l) H'
theorem sc_m_names : FnScope ["self", "name", "_"] ["self"] (defScope m_names) := ⟨rfl, rfl, rfl, by decide +kernel, rfl, by decide +kernel, by decide +kernel⟩
theorem ok_names (T : Txt w K mg) : Fn P w K mg base 2 (He.ma K (SC K) "names") (spNames (K := K)) := by
  have G_m_pairs : Fn P w K mg base 1 (He.ma K (SC K) "_pairs") (spPairs (K := K)) := ok_pairs T
  refine mkN T.F_m_names sc_m_names (fun vs H Q E h => ?_) (fun _ _ _ _ _ _ us hl => match us, hl with | [_], _ => rfl) (fun cdv A outer s H vs Q E hr h => ?_)
  · obtain ⟨p, ps, N, rfl, _⟩ := h
    rfl
  obtain ⟨p, ps, N, rfl, sh, hl, q⟩ := h
  refine ⟨_, (pss_one (ps_ret (pe_lc (own := [("name", 1), ("_", 2)]) (g := _) (tt := tYes) rfl sc_m_names.nd (pil K (pe_methR0 (pv 0) T.c_Sheet T.M_pairs G_m_pairs (hr.mono (by omega)) passL)) (blkOk_by (N := ["self", "name", "_"]) (sc := defScope m_names) (by decide +kernel)) (fun _ _ _ _ _ => (pgt (n := 2) K rfl (pgs_cons (pg_name (i := 1) sc_m_names.nd rfl (Or.inl rfl)) (pgs_cons (pg_name (i := 2) sc_m_names.nd rfl (Or.inl rfl)) pgs_nil)))) (fun _ _ _ _ _ => pts_nil) (fun _ _ _ _ _ => (pv 1))))), ?_⟩
  obtain ⟨dx, st, en, xs, k, a, es, h1, h2, h3, h4, h5, h6, h7, h8⟩ := id sh
  refine ⟨_, rfl, p, dx, _, rfl, h1, rfl, p, ps, N, rfl, sh, fun a ha => ?_⟩
  obtain ⟨ys, g1, g2⟩ := ha
  have ga := (mi_some g1).1
  refine ⟨a, rfl, ⟨_, SqL.of ga⟩, fun D nD => ?_⟩
  refine lc_list (K := K) (a := a) (xs := ys) (fun i H' => Same H H' ∧ H' D = some (.lst (((ps.take i).map (·.1)).map V.str)))
    ⟨same_new nD _, upd_same⟩ (fun i H' _ h => SqL.of (h.1 _ _ ga)) ?_ ?_
  · rintro i x H' hi ⟨s1, eD⟩
    obtain ⟨⟨m, c1⟩, hp, a2, v1, rfl, e1, e2⟩ := paired_get g2 hi
    refine ⟨a2, _, rfl, SqT.of (s1 _ _ (mi_some e1).1), rfl, _, _, rfl, _, _, rfl, rfl, rfl, ?_⟩
    refine ⟨_, rfl, _, eD, ?_, s1.put nD _, ?_⟩
    · rw [List.length_map, List.length_map, List.length_take]
      exact big_line' (by omega)
    · rw [upd_same, take_more hp, List.map_append, List.map_append]
      rfl
  · rintro H' ⟨s1, eD⟩
    rw [paired_len g2, List.take_length] at eD
    exact q D H' s1 nD eD
/-! ### condition, whole, users -/
def spCond : Sp := fun vs H Q _ => ∃ p ps N n c, vs = [.ref p, .str n] ∧ SheetAt K H p ps N ∧ cin ps n = some c ∧ c.depth ≤ 2 ∧ ∀ v H', Same H H' → IsC (mi [p] H') v c → Q v H'
theorem sc_m_condition : FnScope ["self", "name"] ["self", "name"] (defScope m_condition) := ⟨rfl, rfl, rfl, by decide +kernel, rfl, by decide +kernel, by decide +kernel⟩
theorem ok_cond (T : Txt w K mg) (U : Aux P K) : Fn P w K mg base 6 (He.ma K (SC K) "condition") (spCond (K := K)) := by
  have G_m_condition_of := ok_condOf (base := base) T U
  have G_copy_condition : Fn P w K mg base 5 (He.ga K "copy_condition") (spCopyC 2) := ok_copyC T 2
  refine mkN T.F_m_condition sc_m_condition (fun vs H Q E h => ?_) (fun _ _ _ _ _ _ us hl => match us, hl with | [_, _], _ => rfl) (fun cdv A outer s H vs Q E hr h => ?_)
  · obtain ⟨p, ps, N, n, c, rfl, _⟩ := h
    rfl
  obtain ⟨p, ps, N, n, c, rfl, sh, hc, hd, q⟩ := h
  refine ⟨_, (pss_one (ps_ret (pe_callR G_copy_condition (hr.mono (by omega)) T.g_copy_condition (kp T.F_copy_condition) passL (pa_cons (pe_methR (pv 0) T.c_Sheet T.M_condition_of G_m_condition_of (hr.mono (by omega)) passL (pa_cons (pv 1) pa_nil)) pa_nil)))), ?_⟩
  obtain ⟨dx, st, en, xs, k, a, es, h1, h2, h3, h4, h5, h6, h7, h8⟩ := id sh
  refine ⟨_, rfl, p, dx, _, rfl, h1, rfl, _, rfl, p, ps, N, n, rfl, sh, ?_⟩
  rw [hc]
  intro v hv
  exact ⟨[p], v, c, rfl, sh.av, hv, hd, q⟩
def spWhole2 : Sp := fun vs H Q _ => ∃ p ps N n r S B, vs = [.ref p, .str n] ∧ SheetAt K H p ps N ∧ Rt S B ps r ∧ (∃ c, cin ps n = some c) ∧ ∀ v H', Same H H' → IsC (mi [p] H') v (wh ps n) → Q v H'
theorem sc_m_whole : FnScope ["self", "name"] ["self", "name"] (defScope m_whole) := ⟨rfl, rfl, rfl, by decide +kernel, rfl, by decide +kernel, by decide +kernel⟩
theorem ok_whole (T : Txt w K mg) (U : Aux P K) : Fn P w K mg base 30 (He.ma K (SC K) "whole") (spWhole2 (K := K)) := by
  have G_m_condition_of := ok_condOf (base := base) T U
  have G_m_pairs : Fn P w K mg base 1 (He.ma K (SC K) "_pairs") (spPairs (K := K)) := ok_pairs T
  have G_whole_in : Fn P w K mg base 20 (He.ga K "whole_in") (spWholeIn 14) := ok_wholeIn T 14
  have G_copy_of : Fn P w K mg base 29 (He.ga K "copy_of") (spCopy 28) := ok_copy T 28
  refine mkN T.F_m_whole sc_m_whole (fun vs H Q E h => ?_) (fun _ _ _ _ _ _ us hl => match us, hl with | [_, _], _ => rfl) (fun cdv A outer s H vs Q E hr h => ?_)
  · obtain ⟨p, ps, N, n, r, S, B, rfl, _⟩ := h
    rfl
  obtain ⟨p, ps, N, n, r, S, B, rfl, sh, rt, ⟨c, hc⟩, q⟩ := h
  refine ⟨_, (pss_cons (ps_expr (pe_methR (pv 0) T.c_Sheet T.M_condition_of G_m_condition_of (hr.mono (by omega)) passL (pa_cons (pv 1) pa_nil)))
      (pss_one (ps_ret (pe_callR G_copy_of (hr.mono (by omega)) T.g_copy_of (kp T.F_copy_of) passL (pa_cons (pe_callR G_whole_in (hr.mono (by omega)) T.g_whole_in (kp T.F_whole_in) passL (pa_cons (pe_methR0 (pv 0) T.c_Sheet T.M_pairs G_m_pairs (hr.mono (by omega)) passL) (pa_cons (pv 1) pa_nil))) pa_nil))))), ?_⟩
  obtain ⟨dx, st, en, xs, k, a, es, h1, h2, h3, h4, h5, h6, h7, h8⟩ := id sh
  refine ⟨_, rfl, p, dx, _, rfl, h1, rfl, _, rfl, p, ps, N, n, rfl, sh, ?_⟩
  rw [hc]
  intro v hv
  refine ⟨_, rfl, p, dx, _, rfl, h1, rfl, p, ps, N, rfl, sh, fun a ha => ?_⟩
  refine ⟨_, rfl, [p], a, ps, r, S, B, n, rfl, sh.av, ha, rt, ⟨c, hc⟩, by have := rt.le13 n; omega, fun v' H' s1 hv' => ?_⟩
  obtain ⟨w1, w2, w3, w4⟩ := rt_whole rt ⟨c, hc⟩
  exact ⟨[p], v', _, rfl, sh.av.same s1, hv', w4, w1, fun v2 H2 s2 hv2 => q _ _ (s1.trans s2) hv2⟩
def usersOf (ps : PsC) (n : Str) : List Str := (ps.filter fun q => decide (n ∈ q.2.used)).map (·.1)
theorem inV_str (n : Str) (l : List Str) : inV (.str n) (l.map V.str) = decide (n ∈ l) := by
  induction l with
  | nil => rfl
  | cons a l ih =>
    have e : inV (.str n) ((a :: l).map V.str) = (eqV (.str a) (.str n) || inV (.str n) (l.map V.str)) := rfl
    have e2 : eqV (.str a) (.str n) = decide (a = n) := by rw [← dec_strS, dec_str]; rfl
    rw [e, ih, e2]
    by_cases z : a = n
    · subst z
      rw [decide_eq_true rfl, decide_eq_true List.mem_cons_self, Bool.true_or]
    · rw [decide_eq_false z, Bool.false_or]
      by_cases y : n ∈ l
      · rw [decide_eq_true y, decide_eq_true (List.mem_cons_of_mem _ y)]
      · rw [decide_eq_false y, decide_eq_false (fun h => (List.mem_cons.mp h).elim (fun e => z e.symm) y)]
theorem flat_strs (l : List Str) : (l.map V.str).all flatV = true := by
  rw [List.all_eq_true]
  intro x hx
  obtain ⟨c, _, rfl⟩ := List.mem_map.mp hx
  rfl
theorem filter_more {α β : Type} {l : List α} {i : Nat} {x : α} (f : α → Bool) (g : α → β) (h : l[i]? = some x) : ((l.take (i + 1)).filter f).map g = ((l.take i).filter f).map g ++ (if f x = true then [g x] else []) := by
  rw [take_more h, List.filter_append, List.map_append]
  by_cases z : f x = true
  · rw [if_pos z, List.filter_cons_of_pos z]; rfl
  · rw [if_neg z, List.filter_cons_of_neg z]; rfl
theorem filter_len {α β : Type} (l : List α) (i : Nat) (f : α → Bool) (g : α → β) : (((l.take i).filter f).map g).length ≤ l.length := by
  rw [List.length_map]
  exact Nat.le_trans (List.length_filter_le ..) (by rw [List.length_take]; omega)
def spUsers : Sp := fun vs H Q _ => ∃ p ps N n, vs = [.ref p, .str n] ∧ SheetAt K H p ps N ∧ (∃ c, cin ps n = some c) ∧ ps.length ≤ 1000 ∧ (∀ q ∈ ps, q.2.depth ≤ 2 ∧ q.2.leaves.length ≤ 1000) ∧ ∀ l H', Same H H' → H l = none → H' l = some (.lst ((usersOf ps n).map V.str)) → Q (.ref l) H'
theorem sc_m_users : FnScope ["self", "name", "other", "condition"] ["self", "name"] (defScope m_users) := ⟨rfl, rfl, rfl, by decide +kernel, rfl, by decide +kernel, by decide +kernel⟩
theorem ok_users (T : Txt w K mg) (U : Aux P K) : Fn P w K mg base 6 (He.ma K (SC K) "users") (spUsers (K := K)) := by
  have G_m_condition_of := ok_condOf (base := base) T U
  have G_m_pairs : Fn P w K mg base 1 (He.ma K (SC K) "_pairs") (spPairs (K := K)) := ok_pairs T
  have G_used_in : Fn P w K mg base 5 (He.ga K "used_in") (spUsed 2) := ok_used T 2
  refine mkN T.F_m_users sc_m_users (fun vs H Q E h => ?_) (fun _ _ _ _ _ _ us hl => match us, hl with | [_, _], _ => rfl) (fun cdv A outer s H vs Q E hr h => ?_)
  · obtain ⟨p, ps, N, n, rfl, _⟩ := h
    rfl
  obtain ⟨p, ps, N, n, rfl, sh, ⟨c, hc⟩, hl, hsm, q⟩ := h
  refine ⟨_, (pss_cons (ps_expr (pe_methR (pv 0) T.c_Sheet T.M_condition_of G_m_condition_of (hr.mono (by omega)) passL (pa_cons (pv 1) pa_nil)))
      (pss_one (ps_ret (pe_lc (own := [("other", 2), ("condition", 3)]) (g := _) (tt := _) rfl sc_m_users.nd (pil K (pe_methR0 (pv 0) T.c_Sheet T.M_pairs G_m_pairs (hr.mono (by omega)) passL)) (blkOk_by (N := ["self", "name", "other", "condition"]) (sc := defScope m_users) (by decide +kernel)) (fun _ _ _ _ _ => (pgt (n := 2) K rfl (pgs_cons (pg_name (i := 2) sc_m_users.nd rfl (Or.inl rfl)) (pgs_cons (pg_name (i := 3) sc_m_users.nd rfl (Or.inl rfl)) pgs_nil)))) (fun _ _ _ _ _ => (pts_one (pt_cmpR (inq K) (pv 1) (pe_callR G_used_in (hr.mono (by omega)) T.g_used_in (kp T.F_used_in) passL (pa_cons (pv 3) pa_nil)) rfl))) (fun _ _ _ _ _ => (pv 2)))))), ?_⟩
  obtain ⟨dx, st, en, xs, k, a, es, h1, h2, h3, h4, h5, h6, h7, h8⟩ := id sh
  refine ⟨_, rfl, p, dx, _, rfl, h1, rfl, _, rfl, p, ps, N, n, rfl, sh, ?_⟩
  rw [hc]
  intro v hv
  refine ⟨_, rfl, p, dx, _, rfl, h1, rfl, p, ps, N, rfl, sh, fun a ha => ?_⟩
  obtain ⟨ys, g1, g2⟩ := ha
  have ga := (mi_some g1).1
  refine ⟨a, rfl, ⟨_, SqL.of ga⟩, fun D nD => ?_⟩
  refine lc_list (K := K) (a := a) (xs := ys) (fun i H' => Same H H' ∧ H' D = some (.lst ((((ps.take i).filter fun q => decide (n ∈ q.2.used)).map (·.1)).map V.str)))
    ⟨same_new nD _, upd_same⟩ (fun i H' _ h => SqL.of (h.1 _ _ ga)) ?_ ?_
  · rintro i x H' hi ⟨s1, eD⟩
    obtain ⟨⟨m, c1⟩, hp, a2, v1, rfl, e1, e2⟩ := paired_get g2 hi
    have hm := hsm _ (List.mem_of_getElem? hp)
    refine ⟨a2, _, rfl, SqT.of (s1 _ _ (mi_some e1).1), rfl, _, _, rfl, _, _, rfl, rfl, rfl, ?_⟩
    refine ⟨_, rfl, _, rfl, [p], v1, c1, rfl, sh.av.same s1, e2.same (mi_same s1), hm.1, Nat.le_trans hm.2 (by decide), fun l2 H2 s2 n2 e3 => ?_⟩
    have fm := filter_more (fun q : Str × C => decide (n ∈ q.2.used)) (fun q => q.1) hp
    refine ⟨l2, _, rfl, .inl (SqL.of e3), rfl, flat_strs _, _, rfl, ?_⟩
    have e4 : (if false = true then !inV (.str n) (c1.used.map V.str) else inV (.str n) (c1.used.map V.str)) = decide (n ∈ c1.used) := inV_str _ _
    rw [e4]
    refine ite2 (fun z => ?_) (fun z => ?_)
    · rw [if_pos z] at fm
      refine ⟨_, rfl, _, s2 _ _ eD, ?_, (s1.trans s2).put nD _, ?_⟩
      · rw [List.length_map]
        have := filter_len ps i (fun q : Str × C => decide (n ∈ q.2.used)) (fun q => q.1)
        exact big_line' (Nat.le_trans this (by omega))
      · rw [upd_same, fm, List.map_append]
        rfl
    · rw [if_neg z, List.append_nil] at fm
      exact ⟨s1.trans s2, by rw [fm]; exact s2 _ _ eD⟩
  · rintro H' ⟨s1, eD⟩
    rw [paired_len g2, List.take_length] at eD
    exact q D H' s1 nD eD
end
end Sh
set_option Elab.async false
set_option linter.all false
set_option maxRecDepth 100000
set_option maxHeartbeats 4000000
namespace Sh
open PySem PySem.Spec PyProof.Rows L2 StX
section
variable {P : Program} {w : World} {K : PySem.W.Frag} {mg : Str → Option Value} {base : Heap}
/-! ### __init__ -/
def spInit : Sp := fun vs H Q _ => ∃ p dx, vs = [.ref p] ∧ H p = some (.ins (SC K) dx []) ∧ ∀ H', Ta [p] H H' → SheetAt K H' p [] 0 → Q .non H'
theorem put1 {H : Hp} {p : Addr} (M : List Addr) (o : HO) (hp : p ∈ M) : Ta M H (upd H p o) := ta_put hp o
theorem sc_m_init : FnScope ["self"] ["self"] (defScope m_init) := ⟨rfl, rfl, rfl, by decide +kernel, rfl, by decide +kernel, by decide +kernel⟩
theorem ok_init (T : Txt w K mg) : Fn P w K mg base 1 (He.ma K (SC K) "__init__") (spInit (K := K)) := by
  refine mkN T.F_m_init sc_m_init (fun vs H Q E h => ?_) (fun _ _ _ _ _ _ us hl => match us, hl with | [_], _ => rfl) (fun cdv A outer s H vs Q E hr h => ?_)
  · obtain ⟨p, dx, rfl, _⟩ := h
    rfl
  obtain ⟨p, dx, rfl, hp, q⟩ := h
  refine ⟨_, (pss_cons (sfldq K (pv 0) (pe_lst (pa_cons (pe_lst pa_nil) pa_nil)) rfl)
      (pss_cons (sfldq K (pv 0) pe_int rfl)
      (pss_one (sfldq K (pv 0) (pe_lst pa_nil) rfl)))), ?_⟩
  refine ⟨Nat.zero_le _, fun l1 n1 => ?_⟩
  refine ⟨by show 1 ≤ sizeLine; decide, fun l2 n2 => ?_⟩
  have nl1 : p ≠ l1 := ne_of_none hp n1
  have s1 : Same H (upd H l1 (.lst [])) := same_new n1 _
  have s2 : Same H (upd (upd H l1 (.lst [])) l2 (.lst [.ref l1])) := s1.new n2 _
  have nl2 : p ≠ l2 := ne_of_none (s1 _ _ hp) n2
  have n21 : l2 ≠ l1 := (ne_of_none upd_same n2).symm
  generalize hA : upd (upd H l1 (.lst [])) l2 (.lst [.ref l1]) = A at s2
  have a1 : A l1 = some (.lst []) := by rw [← hA, upd_ne n21.symm]; exact upd_same
  have a2 : A l2 = some (.lst [.ref l1]) := by rw [← hA]; exact upd_same
  refine ⟨_, rfl, p, _, dx, _, rfl, s2 _ _ hp, T.c_Sheet, T.n_states, by decide, ?_⟩
  refine ⟨_, rfl, p, _, dx, _, rfl, upd_same, T.c_Sheet, T.n_now, by show 1 < 1000; decide, ?_⟩
  refine ⟨Nat.zero_le _, fun l3 n3 => ?_⟩
  have np3 : p ≠ l3 := ne_of_none upd_same n3
  refine ⟨_, rfl, p, _, dx, _, rfl, by rw [upd_ne np3]; exact upd_same, T.c_Sheet, T.n_entries, by show 2 < 1000; decide, ?_⟩
  have n3A : A l3 = none := by
    rw [upd_ne np3.symm, upd_ne np3.symm] at n3
    exact n3
  have t : ∀ b o, b ≠ p → b ≠ l3 → A b = some o → (upd (upd (upd (upd A p (.ins (SC K) dx (putF "_states" (.ref l2) []))) p (.ins (SC K) dx (putF "_now" (.int 0) (putF "_states" (.ref l2) [])))) l3 (.lst [])) p (.ins (SC K) dx (putF "_entries" (.ref l3) (putF "_now" (.int 0) (putF "_states" (.ref l2) []))))) b = some o := fun b o h1 h2 h3 => by
    rw [upd_ne h1, upd_ne h2, upd_ne h1, upd_ne h1]
    exact h3
  have nA : ∀ b o, A b = some o → b ≠ l3 := fun b o h => ne_of_none h n3A
  refine q _ (fun b o hb h => ?_) ⟨dx, l2, l3, [.ref l1], 0, l1, [], upd_same, t _ _ nl2.symm (nA _ _ a2) a2, rfl, rfl, ⟨[], mi_at (by simpa using nl1.symm) (t _ _ nl1.symm (nA _ _ a1) a1), .nil⟩, ?_, rfl, Nat.le_refl _⟩
  · have hb : b ≠ p := by simpa using hb
    have := s2 _ _ h
    exact t _ _ hb (nA _ _ this) this
  · rw [upd_ne np3.symm]
    exact upd_same
/-! ### _enter -/
theorem take_all {α : Type} {l : List α} {n : Nat} (h : l.length ≤ n) : l.take n = l := List.take_of_length_le h
theorem cut_pre (xs : List V) (k : Nat) (h : xs.length = k) : cutV xs none (some ((k : Nat) : Int)) = xs := by
  have e : HT.sIx xs.length xs.length (some ((k : Nat) : Int)) = min k xs.length := HT.sIx_nat _ _ k
  unfold cutV
  rw [e, HT.sIx_none]
  subst h
  rw [Nat.min_self]
  exact List.take_length
def spEnter : Sp := fun vs H Q _ => ∃ p b e ps ps' N, vs = [.ref p, .ref b, e] ∧ SheetAt K H p ps N ∧ IsPs (mi [p] H) b ps' ∧ N ≤ 1000 ∧ ∀ H', Ta [p] H H' → SheetAt K H' p ps' (N + 1) → Q .non H'
theorem sc_m_enter : FnScope ["self", "pairs", "entry"] ["self", "pairs", "entry"] (defScope m_enter) := ⟨rfl, rfl, rfl, by decide +kernel, rfl, by decide +kernel, by decide +kernel⟩
theorem ok_enter (T : Txt w K mg) : Fn P w K mg base 1 (He.ma K (SC K) "_enter") (spEnter (K := K)) := by
  refine mkN T.F_m_enter sc_m_enter (fun vs H Q E h => ?_) (fun _ _ _ _ _ _ us hl => match us, hl with | [_, _, _], _ => rfl) (fun cdv A outer s H vs Q E hr h => ?_)
  · obtain ⟨p, b, e, ps, ps', N, rfl, _⟩ := h
    rfl
  obtain ⟨p, b, e, ps, ps', N, rfl, ⟨dx, st, en, xs, k, a, es, h1, h2, h3, h4, h5, h6, h7, h8⟩, hb, hN, q⟩ := h
  refine ⟨_, (pss_cons (sfldq K (pv 0) (pe_op op_cat (pe_slice (sll K) (fldq K (pv 0) rfl) po_none (po_some (pe_op op_add (fldq K (pv 0) rfl) pe_int))) (pe_lst (pa_cons (pv 1) pa_nil))) rfl)
      (pss_cons (sfldq K (pv 0) (pe_op op_add (fldq K (pv 0) rfl) pe_int) rfl)
      (pss_one (sfldq K (pv 0) (pe_op op_cat (fldq K (pv 0) rfl) (pe_lst (pa_cons (pv 2) pa_nil))) rfl)))), ?_⟩
  refine ⟨_, rfl, p, _, dx, _, _, rfl, h1, T.c_Sheet, T.n_states, rfl, ?_⟩
  refine ⟨_, rfl, p, _, dx, _, _, rfl, h1, T.c_Sheet, T.n_now, rfl, _, _, rfl, rfl, _, rfl, st, xs, rfl, SqL.of h2, fun l1 n1 => ?_⟩
  have ec : cutV xs none (some ((k : Nat) + 1 : Int)) = xs := cut_pre xs (k + 1) h3
  rw [ec]
  have s1 : Same H (upd H l1 (.lst xs)) := same_new n1 _
  refine ⟨_, rfl, by show 1 ≤ sizeLine; decide, fun l2 n2 => ?_⟩
  have s2 : Same H (upd (upd H l1 (.lst xs)) l2 (.lst [.ref b])) := s1.new n2 _
  have s12 : Same (upd H l1 (.lst xs)) (upd (upd H l1 (.lst xs)) l2 (.lst [.ref b])) := same_new n2 _
  refine ⟨l1, l2, xs, _, rfl, rfl, s12 _ _ upd_same, upd_same, big_line (by rw [h3]; show k + 1 + 1 ≤ _; omega), fun l3 n3 => ?_⟩
  have s3 : Same H (upd (upd (upd H l1 (.lst xs)) l2 (.lst [.ref b])) l3 (.lst (xs ++ [.ref b]))) := s2.new n3 _
  generalize hA : upd (upd (upd H l1 (.lst xs)) l2 (.lst [.ref b])) l3 (.lst (xs ++ [.ref b])) = A at s3
  have a3 : A l3 = some (.lst (xs ++ [.ref b])) := by rw [← hA]; exact upd_same
  have np3 : p ≠ l3 := ne_of_none (s2 _ _ h1) n3
  refine ⟨_, rfl, p, _, dx, _, rfl, s3 _ _ h1, T.c_Sheet, T.n_states, by show 3 < 1000; decide, ?_⟩
  refine ⟨_, rfl, p, _, dx, _, _, rfl, upd_same, T.c_Sheet, T.n_now, rfl, _, _, rfl, rfl, ?_⟩
  refine ⟨_, rfl, p, _, dx, _, rfl, upd_same, T.c_Sheet, T.n_now, by show 3 < 1000; decide, ?_⟩
  refine ⟨_, rfl, p, _, dx, _, _, rfl, upd_same, T.c_Sheet, T.n_entries, rfl, _, rfl, by show 1 ≤ sizeLine; decide, fun l4 n4 => ?_⟩
  have np4 : p ≠ l4 := ne_of_none upd_same n4
  have n4A : A l4 = none := by
    rw [upd_ne np4.symm, upd_ne np4.symm] at n4
    exact n4
  have npen : p ≠ en := fun e => by rw [e, h6] at h1; cases h1
  have t4 : ∀ b o, b ≠ p → A b = some o → (upd (upd (upd A p (.ins (SC K) dx (putF "_states" (.ref l3) (SF st k en)))) p (.ins (SC K) dx (putF "_now" (.int ((k : Nat) + 1 : Int)) (putF "_states" (.ref l3) (SF st k en))))) l4 (.lst [e])) b = some o := fun b o h1 h3 => by
    rw [upd_ne (ne_of_none h3 n4A), upd_ne h1, upd_ne h1]
    exact h3
  refine ⟨en, l4, es, _, rfl, rfl, t4 _ _ npen.symm (s3 _ _ h6), upd_same, big_line (by rw [h7]; show k + 1 ≤ _; omega), fun l5 n5 => ?_⟩
  have np5 : p ≠ l5 := ne_of_none (by rw [upd_ne np4]; exact upd_same) n5
  refine ⟨_, rfl, p, _, dx, _, rfl, by rw [upd_ne np5, upd_ne np4]; exact upd_same, T.c_Sheet, T.n_entries, by show 3 < 1000; decide, ?_⟩
  generalize hB : upd (upd (upd A p (.ins (SC K) dx (putF "_states" (.ref l3) (SF st k en)))) p (.ins (SC K) dx (putF "_now" (.int ((k : Nat) + 1 : Int)) (putF "_states" (.ref l3) (SF st k en))))) l4 (.lst [e]) = B' at t4 n5
  have t : ∀ b o, b ≠ p → A b = some o → (upd (upd B' l5 (.lst (es ++ [e]))) p (.ins (SC K) dx (putF "_entries" (.ref l5) (putF "_now" (.int ((k : Nat) + 1 : Int)) (putF "_states" (.ref l3) (SF st k en)))))) b = some o := fun b o h1 h3 => by
    have := t4 b o h1 h3
    rw [upd_ne h1, upd_ne (ne_of_none this n5)]
    exact this
  have ta : Ta [p] H (upd (upd B' l5 (.lst (es ++ [e]))) p (.ins (SC K) dx (putF "_entries" (.ref l5) (putF "_now" (.int ((k : Nat) + 1 : Int)) (putF "_states" (.ref l3) (SF st k en)))))) := fun b o hb h => t _ _ (by simpa using hb) (s3 _ _ h)
  refine q _ ta ⟨dx, l3, l5, xs ++ [.ref b], k + 1, b, es ++ [e], ?_, t _ _ np3.symm a3, by rw [List.length_append, h3]; rfl, ?_, hb.same (ta.mi (fun _ h => h)), ?_, by rw [List.length_append, h7]; rfl, by omega⟩
  · exact upd_same
  · rw [← h3, List.getElem?_append_right (Nat.le_refl _), Nat.sub_self]
    rfl
  · rw [upd_ne np5.symm]
    exact upd_same
end
end Sh
set_option Elab.async false
set_option linter.all false
set_option maxRecDepth 100000
set_option maxHeartbeats 4000000
namespace Sh
open PySem PySem.Spec PyProof.Rows L2 StX
section
variable {P : Program} {w : World} {K : PySem.W.Frag} {mg : Str → Option Value} {base : Heap}
/-! ### put -/
def Res (K : PySem.W.Frag) (r : Except Err PsC) (p : Addr) (N : Nat) (H : Hp) (Q : VK) (E : XK) : Prop := match r with
  | .error e => ∀ H', Same H H' → Bad K E e H'
  | .ok ps' => ∀ H', Ta [p] H H' → SheetAt K H' p ps' (N + 1) → Q .non H'
def spPut : Sp := fun vs H Q E => ∃ p ps N n v c S B, vs = [.ref p, .str n, v] ∧ SheetAt K H p ps N ∧ N ≤ 1000 ∧ Good okL S B ps ∧ SB S B ∧ n ∈ S ∧ NameOk n ∧ IsC (mi [p] H) v c ∧ COk okL B c ∧ Res K (putR ps n c) p N H Q E
/-- a comprehension's list of bools, one a name in use -/
theorem bools_end {l : List Str} {i : Nat} {u : Str} (f : Str → Bool) (hu : l[i]? = some u) : ((l.take (i + 1)).map f).map V.bl = ((l.take i).map f).map V.bl ++ [.bl (f u)] := by
  rw [take_more hu, List.map_append, List.map_append]
  rfl
theorem str_at {l : List Str} {i : Nat} {x : V} (h : (l.map V.str)[i]? = some x) : ∃ u, l[i]? = some u ∧ x = .str u := by
  rw [List.getElem?_map] at h
  cases hu : l[i]? with
  | none => rw [hu] at h; cases h
  | some u => rw [hu] at h; cases h; exact ⟨u, rfl, rfl⟩
theorem bools_len (l : List Str) (i : Nat) (f : Str → Bool) (h : l.length ≤ 1000) : (((l.take i).map f).map V.bl).length < sizeLine := by
  rw [List.length_map, List.length_map, List.length_take]
  exact big_line' (by omega)
theorem find_drop {α β : Type} {l : List α} {f : α → Option β} {i : Nat} {x : α} (h : l[i]? = some x) : (l.drop i).findSome? f = (match f x with | some e => some e | none => (l.drop (i + 1)).findSome? f) := by
  obtain ⟨hlt, e⟩ := List.getElem?_eq_some_iff.mp h
  rw [List.drop_eq_getElem_cons hlt, e, List.findSome?_cons]
  cases f x <;> rfl
theorem sc_m_put : FnScope ["self", "name", "condition", "pairs", "used", "own", "later", "other", "_"] ["self", "name", "condition"] (defScope m_put) := ⟨rfl, rfl, rfl, by decide +kernel, rfl, by decide +kernel, by decide +kernel⟩
theorem ok_put (T : Txt w K mg) (U : Aux P K) : Fn P w K mg base 36 (He.ma K (SC K) "put") (spPut (K := K)) := by
  have G_is_name : Fn P w K mg base 1 (He.ga K "is_name") spIsName := ok_isName T
  have G_check_condition : Fn P w K mg base 9 (He.ga K "check_condition") (spCheckC (K := K) 2) := ok_checkC T U 2
  have G_m_pairs : Fn P w K mg base 1 (He.ma K (SC K) "_pairs") (spPairs (K := K)) := ok_pairs T
  have G_used_in : Fn P w K mg base 5 (He.ga K "used_in") (spUsed 2) := ok_used T 2
  have G_condition_in : Fn P w K mg base 1 (He.ga K "condition_in") spIn := ok_in T
  have G_leads_to : Fn P w K mg base 20 (He.ga K "leads_to") (spLeads 14) := ok_leads T 14
  have G_copy_condition : Fn P w K mg base 5 (He.ga K "copy_condition") (spCopyC 2) := ok_copyC T 2
  have G_put_in : Fn P w K mg base 2 (He.ga K "put_in") spPutIn := ok_putIn T
  have G_whole_in : Fn P w K mg base 20 (He.ga K "whole_in") (spWholeIn 14) := ok_wholeIn T 14
  have G_check_formula : Fn P w K mg base 35 (He.ga K "check_formula") (spCheckF (K := K) 28) := ok_checkF T U 28
  have G_m_enter : Fn P w K mg base 1 (He.ma K (SC K) "_enter") (spEnter (K := K)) := ok_enter T
  refine mkR T.F_m_put sc_m_put (fun vs H Q E h => ?_) (fun _ _ _ _ _ _ us hl => match us, hl with | [_, _, _], _ => rfl) (fun cdv A outer s H vs Q E hr h => ?_)
  · obtain ⟨p, ps, N, n, v, c, S, B, rfl, _⟩ := h
    rfl
  obtain ⟨p, ps, N, n, v, c, S, B, rfl, sh, hN, G, sb, hnS, hnm, hv, co, q⟩ := h
  refine ⟨_, (pss_cons (ps_if (pt_not (pt_val (pe_callR G_is_name (hr.mono (by omega)) T.g_is_name (kp T.F_is_name) passL (pa_cons (pv 1) pa_nil)))) (pss_one (ps_raise rfl (takes_of rfl rfl rfl rfl) (pmk_err U.x_BadName T.g_BadName hr T.b_super U.top))) pss_nil)
      (pss_cons (ps_expr (pe_callR G_check_condition (hr.mono (by omega)) T.g_check_condition (kp T.F_check_condition) (passes_call (takes_of rfl rfl rfl rfl) (fun _ _ _ _ h => h)) (pa_cons (pv 2) pa_nil)))
      (pss_cons (ps_set (i := 3) sc_m_put.nd rfl (Or.inr rfl) (pe_methR0 (pv 0) T.c_Sheet T.M_pairs G_m_pairs (hr.mono (by omega)) passL))
      (pss_cons (ps_set (i := 4) sc_m_put.nd rfl (Or.inl rfl) (pe_callR G_used_in (hr.mono (by omega)) T.g_used_in (kp T.F_used_in) passL (pa_cons (pv 2) pa_nil)))
      (pss_cons (ps_if (pt_val (pe_callB (anyq K rfl) rfl T.b_any (by decide +kernel) (pa_cons (pe_lc (own := [("other", 7)]) (g := gName 7) (tt := tYes) rfl sc_m_put.nd (pil K (pv 4)) (blkOk_by (N := ["self", "name", "condition", "pairs", "used", "own", "later", "other", "_"]) (sc := defScope m_put) (by decide +kernel)) (fun _ _ _ _ _ => (pg_name (i := 7) sc_m_put.nd rfl (Or.inl rfl))) (fun _ _ _ _ _ => pts_nil) (fun _ _ _ _ _ => (pe_cmpR op_isN (pe_callR G_condition_in (hr.mono (by omega)) T.g_condition_in (kp T.F_condition_in) passL (pa_cons (pv 3) (pa_cons (pv 7) pa_nil))) pe_non (nomark _)))) pa_nil))) (pss_one (ps_raise rfl (takes_of rfl rfl rfl rfl) (pmk_err U.x_UnknownName T.g_UnknownName hr T.b_super U.top))) pss_nil)
      (pss_cons (ps_if (pt_val (pe_callB (anyq K rfl) rfl T.b_any (by decide +kernel) (pa_cons (pe_lc (own := [("other", 7)]) (g := gName 7) (tt := tYes) rfl sc_m_put.nd (pil K (pv 4)) (blkOk_by (N := ["self", "name", "condition", "pairs", "used", "own", "later", "other", "_"]) (sc := defScope m_put) (by decide +kernel)) (fun _ _ _ _ _ => (pg_name (i := 7) sc_m_put.nd rfl (Or.inl rfl))) (fun _ _ _ _ _ => pts_nil) (fun _ _ _ _ _ => (pe_callR G_leads_to (hr.mono (by omega)) T.g_leads_to (kp T.F_leads_to) passL (pa_cons (pv 3) (pa_cons (pv 7) (pa_cons (pv 1) pa_nil)))))) pa_nil))) (pss_one (ps_raise rfl (takes_of rfl rfl rfl rfl) (pmk_err U.x_Circle T.g_Circle hr T.b_super U.top))) pss_nil)
      (pss_cons (ps_set (i := 5) sc_m_put.nd rfl (Or.inl rfl) (pe_callR G_copy_condition (hr.mono (by omega)) T.g_copy_condition (kp T.F_copy_condition) passL (pa_cons (pv 2) pa_nil)))
      (pss_cons (ps_set (i := 6) sc_m_put.nd rfl (Or.inl rfl) (pe_callR G_put_in (hr.mono (by omega)) T.g_put_in (kp T.F_put_in) passL (pa_cons (pv 3) (pa_cons (pv 1) (pa_cons (pv 5) pa_nil)))))
      (pss_cons (ps_for (passes_of rfl) rfl (pil K (pv 6)) (pgt (n := 2) K rfl (pgs_cons (pg_name (i := 7) sc_m_put.nd rfl (Or.inl rfl)) (pgs_cons (pg_name (i := 8) sc_m_put.nd rfl (Or.inl rfl)) pgs_nil))) (pss_one (ps_expr (pe_callR G_check_formula (hr.mono (by omega)) T.g_check_formula (kp T.F_check_formula) (passes_call (takes_of rfl rfl rfl rfl) (fun _ _ _ _ h => h)) (pa_cons (pe_callR G_whole_in (hr.mono (by omega)) T.g_whole_in (kp T.F_whole_in) passL (pa_cons (pv 6) (pa_cons (pv 7) pa_nil))) pa_nil)))))
      (pss_one (ps_expr (pe_methR (pv 0) T.c_Sheet T.M_enter G_m_enter (hr.mono (by omega)) passL (pa_cons (pv 6) (pa_cons (pe_tup (pa_cons pe_str (pa_cons (pv 1) (pa_cons (pv 5) pa_nil)))) pa_nil)))))))))))))), ?_⟩
  have cl4 : c.leaves.length ≤ 4 := Nat.le_trans co.len sb.b4
  have ul : c.used.length ≤ 4 := Nat.le_trans (Cnd.used_len c) cl4
  have pl : ps.length ≤ 13 := Nat.le_trans G.len sb.s
  obtain ⟨r, rt⟩ := rt_of G sb
  refine ⟨_, rfl, n, rfl, hnm, fun H1 s1 => ⟨true, rfl, iteF ?_⟩⟩
  have sh1 := sh.same s1
  have hv1 := hv.same (mi_same (M := [p]) s1)
  refine ⟨_, rfl, [p], v, c, rfl, sh1.av, hv1, co.ok, co.dep, by omega, ?_⟩
  unfold DueP
  unfold putR at q
  cases hd : due c with
  | some e =>
    rw [hd] at q
    exact fun H2 s2 => q _ (s1.trans s2)
  | none =>
  rw [hd] at q
  intro H2 s2
  have s02 := s1.trans s2
  have sh2 := sh.same s02
  have hv2 := hv.same (mi_same (M := [p]) s02)
  obtain ⟨dx, st, en, xs, k, a0, es, g1, _⟩ := id sh2
  refine ⟨_, rfl, p, dx, _, rfl, g1, rfl, p, ps, N, rfl, sh2, fun a ha => ?_⟩
  refine ⟨_, rfl, [p], v, c, rfl, sh2.av, hv2, co.dep, by omega, fun l H3 s3 n3 e3 => ?_⟩
  have s03 := s02.trans s3
  have sh3 := sh.same s03
  have hps3 := ha.same (mi_same (M := [p]) s3)
  -- any unknown
  refine ⟨_, rfl, l, rfl, ⟨_, SqL.of e3⟩, fun D nD => ?_⟩
  refine lc_list (K := K) (a := l) (xs := c.used.map V.str) (fun i H' => Same H3 H' ∧ H' D = some (.lst (((c.used.take i).map fun u => (cin ps u).isNone).map V.bl)))
    ⟨same_new nD _, upd_same⟩ (fun i H' _ h => SqL.of (h.1 _ _ e3)) ?_ ?_
  · rintro i x H' hi ⟨s4, eD⟩
    obtain ⟨u, hu, rfl⟩ := str_at hi
    refine ⟨rfl, ?_⟩
    refine ⟨_, rfl, _, rfl, [p], a, u, ps, rfl, (sh3.same s4).av, hps3.same (mi_same s4), ?_⟩
    have fin : ∃ acc, H' D = some (.lst acc) ∧ acc.length < sizeLine ∧ Same H3 (upd H' D (.lst (acc ++ [.bl (cin ps u).isNone]))) ∧ upd H' D (.lst (acc ++ [.bl (cin ps u).isNone])) D = some (.lst (((c.used.take (i + 1)).map fun u => (cin ps u).isNone).map V.bl)) :=
      ⟨_, eD, bools_len _ _ _ (by omega), s4.put nD _, by rw [upd_same, bools_end _ hu]⟩
    cases hc : cin ps u with
    | none =>
      rw [hc] at fin
      exact ⟨rfl, fin⟩
    | some cc =>
      rw [hc] at fin
      intro v0 hv0
      obtain ⟨b0, _, rfl, _⟩ := hv0.tup
      exact ⟨rfl, fin⟩
  rintro H4 ⟨s4, e4⟩
  rw [List.length_map, List.take_length] at e4
  refine ⟨D, _, rfl, SqL.of e4, _, rfl, ?_⟩
  rw [any_map_id]
  have s04 := s03.trans s4
  dsimp only at q
  refine ite2 (fun z => ?_) (fun z => ?_)
  · rw [if_pos z] at q
    exact q _ s04
  rw [if_neg z] at q
  have known : ∀ u ∈ c.used, ∃ d, cin ps u = some d := fun u hu => by
    cases e : cin ps u with
    | some d => exact ⟨d, rfl⟩
    | none => exact absurd (List.any_eq_true.mpr ⟨u, hu, by rw [e]; rfl⟩) z
  have sh4 := sh.same s04
  have hps4 := hps3.same (mi_same (M := [p]) s4)
  have e34 := s4 _ _ e3
  -- any leads back
  refine ⟨_, rfl, l, rfl, ⟨_, SqL.of e34⟩, fun D2 nD2 => ?_⟩
  refine lc_list (K := K) (a := l) (xs := c.used.map V.str) (fun i H' => Same H4 H' ∧ H' D2 = some (.lst (((c.used.take i).map (leads ps n)).map V.bl)))
    ⟨same_new nD2 _, upd_same⟩ (fun i H' _ h => SqL.of (h.1 _ _ e34)) ?_ ?_
  · rintro i x H' hi ⟨s5, eD⟩
    obtain ⟨u, hu, rfl⟩ := str_at hi
    refine ⟨rfl, ?_⟩
    refine ⟨_, rfl, _, rfl, _, rfl, [p], a, ps, r, S, B, u, n, rfl, (sh4.same s5).av, hps4.same (mi_same s5), rt, known u (List.mem_of_getElem? hu), by have := rt.le13 u; omega, fun H6 s6 => ?_⟩
    exact ⟨_, s6 _ _ eD, bools_len _ _ _ (by omega), (s5.trans s6).put nD2 _, by rw [upd_same, bools_end _ hu]⟩
  rintro H5 ⟨s5, e5⟩
  rw [List.length_map, List.take_length] at e5
  refine ⟨D2, _, rfl, SqL.of e5, _, rfl, ?_⟩
  rw [any_map_id]
  have s05 := s04.trans s5
  refine ite2 (fun z2 => ?_) (fun z2 => ?_)
  · rw [if_pos z2] at q
    exact q _ s05
  rw [if_neg z2] at q
  have away : ∀ u ∈ c.used, leads ps n u = false := fun u hu => by
    cases e : leads ps n u with
    | false => rfl
    | true => exact absurd (List.any_eq_true.mpr ⟨u, hu, e⟩) z2
  have sh5 := sh.same s05
  have hps5 := hps4.same (mi_same (M := [p]) s5)
  have hv5 := hv.same (mi_same (M := [p]) s05)
  refine ⟨_, rfl, [p], v, c, rfl, sh5.av, hv5, co.dep, fun own H6 s6 hown => ?_⟩
  have s06 := s05.trans s6
  have sh6 := sh.same s06
  refine ⟨_, rfl, _, rfl, _, rfl, [p], a, ps, n, own, c, rfl, sh6.av, hps5.same (mi_same s6), hown, by omega, fun b H7 s7 n7 hb => ?_⟩
  have s07 := s06.trans s7
  have sh7 := sh.same s07
  obtain ⟨ys, b1, b2⟩ := id hb
  have hb1 := (mi_some b1).1
  have G' : Good okL S B (putP ps n c) := G.putP (Nat.le_trans sb.s (by decide)) hnS co known away
  obtain ⟨r', rt'⟩ := rt_of G' sb
  obtain ⟨fx, hfx⟩ : ∃ x, x = (putP ps n c).findSome? (fun q => due (wh (putP ps n c) q.1)) := ⟨_, rfl⟩
  rw [← hfx] at q
  refine ⟨_, rfl, b, rfl, ⟨_, SqL.of hb1⟩, for_list (K := K) (a := b) (xs := ys) (fun i σ H' => ∃ z1 z2, σ = [some (.ref p), some (.str n), some v, some (.ref a), some (.ref l), some own, some (.ref b), z1, z2] ∧ Same H7 H' ∧ fx = ((putP ps n c).drop i).findSome? (fun q => due (wh (putP ps n c) q.1)))
    ⟨none, none, rfl, Same.refl _, hfx⟩ (fun i σ H' _ ⟨_, _, _, h, _⟩ => SqL.of (h _ _ hb1)) ?_ ?_⟩
  · rintro i x σ H' hi ⟨z1, z2, rfl, s8, hf⟩
    obtain ⟨⟨m, c1⟩, hp, a2, v1, rfl, e1, e2⟩ := paired_get b2 hi
    have s08 := s07.trans s8
    refine ⟨a2, _, rfl, SqT.of (s8 _ _ (mi_some e1).1), rfl, _, _, rfl, _, _, rfl, rfl, ?_⟩
    have hcm := cin_of_mem G'.nd (List.mem_of_getElem? hp)
    refine ⟨_, rfl, _, rfl, [p], b, _, r', S, B, m, rfl, (sh.same s08).av, hb.same (mi_same s8), rt', ⟨_, hcm⟩, by have := rt'.le13 m; omega, fun v9 H9 s9 hv9 => ?_⟩
    obtain ⟨w1, w2, w3, w4⟩ := rt_whole rt' ⟨_, hcm⟩
    have s09 := s08.trans s9
    refine ⟨[p], v9, _, rfl, (sh.same s09).av, hv9, w3, w4, w1, w2, ?_⟩
    rw [find_drop hp] at hf
    unfold DueP
    cases hd2 : due (wh (putP ps n c) m) with
    | some e =>
      rw [hd2] at hf
      subst hf
      exact fun H10 s10 => q _ (s09.trans s10)
    | none =>
      rw [hd2] at hf
      exact fun H10 s10 => ⟨_, _, rfl, (s8.trans s9).trans s10, hf⟩
  · rintro σ H' ⟨z1, z2, rfl, s8, hf⟩
    rw [paired_len b2, List.drop_length] at hf
    subst hf
    have s08 := s07.trans s8
    have sh8 := sh.same s08
    obtain ⟨dx8, st8, en8, xs8, k8, a8, es8, g8, _⟩ := id sh8
    refine ⟨_, rfl, p, dx8, _, rfl, g8, rfl, _, rfl, _, rfl, _, rfl, by show 3 ≤ sizeLine; decide, fun t nt => ?_⟩
    have s9 := same_new nt (.tup [.str "put", .str n, own])
    refine ⟨p, b, _, ps, _, N, rfl, sh8.same s9, hb.same (mi_same (s8.trans s9)), hN, fun H10 t10 sh10 => ?_⟩
    exact q _ (((s08.trans s9).ta _).trans t10) sh10
end
end Sh
set_option Elab.async false
set_option linter.all false
set_option maxRecDepth 100000
set_option maxHeartbeats 4000000
namespace Sh
open PySem PySem.Spec PyProof.Rows L2 StX
section
variable {P : Program} {w : World} {K : PySem.W.Frag} {mg : Str → Option Value} {base : Heap}
/-! ### data of texts -/
theorem dp_strs {H : Hp} : ∀ l : List Str, DpAll K H (l.map V.str) (l.map PyData.str)
  | [] => .nil
  | a :: l => .cons (.str a) (dp_strs l)
theorem lay_strs : ∀ l : List Str, (∀ s ∈ l, PyData.strOk s = true) → PyData.canLayAll0 (l.map PyData.str) = true
  | [], _ => rfl
  | a :: l, h => by
    show (PyData.strOk a && PyData.canLayAll0 (l.map PyData.str)) = true
    rw [h a List.mem_cons_self, lay_strs l fun s hs => h s (List.mem_cons_of_mem _ hs)]
    rfl
theorem dep_strs : ∀ l : List Str, PyData.depthAll (l.map PyData.str) = 0
  | [] => rfl
  | a :: l => by
    show max 0 (PyData.depthAll (l.map PyData.str)) = 0
    rw [dep_strs l]
    rfl
theorem shaped_strs {l : List Str} (h : ∀ s ∈ l, PyData.strOk s = true) : SeqAt.shaped (.list (l.map PyData.str)) = true := by
  show (PyData.canLayAll0 (l.map PyData.str) && decide (PyData.depthAll (l.map PyData.str) + 1 ≤ 64)) = true
  rw [lay_strs l h, dep_strs]
  rfl
theorem nameOk_lay {s : Str} (h : NameOk s) : PyData.strOk s = true := by
  have key : ∀ c ∈ (LETT ++ DIGI).cps.toList, c < 0x110000 := by decide +kernel
  show s.cps.all (· < 0x110000) = true
  rw [← Array.all_toList, List.all_eq_true]
  exact fun c hc => decide_eq_true (key c (h.all c hc))
/-! ### remove -/
def spRem : Sp := fun vs H Q E => ∃ p ps N n S B, vs = [.ref p, .str n] ∧ SheetAt K H p ps N ∧ N ≤ 1000 ∧ Good okL S B ps ∧ SB S B ∧ (∀ s ∈ S, NameOk s) ∧ Res K (remR ps n) p N H Q E
theorem users_nil {ps : PsC} {n : Str} : usersOf ps n = [] ↔ ¬ ps.any (fun q => decide (n ∈ q.2.used)) = true := by
  unfold usersOf
  rw [List.map_eq_nil_iff, List.filter_eq_nil_iff, List.any_eq_true]
  constructor
  · rintro h ⟨q, hq, e⟩
    exact h q hq e
  · intro h q hq e
    exact h ⟨q, hq, e⟩
theorem eqv_nil (l : List Str) : PyData.eqv (.list (l.map PyData.str)) (.list []) = l.isEmpty := by
  cases l <;> rfl
theorem sc_m_remove : FnScope ["self", "name", "pair"] ["self", "name"] (defScope m_remove) := ⟨rfl, rfl, rfl, by decide +kernel, rfl, by decide +kernel, by decide +kernel⟩
theorem ok_remove (T : Txt w K mg) (U : Aux P K) : Fn P w K mg base 7 (He.ma K (SC K) "remove") (spRem (K := K)) := by
  have G_m_condition_of := ok_condOf (base := base) T U
  have G_m_users := ok_users (base := base) T U
  have G_m_pairs : Fn P w K mg base 1 (He.ma K (SC K) "_pairs") (spPairs (K := K)) := ok_pairs T
  have G_m_enter : Fn P w K mg base 1 (He.ma K (SC K) "_enter") (spEnter (K := K)) := ok_enter T
  refine mkR T.F_m_remove sc_m_remove (fun vs H Q E h => ?_) (fun _ _ _ _ _ _ us hl => match us, hl with | [_, _], _ => rfl) (fun cdv A outer s H vs Q E hr h => ?_)
  · obtain ⟨p, ps, N, n, S, B, rfl, _⟩ := h
    rfl
  obtain ⟨p, ps, N, n, S, B, rfl, sh, hN, G, sb, hS, q⟩ := h
  refine ⟨_, (pss_cons (ps_expr (pe_methR (pv 0) T.c_Sheet T.M_condition_of G_m_condition_of (hr.mono (by omega)) (passes_call (takes_of rfl rfl rfl rfl) (fun _ _ _ _ h => h)) (pa_cons (pv 1) pa_nil)))
      (pss_cons (ps_if (pt_cmpR (op_neD hr.units) (pe_methR (pv 0) T.c_Sheet T.M_users G_m_users (hr.mono (by omega)) passL (pa_cons (pv 1) pa_nil)) (pe_lst pa_nil) (nomark _)) (pss_one (ps_raise rfl (takes_of rfl rfl rfl rfl) (pmk_err U.x_InUse T.g_InUse hr T.b_super U.top))) pss_nil)
      (pss_one (ps_expr (pe_methR (pv 0) T.c_Sheet T.M_enter G_m_enter (hr.mono (by omega)) passL (pa_cons (pe_lc (own := [("pair", 2)]) (g := gName 2) (tt := _) rfl sc_m_remove.nd (pil K (pe_methR0 (pv 0) T.c_Sheet T.M_pairs G_m_pairs (hr.mono (by omega)) passL)) (blkOk_by (N := ["self", "name", "pair"]) (sc := defScope m_remove) (by decide +kernel)) (fun _ _ _ _ _ => (pg_name (i := 2) sc_m_remove.nd rfl (Or.inl rfl))) (fun _ _ _ _ _ => (pts_one (pt_cmpR op_ne (pe_ix (ixt K) (pv 2) pe_int (fun _ _ => rfl)) (pv 1) (nomark _)))) (fun _ _ _ _ _ => (pv 2))) (pa_cons (pe_tup (pa_cons pe_str (pa_cons (pv 1) pa_nil))) pa_nil))))))), ?_⟩
  have pl : ps.length ≤ 13 := Nat.le_trans G.len sb.s
  obtain ⟨dx, st, en, xs, k, a0, es, g1, _⟩ := id sh
  unfold remR at q
  refine ⟨_, rfl, p, dx, _, rfl, g1, rfl, _, rfl, p, ps, N, n, rfl, sh, ?_⟩
  cases hc : cin ps n with
  | none =>
    rw [hc] at q
    exact q _ (Same.refl _)
  | some c =>
  rw [hc, if_neg (by simp)] at q
  intro v hv
  refine ⟨_, rfl, p, dx, _, rfl, g1, rfl, _, rfl, p, ps, N, n, rfl, sh, ⟨c, hc⟩, by omega, fun y hy => ⟨(G.cnd y hy).dep, Nat.le_trans (G.cnd y hy).len (Nat.le_trans sb.b4 (by decide))⟩, fun l H1 s1 n1 e1 => ?_⟩
  refine ⟨Nat.zero_le _, fun l2 n2 => ?_⟩
  have s2 : Same H (upd H1 l2 (.lst [])) := s1.new n2 _
  have s12 : Same H1 (upd H1 l2 (.lst [])) := same_new n2 _
  have uS : ∀ s ∈ usersOf ps n, PyData.strOk s = true := fun s hs => by
    unfold usersOf at hs
    obtain ⟨y, hy, rfl⟩ := List.mem_map.mp hs
    exact nameOk_lay (hS _ (G.sub _ (List.mem_map.mpr ⟨y, (List.mem_filter.mp hy).1, rfl⟩)))
  refine ⟨_, _, .lst (SqL.of (s12 _ _ e1)) (dp_strs _), .lst (SqL.of upd_same) .nil, shaped_strs uS, rfl, _, rfl, ?_⟩
  rw [eqv_nil]
  refine ite2 (fun z => ?_) (fun z => ?_)
  · have : ps.any (fun q => decide (n ∈ q.2.used)) = true := by
      by_cases y : ps.any (fun q => decide (n ∈ q.2.used)) = true
      · exact y
      · rw [users_nil.mpr y] at z
        cases z
    rw [if_pos this] at q
    exact q _ s2
  have none' : ¬ ps.any (fun q => decide (n ∈ q.2.used)) = true := users_nil.mp (by
    cases e : usersOf ps n with
    | nil => rfl
    | cons y ys => rw [e] at z; exact absurd rfl z)
  rw [if_neg none'] at q
  have sh2 := sh.same s2
  obtain ⟨dx2, st2, en2, xs2, k2, a2, es2, g2, _⟩ := id sh2
  refine ⟨_, rfl, p, dx2, _, rfl, g2, rfl, _, rfl, p, dx2, _, rfl, g2, rfl, p, ps, N, rfl, sh2, fun a ha => ?_⟩
  obtain ⟨ys, b1, b2⟩ := id ha
  have ga := (mi_some b1).1
  refine ⟨a, rfl, ⟨_, SqL.of ga⟩, fun D nD => ?_⟩
  refine lc_list (K := K) (a := a) (xs := ys) (fun i H' => Same (upd H1 l2 (.lst [])) H' ∧ ∃ zs, H' D = some (.lst zs) ∧ ArePs (mi (D :: [p]) H') zs ((ps.take i).filter fun y => decide (y.1 ≠ n)))
    ⟨same_new nD _, [], upd_same, .nil⟩ (fun i H' _ h => SqL.of (h.1 _ _ ga)) ?_ ?_
  · rintro i x H' hi ⟨s3, zs, eD, ar⟩
    obtain ⟨⟨m, c1⟩, hp, a3, v1, rfl, e1, e2⟩ := paired_get b2 hi
    refine ⟨rfl, ?_⟩
    refine ⟨_, rfl, a3, _, 0, _, rfl, rfl, SqT.of (s3 _ _ (mi_some e1).1), at0 _ _, _, rfl, rfl, _, rfl, ?_⟩
    have e0 : (!decide (V.str m = V.str n)) = decide (m ≠ n) := by
      rw [dec_strS, decide_not]
    rw [e0, take_more hp, List.filter_append]
    have hxx : IsP (mi (D :: [p]) H') (.ref a3) (m, c1) := (show IsP (mi [p] (upd H1 l2 (.lst []))) (.ref a3) (m, c1) from ⟨a3, v1, rfl, e1, e2⟩).same (carry s3 nD)
    refine ite2 (fun z => ?_) (fun z => ?_)
    · rw [show List.filter (fun y : Str × C => decide (y.1 ≠ n)) [(m, c1)] = [(m, c1)] from List.filter_cons_of_pos (p := fun y : Str × C => decide (y.1 ≠ n)) z]
      refine ⟨_, rfl, zs, eD, ?_, s3.put nD _, _, upd_same, ?_⟩
      · have h1 := paired_len ar
        have h2 : ((ps.take i).filter fun y => decide (y.1 ≠ n)).length ≤ (ps.take i).length := List.length_filter_le ..
        rw [List.length_take] at h2
        exact big_line' (by omega)
      · have up : Same (mi (D :: [p]) H') (mi (D :: [p]) (upd H' D (.lst (zs ++ [.ref a3])))) := (ta_put (M := [D]) (by simp) _).mi (by simp)
        exact paired_app (ar.same up) (.cons (hxx.same up) .nil)
    · rw [show List.filter (fun y : Str × C => decide (y.1 ≠ n)) [(m, c1)] = [] from List.filter_cons_of_neg (p := fun y : Str × C => decide (y.1 ≠ n)) z]
      exact ⟨s3, zs, eD, by rw [List.append_nil]; exact ar⟩
  · rintro H' ⟨s3, zs, eD, ar⟩
    rw [paired_len b2, List.take_length] at ar
    refine ⟨_, rfl, by show 2 ≤ sizeLine; decide, fun t nt => ?_⟩
    have s4 := same_new nt (.tup [.str "remove", .str n])
    have s04 := (s2.trans s3).trans s4
    refine ⟨p, D, _, ps, _, N, rfl, sh.same s04, ⟨zs, ?_, (ArePs.same (mi_sub _ fun _ => List.mem_cons_of_mem _) ar).same (mi_same s4)⟩, hN, fun H10 t10 sh10 => ?_⟩
    · exact mi_at (sh2.av.out nD) (s4 _ _ eD)
    · exact q _ ((s04.ta _).trans t10) sh10
end
end Sh
set_option Elab.async false
set_option linter.all false
set_option maxRecDepth 100000
set_option maxHeartbeats 4000000
namespace Sh
open PySem PySem.Spec PyProof.Rows L2 StX
section
variable {P : Program} {w : World} {K : PySem.W.Frag} {mg : Str → Option Value} {base : Heap}
/-! ### rename -/
def spRen : Sp := fun vs H Q E => ∃ p ps N n o S B, vs = [.ref p, .str n, .str o] ∧ SheetAt K H p ps N ∧ N ≤ 1000 ∧ Good okL S B ps ∧ SB S B ∧ NameOk o ∧ Res K (renR ps n o) p N H Q E
theorem fillR_ren {M : List Addr} {H : Hp} {n o : Str} {t : Addr} {c : C} (h : mi M H t = some (.tup [.str "use", .str o])) : FillR M H [(Sum.inr n, .ref t)] (ren n o) c := fun m _ => by
  by_cases z : n = m
  · subst z
    refine .inr ⟨.ref t, .us o, valV_pos rfl, by rw [ren, if_pos rfl], t, rfl, h⟩
  · refine .inl ⟨?_, by rw [ren, if_neg (fun e => z e.symm)]⟩
    rw [valV_neg (fun e => z (by cases e; rfl))]
    rfl
theorem sc_m_rename : FnScope ["self", "name", "other", "later", "one", "condition"] ["self", "name", "other"] (defScope m_rename) := ⟨rfl, rfl, rfl, by decide +kernel, rfl, by decide +kernel, by decide +kernel⟩
theorem ok_rename (T : Txt w K mg) (U : Aux P K) : Fn P w K mg base 5 (He.ma K (SC K) "rename") (spRen (K := K)) := by
  have G_m_condition_of := ok_condOf (base := base) T U
  have G_is_name : Fn P w K mg base 1 (He.ga K "is_name") spIsName := ok_isName T
  have G_condition_in : Fn P w K mg base 1 (He.ga K "condition_in") spIn := ok_in T
  have G_filled : Fn P w K mg base 4 (He.ga K "filled") (spFill 2) := ok_fill T 2
  have G_m_pairs : Fn P w K mg base 1 (He.ma K (SC K) "_pairs") (spPairs2 (K := K)) := ok_pairs2 T
  have G_m_enter : Fn P w K mg base 1 (He.ma K (SC K) "_enter") (spEnter (K := K)) := ok_enter T
  refine mkR T.F_m_rename sc_m_rename (fun vs H Q E h => ?_) (fun _ _ _ _ _ _ us hl => match us, hl with | [_, _, _], _ => rfl) (fun cdv A outer s H vs Q E hr h => ?_)
  · obtain ⟨p, ps, N, n, o, S, B, rfl, _⟩ := h
    rfl
  obtain ⟨p, ps, N, n, o, S, B, rfl, sh, hN, G, sb, hnm, q⟩ := h
  refine ⟨_, (pss_cons (ps_expr (pe_methR (pv 0) T.c_Sheet T.M_condition_of G_m_condition_of (hr.mono (by omega)) (passes_call (takes_of rfl rfl rfl rfl) (fun _ _ _ _ h => h)) (pa_cons (pv 1) pa_nil)))
      (pss_cons (ps_if (PW.pt (pw_or (pt_not (pt_val (pe_callR G_is_name (hr.mono (by omega)) T.g_is_name (kp T.F_is_name) passL (pa_cons (pv 2) pa_nil)))) (pw_or1 (PW.pt (pw_and (pt_cmpR op_ne (pv 2) (pv 1) (nomark _)) (pw_and1 (pt_cmpR op_notN (pe_callR G_condition_in (hr.mono (by omega)) T.g_condition_in (kp T.F_condition_in) passL (pa_cons (pe_methR0 (pv 0) T.c_Sheet T.M_pairs G_m_pairs (hr.mono (by omega)) passL) (pa_cons (pv 2) pa_nil))) pe_non (nomark _)))))))) (pss_one (ps_raise rfl (takes_of rfl rfl rfl rfl) (pmk_err U.x_BadName T.g_BadName hr T.b_super U.top))) pss_nil)
      (pss_cons (ps_set (i := 3) sc_m_rename.nd rfl (Or.inl rfl) (pe_lst pa_nil))
      (pss_cons (ps_for (passes_of rfl) rfl (pil K (pe_methR0 (pv 0) T.c_Sheet T.M_pairs G_m_pairs (hr.mono (by omega)) passL)) (pgt (n := 2) K rfl (pgs_cons (pg_name (i := 4) sc_m_rename.nd rfl (Or.inl rfl)) (pgs_cons (pg_name (i := 5) sc_m_rename.nd rfl (Or.inl rfl)) pgs_nil))) (pss_one (ps_expr (pe_bm PySem.F.plainAttrs_list PySem.F.slot_list_append PySem.F.type_list_append mt_append (pv 3) (pa_cons (pe_tup (pa_cons (pe_ifExp (pt_cmpR op_eq (pv 4) (pv 1) (nomark _)) (pv 2) (pv 4)) (pa_cons (pe_callR G_filled (hr.mono (by omega)) T.g_filled (kp T.F_filled) passL (pa_cons (pv 5) (pa_cons (pe_disp (pps_cons (pv 1) (pe_tup (pa_cons pe_str (pa_cons (pv 2) pa_nil))) pps_nil) (by rfl) (by rfl) (fun z => by cases z) (by decide)) pa_nil))) pa_nil))) pa_nil)))))
      (pss_one (ps_expr (pe_methR (pv 0) T.c_Sheet T.M_enter G_m_enter (hr.mono (by omega)) passL (pa_cons (pv 3) (pa_cons (pe_tup (pa_cons pe_str (pa_cons (pv 1) (pa_cons (pv 2) pa_nil)))) pa_nil))))))))), ?_⟩
  have pl : ps.length ≤ 13 := Nat.le_trans G.len sb.s
  obtain ⟨dx, st, en, xs, k, a0, es, g1, _⟩ := id sh
  unfold renR at q
  refine ⟨_, rfl, p, dx, _, rfl, g1, rfl, _, rfl, p, ps, N, n, rfl, sh, ?_⟩
  cases hc : cin ps n with
  | none =>
    rw [hc] at q
    exact q _ (Same.refl _)
  | some c =>
  rw [hc, if_neg (by simp)] at q
  intro v hv
  refine ⟨_, rfl, o, rfl, hnm, fun H1 s1 => ⟨true, rfl, iteF ?_⟩⟩
  have sh1 := sh.same s1
  by_cases ho : o = n
  case' neg =>
    cases hco : cin ps o
    case' some c' =>
      have q : ∀ H', Same H H' → Bad K E .badname H' := by
        rw [if_pos ⟨ho, by rw [hco]; rfl⟩] at q
        exact q
      refine ⟨_, rfl, _, rfl, rfl, _, rfl, ?_⟩
      rw [dec_strS, decide_eq_false ho]
      obtain ⟨dx1, st1, en1, xs1, k1, a1, es1, g2, _⟩ := id sh1
      refine iteT ⟨_, rfl, p, dx1, _, rfl, g2, rfl, H1, p, ps, N, rfl, sh1, Same.refl _, fun a ha => ?_⟩
      refine ⟨_, rfl, [p], a, o, ps, rfl, sh1.av, ha, ?_⟩
      rw [hco]
      intro v0 hv0
      obtain ⟨b0, _, rfl, _⟩ := hv0.tup
      exact ⟨rfl, _, rfl, iteT (q _ s1)⟩
    case' none =>
      have q : ∀ H', Ta [p] H H' → SheetAt K H' p (renP ps n o) (N + 1) → Q .non H' := by
        rw [if_neg (by rw [hco]; simp)] at q
        exact q
      refine ⟨_, rfl, _, rfl, rfl, _, rfl, ?_⟩
      rw [dec_strS, decide_eq_false ho]
      obtain ⟨dx1, st1, en1, xs1, k1, a1, es1, g2, _⟩ := id sh1
      refine iteT ⟨_, rfl, p, dx1, _, rfl, g2, rfl, H1, p, ps, N, rfl, sh1, Same.refl _, fun a ha => ?_⟩
      refine ⟨_, rfl, [p], a, o, ps, rfl, sh1.av, ha, ?_⟩
      rw [hco]
      refine ⟨rfl, _, rfl, iteF ?_⟩
  case' pos =>
    have q : ∀ H', Ta [p] H H' → SheetAt K H' p (renP ps n o) (N + 1) → Q .non H' := by
      rw [if_neg (fun z => z.1 ho)] at q
      exact q
    refine ⟨_, rfl, _, rfl, rfl, _, rfl, ?_⟩
    rw [dec_strS, decide_eq_true ho]
    refine iteF (iteF ?_)
  all_goals
    refine ⟨Nat.zero_le _, fun l nl => ?_⟩
    have s2 : Same H (upd H1 l (.lst [])) := s1.new nl _
    have sh2 := sh.same s2
    obtain ⟨dx2, st2, en2, xs2, k2, a2, es2, g2, _⟩ := id sh2
    have nlH : H l = none := s1.free nl
    refine ⟨_, rfl, p, dx2, _, rfl, g2, rfl, H1, p, ps, N, rfl, sh1, same_new nl _, fun b hb => ?_⟩
    obtain ⟨ys, b1, b2⟩ := id hb
    have gb1 := (mi_some b1).1
    have nbl : b ≠ l := ne_of_none gb1 nl
    have gb : upd H1 l (.lst []) b = some (.lst ys) := by rw [upd_ne nbl]; exact gb1
    have b2' : ArePs (mi (l :: [p]) (upd H1 l (.lst []))) ys ps := b2.same (carry (same_new nl _) nl)
    have av2 : Av (l :: [p]) (upd H1 l (.lst [])) := sh2.av.cons upd_same
    have npl : p ≠ l := fun e => sh1.av p (by simp) (by rw [e]; exact nl)
    refine ⟨b, rfl, ⟨_, SqL.of gb⟩, for_list (K := K) (a := b) (xs := ys) (fun i σ H' => ∃ z1 z2 zs, σ = [some (.ref p), some (.str n), some (.str o), some (.ref l), z1, z2] ∧ Ta [l] (upd H1 l (.lst [])) H' ∧ H' l = some (.lst zs) ∧ ArePs (mi (l :: [p]) H') zs (renP (ps.take i) n o))
      ⟨none, none, [], rfl, Ta.refl _ _, upd_same, .nil⟩ (fun i σ H' _ ⟨_, _, _, _, h, _⟩ => SqL.of (h _ _ (by simpa using nbl) gb)) ?_ ?_⟩
    · rintro i x σ H' hi ⟨z1, z2, zs, rfl, t3, eL, ar⟩
      obtain ⟨⟨m, c1⟩, hp, a3, v1, rfl, e1, e2⟩ := paired_get b2' hi
      have ml : ∀ y, y ∈ [l] → y ∈ l :: [p] := fun y hy => by
        rw [List.mem_singleton.mp hy]
        exact List.mem_cons_self
      have m3 := t3.mi ml
      have e1' := m3 _ _ e1
      have e2' := e2.same m3
      have hc1 : c1.depth ≤ 2 := (G.cnd _ (List.mem_of_getElem? hp)).dep
      have av3 : Av (l :: [p]) H' := av2.ta t3 (fun y hy => by rw [List.mem_singleton.mp hy, eL]; exact fun z => by cases z)
      refine ⟨a3, _, rfl, SqT.of (mi_some e1').1, rfl, _, _, rfl, _, _, rfl, rfl, ?_⟩
      refine ⟨_, rfl, .inl ⟨rfl, _, SqL.of eL⟩, _, rfl, _, rfl, rfl, _, rfl, ?_⟩
      have e0 : (if m = n then o else m) = if decide (V.str m = V.str n) = true then o else m := by
        rw [dec_strS]
        by_cases z : m = n
        · rw [if_pos z, if_pos (decide_eq_true z)]
        · rw [if_neg z, if_neg (fun h => z (of_decide_eq_true h))]
      refine ite2 (fun z => ?_) (fun z => ?_)
      case' refine_1 =>
        rw [if_pos z] at e0
        let nw : Str := o
      case' refine_2 =>
        rw [if_neg z] at e0
        let nw : Str := m
      all_goals
        refine ⟨_, rfl, _, rfl, fun d nd => ?_⟩
        have s4 : Same H' (upd H' d (.dK [])) := same_new nd _
        refine ⟨_, rfl, _, rfl, by show 2 ≤ sizeLine; decide, fun t nt => ?_⟩
        have ndt : d ≠ t := ne_of_none upd_same nt
        have s5 : Same H' (upd (upd H' d (.dK [])) t (.tup [.str "use", .str o])) := s4.new nt _
        refine ⟨by rw [upd_ne ndt]; exact upd_same, [(Sum.inr n, .ref t)], rfl, by show 1 ≤ 15; decide, ?_⟩
        have s6 : Same H' (upd (upd (upd H' d (.dK [])) t (.tup [.str "use", .str o])) d (.dK (mergeK [] [(Sum.inr n, .ref t)]))) := s5.put nd _
        have ht : mi (l :: [p]) (upd (upd (upd H' d (.dK [])) t (.tup [.str "use", .str o])) d (.dK (mergeK [] [(Sum.inr n, .ref t)]))) t = some (.tup [.str "use", .str o]) := by
          rw [mi_in ((av3.same s4).out nt), upd_ne ndt.symm]
          exact upd_same
        refine ⟨l :: [p], v1, c1, d, [(Sum.inr n, .ref t)], ren n o, rfl, av3.same s6, e2'.same (mi_same s6), upd_same, fillR_ren ht, hc1, fun v' H7 s7 hv' => ?_⟩
        refine ⟨by show 2 ≤ sizeLine; decide, fun t2 nt2 => ?_⟩
        have s8 : Same H7 (upd H7 t2 (.tup [.str nw, v'])) := same_new nt2 _
        have s08 := (s6.trans s7).trans s8
        refine ⟨l, zs, _, rfl, rfl, s08 _ _ eL, ?_, ?_⟩
        · have := paired_len ar
          rw [renP, List.length_map, List.length_take] at this
          exact big_line' (by omega)
        · have t9 : Ta [l] H' (upd (upd H7 t2 (.tup [.str nw, v'])) l (.lst (zs ++ [.ref t2]))) := (s08.ta _).trans (ta_put (by simp) _)
          refine ⟨_, _, _, rfl, t3.trans t9, upd_same, ?_⟩
          rw [take_more hp]
          have e9 : renP (ps.take i ++ [(m, c1)]) n o = renP (ps.take i) n o ++ [(if m = n then o else m, Cnd.fill (ren n o) c1)] := by
            rw [renP, List.map_append]
            rfl
          rw [e9, e0]
          have up : Same (mi (l :: [p]) (upd H7 t2 (.tup [.str nw, v']))) (mi (l :: [p]) (upd (upd H7 t2 (.tup [.str nw, v'])) l (.lst (zs ++ [.ref t2])))) := (ta_put (M := [l]) (by simp) _).mi ml
          refine paired_app (ar.same (t9.mi ml)) (.cons ⟨t2, v', rfl, up _ _ (mi_new ((av3.same s6).same s7) nt2), (hv'.same (mi_same s8)).same up⟩ .nil)
    · rintro σ H' ⟨z1, z2, zs, rfl, t3, eL, ar⟩
      rw [paired_len b2, List.take_length] at ar
      have sH' : Same H H' := fun y u hy => by
        have n1 : y ≠ l := ne_of_none hy nlH
        exact t3 _ _ (by simpa using n1) (by rw [upd_ne n1]; exact s1 _ _ hy)
      have sh3 := sh.same sH'
      obtain ⟨dx3, st3, en3, xs3, k3, a3, es3, g3, _⟩ := id sh3
      refine ⟨_, rfl, p, dx3, _, rfl, g3, rfl, _, rfl, _, rfl, _, rfl, by show 3 ≤ sizeLine; decide, fun t nt => ?_⟩
      have s4 := same_new nt (.tup [.str "rename", .str n, .str o])
      refine ⟨p, l, _, ps, _, N, rfl, sh3.same s4, ⟨zs, mi_at (by simpa using npl.symm) (s4 _ _ eL), (ArePs.same (mi_sub _ fun _ => List.mem_cons_of_mem _) ar).same (mi_same s4)⟩, hN, fun H10 t10 sh10 => ?_⟩
      exact q _ (((sH'.trans s4).ta _).trans t10) sh10
end
end Sh
set_option Elab.async false
set_option linter.all false
set_option maxRecDepth 100000
set_option maxHeartbeats 4000000
namespace Sh
open PySem PySem.Spec PyProof.Rows L2 StX
section
variable {P : Program} {w : World} {K : PySem.W.Frag} {mg : Str → Option Value} {base : Heap}
theorem sql_same {K : PySem.W.Frag} {H H' : Hp} {a : Addr} {xs : List V} (e : Same H H') (h : SqL K H a xs) : SqL K H' a xs :=
  h.elim (fun h => .inl (h.elim (fun h => .inl (e _ _ h)) fun ⟨o, h⟩ => .inr ⟨o, e _ _ h⟩)) fun h => .inr h
/-! ### _law_draws -/
def Drw (ds : List Int) : Prop := ∀ d ∈ ds, 0 ≤ d ∧ d < 1000
def spDraws : Sp := fun vs H Q _ => ∃ (a : Addr) (ns : List Int), vs = [.ref a, .int 400] ∧ SqL K H a (ns.map V.int) ∧ ns.length ≤ 1000 ∧ ∀ (l : Addr) (ds : List Int) H', Same H H' → H l = none → H' l = some (.lst (ds.map V.int)) → ds.length = 400 → Drw ds → Q (.ref l) H'
theorem at_ints {ns : List Int} {j : Nat} (h : j < ns.length) : atI (ns.map V.int) ((j : Nat) : Int) = some (.int ns[j]) := atI_nat (by rw [List.getElem?_map, List.getElem?_eq_getElem h]; rfl)
theorem mod1000 (x : Int) : 0 ≤ x % 1000 ∧ x % 1000 < 1000 := by omega
theorem sc_law_draws : FnScope ["_law_script", "_law_count", "_law_rests", "_law_draws_here", "_law_k", "_law_value", "_law_at", "_law_mixed", "_law_cell"] ["_law_script", "_law_count"] (defScope s__law_draws) := ⟨rfl, rfl, rfl, by decide +kernel, rfl, by decide +kernel, by decide +kernel⟩
theorem ok_draws (T : Txt w K mg) : Fn P w K mg base 1 (He.ga K "_law_draws") (spDraws (K := K)) := by
  refine mkN T.F_law_draws sc_law_draws (fun vs H Q E h => ?_) (fun _ _ _ _ _ _ us hl => match us, hl with | [_, _], _ => rfl) (fun cdv A outer s H vs Q E hr h => ?_)
  · obtain ⟨a, ns, rfl, _⟩ := h
    rfl
  obtain ⟨a, ns, rfl, ha, hn, q⟩ := h
  refine ⟨_, (pss_cons (ps_setLc (i := 2) (own := [("_law_cell", 8)]) (g := gName 8) (tt := tYes) rfl sc_law_draws.nd rfl rfl (sw_true rfl rfl rfl (by decide +kernel)) (pil K (pv 0)) (blkOk_by (N := ["_law_script", "_law_count", "_law_rests", "_law_draws_here", "_law_k", "_law_value", "_law_at", "_law_mixed", "_law_cell"]) (sc := defScope s__law_draws) (by decide +kernel)) (fun _ _ _ _ _ => (pg_name (i := 8) sc_law_draws.nd rfl (Or.inl rfl))) (fun _ _ _ _ _ => pts_nil) (fun _ _ _ _ _ => (pv 8)))
      (pss_cons (ps_set (i := 3) sc_law_draws.nd rfl (Or.inl rfl) (pe_lst pa_nil))
      (pss_cons (ps_for PassesOwn.never rfl (pi_range1 rfl T.b_range (pa_cons (pv 1) pa_nil)) (pg_name (i := 4) sc_law_draws.nd rfl (Or.inl rfl)) (pss_cons (ps_set (i := 5) sc_law_draws.nd rfl (Or.inl rfl) pe_int)
      (pss_cons (ps_if (pt_cmpR op_gt (pe_callB (lenq K) rfl T.b_len PySem.boot_len (pa_cons (pv 2) pa_nil)) pe_int (nomark _)) (pss_cons (ps_set (i := 6) sc_law_draws.nd rfl (Or.inl rfl) (pe_op op_mod (pe_callTy call_int1 rfl T.b_int (by decide +kernel) (pa_cons (pv 4) pa_nil)) (pe_callB (lenq K) rfl T.b_len PySem.boot_len (pa_cons (pv 2) pa_nil))))
      (pss_one (ps_if (pt_cmpR op_ge (pe_ix (ixl K) (pv 2) (pv 6) (fun _ _ => rfl)) (pe_op op_pow pe_int pe_int) (nomark _)) (pss_cons (ps_set (i := 5) sc_law_draws.nd rfl (Or.inl rfl) (pe_op op_mod (pe_callTy call_int1 rfl T.b_int (by decide +kernel) (pa_cons (pe_ix (ixl K) (pv 2) (pv 6) (fun _ _ => rfl)) pa_nil)) pe_int))
      (pss_one (ps_asg (pe_op op_fdiv (pe_ix (ixl K) (pv 2) (pv 6) (fun _ _ => rfl)) pe_int) (pg_sub (pv 2) (pv 6) set_list)))) (pss_cons (ps_set (i := 7) sc_law_draws.nd rfl (Or.inl rfl) (pe_op op_mod (pe_callTy call_int1 rfl T.b_int (by decide +kernel) (pa_cons (pe_op op_add (pe_op op_add (pe_op op_mul (pe_ix (ixl K) (pv 2) (pv 6) (fun _ _ => rfl)) pe_int) (pe_op op_mul (pv 4) pe_int)) pe_int) pa_nil)) pe_int))
      (pss_cons (ps_set (i := 7) sc_law_draws.nd rfl (Or.inl rfl) (pe_op op_mod (pe_callTy call_int1 rfl T.b_int (by decide +kernel) (pa_cons (pe_op op_add (pe_op op_mul (pv 7) pe_int) (pv 6)) pa_nil)) pe_int))
      (pss_one (ps_set (i := 5) sc_law_draws.nd rfl (Or.inl rfl) (pe_op op_mod (pe_callTy call_int1 rfl T.b_int (by decide +kernel) (pa_cons (pe_op op_fdiv (pv 7) pe_int) pa_nil)) pe_int)))))))) pss_nil)
      (pss_one (ps_expr (pe_bm PySem.F.plainAttrs_list PySem.F.slot_list_append PySem.F.type_list_append mt_append (pv 3) (pa_cons (pv 5) pa_nil)))))))
      (pss_one (ps_ret (pv 3)))))), ?_⟩
  refine ⟨_, rfl, a, rfl, ⟨_, ha⟩, fun D nD => ?_⟩
  refine lc_list (K := K) (a := a) (xs := ns.map V.int) (fun i H' => Same H H' ∧ H' D = some (.lst ((ns.take i).map V.int)))
    ⟨same_new nD _, upd_same⟩ (fun i H' _ h => sql_same h.1 ha) ?_ ?_
  · rintro i x H' hi ⟨s1, eD⟩
    rw [List.getElem?_map] at hi
    cases hu : ns[i]? with
    | none => rw [hu] at hi; cases hi
    | some u =>
      rw [hu] at hi
      cases hi
      refine ⟨rfl, ?_⟩
      refine ⟨_, rfl, _, eD, ?_, s1.put nD _, ?_⟩
      · rw [List.length_map, List.length_take]
        exact big_line' (by omega)
      · rw [upd_same, take_more hu, List.map_append]
        rfl
  rintro H1 ⟨s1, eD⟩
  rw [List.length_map, List.take_length] at eD
  refine ⟨Nat.zero_le _, fun l nl => ?_⟩
  have nDl : D ≠ l := ne_of_none eD nl
  have nlH : H l = none := s1.free nl
  refine ⟨_, rfl, 400, rfl, by decide, by decide, for_range (n := 400) (fun i σ H' => ∃ z1 z2 z3 z4 rs ds, σ = [some (.ref a), some (.int 400), some (.ref D), some (.ref l), z1, z2, z3, z4, none] ∧ Same H H' ∧ H' D = some (.lst (rs.map V.int)) ∧ rs.length = ns.length ∧ H' l = some (.lst (ds.map V.int)) ∧ ds.length = i ∧ Drw ds)
    ⟨none, none, none, none, ns, [], rfl, s1.new nl _, by rw [upd_ne nDl]; exact eD, rfl, upd_same, rfl, fun _ h => by cases h⟩ ?_ ?_⟩
  · rintro i σ H' hi ⟨z1, z2, z3, z4, rs, ds, rfl, s2, er, rl, el, dl, dd⟩
    have fin : ∀ (H2 : Hp) (rs2 : List Int) (x : Int), Same H H2 → H2 D = some (.lst (rs2.map V.int)) → rs2.length = ns.length → H2 l = some (.lst (ds.map V.int)) → 0 ≤ x ∧ x < 1000 → 
        Same H (upd H2 l (.lst (ds.map V.int ++ [.int x]))) ∧ upd H2 l (.lst (ds.map V.int ++ [.int x])) D = some (.lst (rs2.map V.int)) ∧ rs2.length = ns.length ∧ upd H2 l (.lst (ds.map V.int ++ [.int x])) l = some (.lst ((ds ++ [x]).map V.int)) ∧ (ds ++ [x]).length = i + 1 ∧ Drw (ds ++ [x]) := fun H2 rs2 x f1 f2 f3 f4 f5 => by
      refine ⟨f1.put nlH _, by rw [upd_ne nDl]; exact f2, f3, by rw [upd_same, List.map_append]; rfl, by rw [List.length_append, dl]; rfl, fun d hd => ?_⟩
      rcases List.mem_append.mp hd with h | h
      · exact dd d h
      · rw [List.mem_singleton.mp h]; exact f5
    have lz : (ds.map V.int).length < sizeLine := by rw [List.length_map]; exact big_line' (by omega)
    refine ⟨_, rfl, D, _, rfl, .inl (SqL.of er), _, _, rfl, rfl, _, rfl, ite2 (fun z => ?_) (fun z => ?_)⟩
    · have z := of_decide_eq_true z
      rw [List.length_map] at z
      have zp : 0 < rs.length := by omega
      refine ⟨_, rfl, .inl ⟨_, rfl, _, rfl, D, _, rfl, .inl (SqL.of er), _, _, rfl, rfl, by rw [List.length_map]; omega, ?_⟩⟩
      obtain ⟨j, hj, ej⟩ : ∃ j : Nat, j < rs.length ∧ ((0 : Int) + (i : Int)) % (((rs.map V.int).length : Nat) : Int) = (j : Int) := ⟨i % rs.length, Nat.mod_lt _ zp, by rw [List.length_map, Int.zero_add]; rfl⟩
      show gName 6 (.int (((0 : Int) + (i : Int)) % (((rs.map V.int).length : Nat) : Int))) _ _ _
      rw [ej]
      refine ⟨_, rfl, _, rfl, D, _, _, _, rfl, rfl, SqL.of er, at_ints hj, _, _, rfl, rfl, ⟨by decide, by decide, by decide⟩, _, _, rfl, rfl, _, rfl, ite2 (fun g => ?_) (fun g => ?_)⟩
      · refine ⟨_, rfl, _, rfl, D, _, _, _, rfl, rfl, SqL.of er, at_ints hj, .inl ⟨_, rfl, _, _, rfl, rfl, by show (0 : Int) < 1000; decide, ?_⟩⟩
        refine ⟨_, rfl, _, rfl, D, _, _, _, rfl, rfl, SqL.of er, at_ints hj, _, _, rfl, rfl, ⟨by decide, by decide⟩, ?_⟩
        have ez : (rs.map V.int).set j (.int (rs[j] / 1000)) = (rs.set j (rs[j] / 1000)).map V.int := by rw [List.map_set]
        refine ⟨_, rfl, _, rfl, D, _, _, j, rfl, rfl, er, ?_, ?_⟩
        · unfold ixN
          rw [List.length_map, if_pos (by omega), if_pos (by omega)]
          rfl
        rw [ez]
        refine ⟨_, rfl, .inl ⟨rfl, _, SqL.of (by rw [upd_ne nDl.symm]; exact el)⟩, _, rfl, l, _, _, rfl, rfl, by rw [upd_ne nDl.symm]; exact el, lz, ?_⟩
        exact ⟨_, _, _, _, _, _, rfl, fin _ _ _ (s2.put nD _) upd_same (by rw [List.length_set]; exact rl) (by rw [upd_ne nDl.symm]; exact el) (mod1000 _)⟩
      · refine ⟨_, rfl, _, rfl, D, _, _, _, rfl, rfl, SqL.of er, at_ints hj, _, _, rfl, rfl, .inr ⟨by decide, by decide⟩, ?_⟩
        refine ⟨_, rfl, _, _, rfl, rfl, .inr ⟨by decide, by decide⟩, _, _, rfl, rfl, _, _, rfl, rfl, .inl ⟨_, rfl, _, _, rfl, rfl, by show (0 : Int) < 2147483647; decide, ?_⟩⟩
        refine ⟨_, rfl, _, _, rfl, rfl, .inr ⟨by decide, by decide⟩, _, rfl, _, _, rfl, rfl, .inl ⟨_, rfl, _, _, rfl, rfl, by show (0 : Int) < 2147483629; decide, ?_⟩⟩
        refine ⟨_, rfl, _, _, rfl, rfl, ⟨by decide, by decide⟩, .inl ⟨_, rfl, _, _, rfl, rfl, by show (0 : Int) < 1000; decide, ?_⟩⟩
        refine ⟨_, rfl, .inl ⟨rfl, _, SqL.of el⟩, _, rfl, l, _, _, rfl, rfl, el, lz, ?_⟩
        exact ⟨_, _, _, _, _, _, rfl, fin _ _ _ s2 er rl el (mod1000 _)⟩
    · refine ⟨_, rfl, .inl ⟨rfl, _, SqL.of el⟩, _, rfl, l, _, _, rfl, rfl, el, lz, ?_⟩
      exact ⟨_, _, _, _, _, _, rfl, fin _ _ _ s2 er rl el ⟨by decide, by decide⟩⟩
  · rintro σ H' ⟨z1, z2, z3, z4, rs, ds, rfl, s2, er, rl, el, dl, dd⟩
    exact ⟨_, rfl, q l ds H' s2 nlH el dl dd⟩
/-! ### _law_take -/
def spTake : Sp := fun vs H Q _ => ∃ (d : Addr) (ds : List Int), vs = [.ref d] ∧ H d = some (.lst (ds.map V.int)) ∧ Drw ds ∧ ∀ x ds' H', Ta [d] H H' → H' d = some (.lst (ds'.map V.int)) → Drw ds' → 0 ≤ x ∧ x < 1000 → Q (.int x) H'
theorem sc_law_take : FnScope ["_law_draws_here"] ["_law_draws_here"] (defScope s__law_take) := ⟨rfl, rfl, rfl, by decide +kernel, rfl, by decide +kernel, by decide +kernel⟩
theorem ok_take (T : Txt w K mg) : Fn P w K mg base 1 (He.ga K "_law_take") spTake := by
  refine mkN T.F_law_take sc_law_take (fun vs H Q E h => ?_) (fun _ _ _ _ _ _ us hl => match us, hl with | [_], _ => rfl) (fun cdv A outer s H vs Q E hr h => ?_)
  · obtain ⟨d, ds, rfl, _⟩ := h
    rfl
  obtain ⟨d, ds, rfl, hd, dd, q⟩ := h
  refine ⟨_, (pss_cons (ps_if (pt_cmpR op_eq (pe_callB (lenq K) rfl T.b_len PySem.boot_len (pa_cons (pv 0) pa_nil)) pe_int (nomark _)) (pss_one (ps_ret pe_int)) pss_nil)
      (pss_one (ps_ret (pe_bm0 PySem.F.plainAttrs_list PySem.F.slot_list_pop PySem.F.type_list_pop mt_pop (pv 0))))), ?_⟩
  refine ⟨_, rfl, d, _, rfl, .inl (SqL.of hd), rfl, _, rfl, ite2 (fun z => ?_) (fun z => ?_)⟩
  · exact q 0 ds _ (Ta.refl _ _) hd dd ⟨by decide, by decide⟩
  · obtain ⟨ys, x, ep⟩ : ∃ ys x, ds = ys ++ [x] := by
      cases h0 : ds with
      | nil => exact absurd (by rw [h0]; rfl) z
      | cons y l => exact ⟨(y :: l).dropLast, (y :: l).getLast (by simp), (List.dropLast_concat_getLast _).symm⟩
    subst ep
    have e1 : (ys ++ [x]).map V.int = ys.map V.int ++ [.int x] := by rw [List.map_append]; rfl
    rw [e1] at hd
    refine ⟨_, rfl, .inl ⟨rfl, _, SqL.of hd⟩, d, _, .int x, rfl, rfl, hd, ?_, ?_⟩
    · rw [List.length_append, List.length_singleton, Nat.add_sub_cancel, List.getElem?_append_right (Nat.le_refl _), Nat.sub_self]
      rfl
    · refine q x ys _ (ta_put (by simp) _) (by rw [upd_same, List.dropLast_concat]) (fun y hy => dd y (List.mem_append_left _ hy)) (dd x (by simp))
end
end Sh
set_option Elab.async false
set_option linter.all false
set_option maxRecDepth 100000
set_option maxHeartbeats 4000000
namespace Sh
open PySem PySem.Spec PyProof.Rows L2 StX
section
variable {P : Program} {w : World} {K : PySem.W.Frag} {mg : Str → Option Value} {base : Heap}
/-! ### _law_leaves -/
theorem eqV_comm_s (x y : Str) : eqV (.str x) (.str y) = decide (x = y) := by rw [← dec_strS, dec_str]; rfl
theorem in3 (c : C) : inV (.str (tag c)) [.str "sign", .str "some", .str "use"] = c.leaf := by
  have e : inV (.str (tag c)) [.str "sign", .str "some", .str "use"] = (eqV (.str "sign") (.str (tag c)) || (eqV (.str "some") (.str (tag c)) || (eqV (.str "use") (.str (tag c)) || false))) := rfl
  rw [e, eqV_comm_s, eqV_comm_s, eqV_comm_s]
  cases c with
  | sg p s => rfl
  | sm p q s => rfl
  | us n => rfl
  | nt c => rfl
  | bn o a b => cases o <;> rfl
theorem in3' {H : Hp} {K : PySem.W.Frag} (c : C) : (if false = true then !inV (.str (tag c)) [.str "sign", .str "some", .str "use"] else inV (.str (tag c)) [.str "sign", .str "some", .str "use"]) = c.leaf := in3 c
theorem sc_law_leaves : FnScope ["_law_condition_here", "_law_found_here", "_law_part"] ["_law_condition_here"] (defScope s__law_leaves) := ⟨rfl, rfl, rfl, by decide +kernel, rfl, by decide +kernel, by decide +kernel⟩
theorem ok_lleaves_step (T : Txt w K mg) {d j : Nat} (G : d = 0 ∨ Fn P w K mg base j (He.ga K "_law_leaves") (spLeaves (d - 1))) : Fn P w K mg base (j + 1) (He.ga K "_law_leaves") (spLeaves d) := by
  have G_law_leaves : Fn P w K mg base j (He.ga K "_law_leaves") (fun vs H Q E => 0 < d ∧ spLeaves (d - 1) vs H Q E) := by
    rcases G with e | G
    · intro A outer s H us vs Q E _ _ _ hs
      exact absurd hs.1 (by omega)
    · exact G.imp fun vs H Q E h => h.2
  refine mkN T.F_law_leaves sc_law_leaves (fun vs H Q E h => ?_) (fun _ _ _ _ _ _ us hl => match us, hl with | [_], _ => rfl) (fun cdv A outer s H vs Q E hr h => ?_)
  · obtain ⟨M, v, c, rfl, _⟩ := h
    rfl
  obtain ⟨M, v, c, rfl, av, hc, hd, hl, q⟩ := h
  have hcH : IsC H v c := hc.same (mi_le M H)
  refine ⟨_, (pss_cons (ps_if (pt_cmpR (inq K) (pe_ix (ixt K) (pv 0) pe_int (fun _ _ => rfl)) (pe_lst (pa_cons pe_str (pa_cons pe_str (pa_cons pe_str pa_nil)))) rfl) (pss_one (ps_ret (pe_lst (pa_cons (pv 0) pa_nil)))) pss_nil)
      (pss_cons (ps_set (i := 1) sc_law_leaves.nd rfl (Or.inl rfl) (pe_lst pa_nil))
      (pss_cons (ps_for PassesOwn.never rfl (pit K (pe_slice (slt K) (pv 0) (po_some pe_int) po_none)) (pg_name (i := 2) sc_law_leaves.nd rfl (Or.inl rfl)) (pss_one (ps_set (i := 1) sc_law_leaves.nd rfl (Or.inl rfl) (pe_op op_cat (pv 1) (pe_callR G_law_leaves (hr.mono (by omega)) T.g_law_leaves (kp T.F_law_leaves) passL (pa_cons (pv 2) pa_nil))))))
      (pss_one (ps_ret (pv 1)))))), ?_⟩
  obtain ⟨a, xs, rfl, ha⟩ := hcH.tup
  refine ⟨_, rfl, a, _, 0, _, rfl, rfl, SqT.of ha, at0 _ _, by show 3 ≤ sizeLine; decide, fun t0 nt0 => ?_⟩
  have s0 : Same H (upd H t0 (.lst [.str "sign", .str "some", .str "use"])) := same_new nt0 _
  refine ⟨t0, _, rfl, .inl (SqL.of upd_same), rfl, rfl, _, rfl, ?_⟩
  show if inV (.str (tag c)) [.str "sign", .str "some", .str "use"] = true then _ else _
  rw [in3]
  refine ite2 (fun e => ?_) (fun e => ?_)
  · refine ⟨_, rfl, by show 1 ≤ sizeLine; decide, fun p hp => ?_⟩
    refine q p _ _ (s0.new hp _) (s0.free hp) upd_same ?_
    rw [Cnd.leaves_leaf e]
    exact .cons (hc.same (carry (s0.new hp _) (s0.free hp))) .nil
  · have nl : c.leaf = false := Bool.eq_false_iff.mpr e
    obtain ⟨a', xs', ea, ha', hp⟩ := hc.node nl
    cases ea
    have ha2 := (mi_some ha').1
    rw [ha] at ha2
    cases ha2
    refine ⟨Nat.zero_le _, fun l nl' => ?_⟩
    have s1 := s0.new nl' (.lst [])
    refine ⟨_, rfl, 1, rfl, a, _, rfl, SqT.of (s1 _ _ ha), cut1_ne _ _, fun p np => ?_⟩
    rw [cut1]
    have s2 := s1.new np (.tup xs)
    have npl : l ≠ p := ne_of_none upd_same np
    refine ⟨p, rfl, ⟨_, SqT.of upd_same⟩, for_tup (K := K) (a := p) (xs := xs) (fun i σ H' => ∃ z ys l', σ = [some (.ref a), some (.ref l'), z] ∧ Same H H' ∧ H' p = some (.tup xs) ∧ H l' = none ∧ H' l' = some (.lst ys) ∧
      AreC (mi (l' :: M) H') ys ((c.parts.take i).flatMap Cnd.leaves)) ⟨none, [], l, rfl, s2, upd_same, s0.free nl', by rw [upd_ne npl]; exact upd_same, .nil⟩ (fun i σ H' _ ⟨_, _, _, _, _, h, _⟩ => SqT.of h) ?_ ?_⟩
    · rintro i x σ H' hi ⟨z, ys, l', rfl, sH, hp', nlH, hl', ar⟩
      obtain ⟨pc, hpc, hx⟩ := paired_get hp hi
      have hm := List.mem_of_getElem? hpc
      have hdp := Cnd.parts_depth hm
      have av' : Av (l' :: M) H' := (av.same sH).cons hl'
      have hx' : IsC (mi (l' :: M) H') x pc := hx.same (carry sH nlH)
      refine ⟨_, rfl, _, rfl, ?_⟩
      refine ⟨by omega, l' :: M, x, pc, rfl, av', hx', by omega, Nat.le_trans (Cnd.part_leaves_len hm) hl, fun l2 xs2 H2 s3 n2 e2 ar2 => ?_⟩
      have hl2 := s3 _ _ hl'
      have tk := take_more hpc
      have sz : ys.length + xs2.length ≤ sizeLine := by
        have e1 := paired_len ar
        have e3 := paired_len ar2
        have z1 : ((c.parts.take (i + 1)).flatMap Cnd.leaves).length ≤ c.leaves.length := by
          rw [Cnd.leaves_node nl]
          exact flat_take _ _ _
        rw [tk, List.flatMap_append, List.length_append] at z1
        have z2 : ([pc].flatMap Cnd.leaves).length = pc.leaves.length := by simp
        rw [z2] at z1
        exact big_line (by omega)
      refine ⟨l', l2, ys, xs2, rfl, rfl, hl2, e2, sz, fun l3 n3 => ?_⟩
      have s4 : Same H (upd H2 l3 (.lst (ys ++ xs2))) := (sH.trans s3).new n3 _
      refine ⟨_, _, l3, rfl, s4, ?_, (sH.trans s3).free n3, upd_same, ?_⟩
      · exact (same_new n3 _) _ _ (s3 _ _ hp')
      · rw [tk, List.flatMap_append]
        have out : ∀ b, b ∈ l3 :: M → H2 b = none ∨ b ∈ M := fun b hb => by
          rcases List.mem_cons.mp hb with h | h
          · rw [h]; exact .inl n3
          · exact .inr h
        have m1 : Same (mi (l' :: M) H2) (mi (l3 :: M) (upd H2 l3 (.lst (ys ++ xs2)))) := (mi_sub _ fun _ => List.mem_cons_of_mem _).trans (carry (same_new n3 _) n3)
        have m2 : Same (mi (l2 :: l' :: M) H2) (mi (l3 :: M) (upd H2 l3 (.lst (ys ++ xs2)))) := (mi_sub _ fun _ h => List.mem_cons_of_mem _ (List.mem_cons_of_mem _ h)).trans (carry (same_new n3 _) n3)
        refine paired_app ((ar.same (mi_same s3)).same m1) ?_
        have e3 : [pc].flatMap Cnd.leaves = pc.leaves := by simp
        rw [e3]
        exact ar2.same m2
    · rintro σ H' ⟨z, ys, l', rfl, sH, hp', nlH, hl', ar⟩
      refine ⟨_, rfl, q l' ys H' sH nlH hl' ?_⟩
      rw [Cnd.leaves_node nl, ← List.take_length (l := c.parts), ← paired_len hp]
      exact ar
theorem ok_lleaves (T : Txt w K mg) : ∀ d, Fn P w K mg base (d + 1) (He.ga K "_law_leaves") (spLeaves d)
  | 0 => ok_lleaves_step T (.inl rfl)
  | d + 1 => ok_lleaves_step T (.inr (ok_lleaves T d))
/-! ### _law_used -/
theorem sc_law_used : FnScope ["_law_condition_here", "_law_leaf"] ["_law_condition_here"] (defScope s__law_used) := ⟨rfl, rfl, rfl, by decide +kernel, rfl, by decide +kernel, by decide +kernel⟩
theorem ok_lused (T : Txt w K mg) (d : Nat) : Fn P w K mg base (d + 2) (He.ga K "_law_used") (spUsed d) := by
  have G_law_leaves : Fn P w K mg base (d + 1) (He.ga K "_law_leaves") (spLeaves d) := ok_lleaves T d
  refine mkN T.F_law_used sc_law_used (fun vs H Q E h => ?_) (fun _ _ _ _ _ _ us hl => match us, hl with | [_], _ => rfl) (fun cdv A outer s H vs Q E hr h => ?_)
  · obtain ⟨M, v, c, rfl, _⟩ := h
    rfl
  obtain ⟨M, v, c, rfl, av, hc, hd, hl, q⟩ := h
  refine ⟨_, (pss_one (ps_ret (pe_lc (own := [("_law_leaf", 1)]) (g := gName 1) (tt := _) rfl sc_law_used.nd (pil K (pe_callR G_law_leaves (hr.mono (by omega)) T.g_law_leaves (kp T.F_law_leaves) passL (pa_cons (pv 0) pa_nil))) (blkOk_by (N := ["_law_condition_here", "_law_leaf"]) (sc := defScope s__law_used) (by decide +kernel)) (fun _ _ _ _ _ => (pg_name (i := 1) sc_law_used.nd rfl (Or.inl rfl))) (fun _ _ _ _ _ => (pts_one (pt_cmpR op_eq (pe_ix (ixt K) (pv 1) pe_int (fun _ _ => rfl)) pe_str (nomark _)))) (fun _ _ _ _ _ => (pe_ix (ixt K) (pv 1) pe_int (fun _ _ => rfl)))))), ?_⟩
  refine ⟨_, rfl, M, v, c, rfl, av, hc, hd, hl, fun l xs H1 s1 n1 e1 ar => ⟨l, rfl, ⟨_, SqL.of e1⟩, fun D nD => ?_⟩⟩
  have HD : H D = none := s1.free nD
  refine lc_list (K := K) (a := l) (xs := xs) (fun i H' => Same H1 H' ∧ H' D = some (.lst (((c.leaves.take i).filterMap Cnd.us?).map V.str)))
    ⟨same_new nD _, upd_same⟩ (fun i H' _ h => SqL.of (h.1 _ _ e1)) ?_ ?_
  · rintro i x H' hi ⟨s2, eD⟩
    obtain ⟨lc, hlc, hx⟩ := paired_get ar hi
    have hxH : IsC H' x lc := (hx.same (mi_le _ _)).same s2
    obtain ⟨a, ys, rfl, ha⟩ := hxH.tup
    refine ⟨rfl, ?_⟩
    refine ⟨_, rfl, a, _, 0, _, rfl, rfl, SqT.of ha, at0 _ _, rfl, _, rfl, ?_⟩
    have tk := used_take_us hlc
    refine ite2 (fun e => ?_) (fun e => ?_)
    · rw [tag_us] at e
      obtain ⟨n, rfl⟩ := isUs_shape e
      obtain ⟨a', ea, ha2⟩ := hxH
      cases ea
      refine ⟨_, rfl, a, _, 1, _, rfl, rfl, SqT.of ha2, at1 _ _ _, _, eD, ?_, ?_⟩
      · refine big_line' ?_
        rw [List.length_map]
        have z1 := List.length_filterMap_le Cnd.us? (c.leaves.take i)
        rw [List.length_take] at z1
        omega
      · refine ⟨s2.put nD _, ?_⟩
        rw [upd_same, tk, List.map_append]
        rfl
    · rw [tag_us] at e
      refine ⟨s2, ?_⟩
      have z : lc.us? = none := by
        cases y : lc.us? with
        | none => rfl
        | some n => exact absurd (by rw [isUs, y]; rfl) e
      rw [eD, tk, z, List.append_nil]
  · rintro H' ⟨s2, eD⟩
    refine q D H' (s1.trans s2) HD ?_
    rw [eD]
    have z := paired_len ar
    rw [z, List.take_length]
    rfl
/-! ### _law_depth -/
def spLDepth (d : Nat) : Sp := fun vs H Q _ => ∃ v c, vs = [v] ∧ IsC H v c ∧ c.depth ≤ d ∧ ∀ H', Same H H' → Q (.int c.depth) H'
theorem sc_law_depth : FnScope ["_law_condition_here", "_law_part"] ["_law_condition_here"] (defScope s__law_depth) := ⟨rfl, rfl, rfl, by decide +kernel, rfl, by decide +kernel, by decide +kernel⟩
theorem ok_ldepth_step (T : Txt w K mg) {d j : Nat} (G : d = 0 ∨ Fn P w K mg base j (He.ga K "_law_depth") (spLDepth (d - 1))) : Fn P w K mg base (j + 1) (He.ga K "_law_depth") (spLDepth d) := by
  have G_law_depth : Fn P w K mg base j (He.ga K "_law_depth") (fun vs H Q E => 0 < d ∧ spLDepth (d - 1) vs H Q E) := by
    rcases G with e | G
    · intro A outer s H us vs Q E _ _ _ hs
      exact absurd hs.1 (by omega)
    · exact G.imp fun vs H Q E h => h.2
  refine mkN T.F_law_depth sc_law_depth (fun vs H Q E h => ?_) (fun _ _ _ _ _ _ us hl => match us, hl with | [_], _ => rfl) (fun cdv A outer s H vs Q E hr h => ?_)
  · obtain ⟨v, c, rfl, _⟩ := h
    rfl
  obtain ⟨v, c, rfl, hc, hd, q⟩ := h
  refine ⟨_, (pss_cons (ps_if (pt_cmpR (inq K) (pe_ix (ixt K) (pv 0) pe_int (fun _ _ => rfl)) (pe_lst (pa_cons pe_str (pa_cons pe_str (pa_cons pe_str pa_nil)))) rfl) (pss_one (ps_ret pe_int)) pss_nil)
      (pss_one (ps_ret (pe_op op_add pe_int (pe_callB (maxq K rfl) rfl T.b_max (by decide +kernel) (pa_cons (pe_lc (own := [("_law_part", 1)]) (g := gName 1) (tt := tYes) rfl sc_law_depth.nd (pit K (pe_slice (slt K) (pv 0) (po_some pe_int) po_none)) (blkOk_by (N := ["_law_condition_here", "_law_part"]) (sc := defScope s__law_depth) (by decide +kernel)) (fun _ _ _ _ _ => (pg_name (i := 1) sc_law_depth.nd rfl (Or.inl rfl))) (fun _ _ _ _ _ => pts_nil) (fun _ _ _ _ _ => (pe_callR G_law_depth (hr.mono (by omega)) T.g_law_depth (kp T.F_law_depth) passL (pa_cons (pv 1) pa_nil)))) pa_nil)))))), ?_⟩
  obtain ⟨a, xs, rfl, ha⟩ := hc.tup
  refine ⟨_, rfl, a, _, 0, _, rfl, rfl, SqT.of ha, at0 _ _, by show 3 ≤ sizeLine; decide, fun t0 nt0 => ?_⟩
  have s0 : Same H (upd H t0 (.lst [.str "sign", .str "some", .str "use"])) := same_new nt0 _
  refine ⟨t0, _, rfl, .inl (SqL.of upd_same), rfl, rfl, _, rfl, ?_⟩
  show if inV (.str (tag c)) [.str "sign", .str "some", .str "use"] = true then _ else _
  rw [in3]
  refine ite2 (fun e => ?_) (fun e => ?_)
  · have z := q _ s0
    rw [Cnd.depth_leaf e] at z
    exact z
  · have nl : c.leaf = false := Bool.eq_false_iff.mpr e
    obtain ⟨a', xs', ea, ha', hps⟩ := hc.node nl
    cases ea
    rw [ha] at ha'
    cases ha'
    refine ⟨_, rfl, 1, rfl, a, _, rfl, SqT.of (s0 _ _ ha), cut1_ne _ _, fun p np => ?_⟩
    rw [cut1]
    refine ⟨p, rfl, ⟨_, SqT.of upd_same⟩, fun D nD => ?_⟩
    have s1 := s0.new np (.tup xs)
    have sp1 : Same (upd (upd H t0 (.lst [.str "sign", .str "some", .str "use"])) p (.tup xs)) (upd (upd (upd H t0 (.lst [.str "sign", .str "some", .str "use"])) p (.tup xs)) D (.lst [])) := same_new nD _
    refine lc_tup (K := K) (a := p) (xs := xs) (fun i H' => Same (upd (upd H t0 (.lst [.str "sign", .str "some", .str "use"])) p (.tup xs)) H' ∧ H' D = some (.lst (((c.parts.take i).map fun x => (x.depth : Int)).map V.int)))
      ⟨sp1, upd_same⟩ (fun i H' _ h => SqT.of (h.1 _ _ upd_same)) ?_ ?_
    · rintro i x H' hi ⟨s2, eD⟩
      obtain ⟨pc, hpc, hx⟩ := paired_get hps hi
      have hm := List.mem_of_getElem? hpc
      have hdp := Cnd.parts_depth hm
      refine ⟨rfl, ?_⟩
      refine ⟨_, rfl, by omega, x, pc, rfl, (hx.same s1).same s2, by omega, fun H2 s3 => ?_⟩
      refine ⟨_, s3 _ _ eD, ?_, (s2.trans s3).put nD _, ?_⟩
      · refine big_line' ?_
        rw [List.length_map, List.length_map, List.length_take]
        have := @Cnd.parts_len Str c
        omega
      · rw [upd_same, take_more hpc, List.map_append, List.map_append]
        rfl
    · rintro H' ⟨s2, eD⟩
      rw [paired_len hps, List.take_length] at eD
      refine ⟨D, _, rfl, SqL.of eD, by rw [List.length_map]; exact Cnd.parts_pos nl, fun m hm hle => ?_⟩
      obtain ⟨y, hy, rfl⟩ := List.mem_map.mp hm
      have z : c.depth = 1 + y.depth := Cnd.depth_node nl (List.mem_map.mpr ⟨y, hy, rfl⟩) fun n hn => by
        obtain ⟨u, hu, rfl⟩ := List.mem_map.mp hn
        have := hle _ (List.mem_map.mpr ⟨u, hu, rfl⟩)
        omega
      refine ⟨_, _, rfl, rfl, ?_⟩
      have z2 := q H' (s1.trans s2)
      rw [z] at z2
      exact z2
theorem ok_ldepth (T : Txt w K mg) : ∀ d, Fn P w K mg base (d + 1) (He.ga K "_law_depth") (spLDepth d)
  | 0 => ok_ldepth_step T (.inl rfl)
  | d + 1 => ok_ldepth_step T (.inr (ok_ldepth T d))
end
end Sh
set_option Elab.async false
set_option linter.all false
set_option maxRecDepth 100000
set_option maxHeartbeats 4000000
namespace Sh
open PySem PySem.Spec PyProof.Rows L2 StX
section
variable {P : Program} {w : World} {K : PySem.W.Frag} {mg : Str → Option Value} {base : Heap}
/-! ### _law_found -/
def spFound : Sp := fun vs H Q _ => ∃ M a n ps, vs = [.ref a, .str n] ∧ Av M H ∧ IsPs (mi M H) a ps ∧ (nms ps).Nodup ∧ ps.length ≤ 1000 ∧
  ∀ l xs H', Same H H' → H l = none → H' l = some (.lst xs) → (match cin ps n with | none => xs = [] | some c => ∃ v, xs = [v] ∧ IsC (mi M H) v c) → Q (.ref l) H'
def foundL (M : List Addr) (H : Hp) (ps : PsC) (n : Str) (i : Nat) (xs : List V) : Prop := match cin (ps.take i) n with
  | none => xs = []
  | some c => ∃ v, xs = [v] ∧ IsC (mi M H) v c
theorem cin_take_new {ps : PsC} {i : Nat} {m : Str} {c : C} {n : Str} (h : ps[i]? = some (m, c)) : cin (ps.take (i + 1)) n = match cin (ps.take i) n with
  | some c' => some c'
  | none => if m = n then some c else none := by
  rw [take_more h]
  generalize ps.take i = l
  induction l with
  | nil =>
    rw [List.nil_append, cin_cons, cin_nil]
  | cons p l ih =>
    rw [List.cons_append, cin_cons, cin_cons, ih]
    by_cases z : p.1 = n
    · rw [if_pos z, if_pos z]
    · rw [if_neg z, if_neg z]
theorem cin_take_none {ps : PsC} (nd : (nms ps).Nodup) {i : Nat} {m : Str} {c : C} (h : ps[i]? = some (m, c)) : cin (ps.take i) m = none := by
  obtain ⟨hlt, e⟩ := List.getElem?_eq_some_iff.mp h
  rw [cin_none]
  intro hm
  have e2 : ps = ps.take i ++ ps.drop i := (List.take_append_drop i ps).symm
  rw [e2, nms, List.map_append, List.drop_eq_getElem_cons hlt, e] at nd
  exact (List.nodup_append.mp nd).2.2 m hm m (by simp) rfl
theorem sc_law_found : FnScope ["_law_pairs", "_law_name", "_law_other", "_law_condition_here"] ["_law_pairs", "_law_name"] (defScope s__law_found) := ⟨rfl, rfl, rfl, by decide +kernel, rfl, by decide +kernel, by decide +kernel⟩
theorem ok_found (T : Txt w K mg) : Fn P w K mg base 1 (He.ga K "_law_found") spFound := by
  refine mkN T.F_law_found sc_law_found (fun vs H Q E h => ?_) (fun _ _ _ _ _ _ us hl => match us, hl with | [_, _], _ => rfl) (fun cdv A outer s H vs Q E hr h => ?_)
  · obtain ⟨M, a, n, ps, rfl, _⟩ := h
    rfl
  obtain ⟨M, a, n, ps, rfl, av, ⟨xs, h1, h2⟩, nd, hl, q⟩ := h
  refine ⟨_, (pss_one (ps_ret (pe_lc (own := [("_law_other", 2), ("_law_condition_here", 3)]) (g := _) (tt := _) rfl sc_law_found.nd (pil K (pv 0)) (blkOk_by (N := ["_law_pairs", "_law_name", "_law_other", "_law_condition_here"]) (sc := defScope s__law_found) (by decide +kernel)) (fun _ _ _ _ _ => (pgt (n := 2) K rfl (pgs_cons (pg_name (i := 2) sc_law_found.nd rfl (Or.inl rfl)) (pgs_cons (pg_name (i := 3) sc_law_found.nd rfl (Or.inl rfl)) pgs_nil)))) (fun _ _ _ _ _ => (pts_one (pt_cmpR op_eq (pv 2) (pv 1) (nomark _)))) (fun _ _ _ _ _ => (pv 3))))), ?_⟩
  have ha : H a = some (.lst xs) := (mi_some h1).1
  refine ⟨_, rfl, a, rfl, ⟨_, SqL.of ha⟩, fun D nD => ?_⟩
  refine lc_list (K := K) (a := a) (xs := xs) (fun i H' => Same H H' ∧ ∃ ys, H' D = some (.lst ys) ∧ foundL M H ps n i ys)
    ⟨same_new nD _, [], upd_same, rfl⟩ (fun i H' _ h => SqL.of (h.1 _ _ ha)) ?_ ?_
  · rintro i x H' hi ⟨s1, ys, eD, fl⟩
    obtain ⟨⟨m, c1⟩, hp, a2, v1, rfl, e1, e2⟩ := paired_get h2 hi
    refine ⟨a2, _, rfl, SqT.of (s1 _ _ (mi_some e1).1), rfl, _, _, rfl, _, _, rfl, rfl, rfl, ?_⟩
    refine ⟨_, rfl, _, rfl, rfl, _, rfl, ite2 (fun z => ?_) (fun z => ?_)⟩
    · rw [dec_strS] at z
      have z := of_decide_eq_true z
      subst z
      unfold foundL at fl
      rw [cin_take_none nd hp] at fl
      have fl : ys = [] := fl
      subst fl
      refine ⟨_, rfl, _, eD, by show 0 < sizeLine; decide, s1.put nD _, _, upd_same, ?_⟩
      unfold foundL
      rw [cin_take_new hp, cin_take_none nd hp]
      show match (if m = m then some c1 else none) with | none => _ | some c => _
      rw [if_pos rfl]
      exact ⟨v1, rfl, e2⟩
    · rw [dec_strS] at z
      refine ⟨s1, ys, eD, ?_⟩
      unfold foundL at fl ⊢
      rw [cin_take_new hp]
      cases e : cin (ps.take i) n with
      | none =>
        rw [e] at fl
        show match (if m = n then some c1 else none) with | none => _ | some c => _
        rw [if_neg (fun h => z (decide_eq_true h))]
        exact fl
      | some c' => rw [e] at fl; exact fl
  · rintro H' ⟨s1, ys, eD, fl⟩
    unfold foundL at fl
    rw [paired_len h2, List.take_length] at fl
    exact q D ys H' s1 nD eD fl
/-! ### _law_filled -/
/-- the names' list and what stands for each -/
def LFill (M : List Addr) (H : Hp) (ns : List Str) (ws : List V) (f : Str → Option C) (c : C) : Prop := ∀ n ∈ c.used, (n ∉ ns ∧ f n = none) ∨ ∃ (j : Nat) (x : V) (c' : C), ns[j]? = some n ∧ (∀ k m, k < j → ns[k]? = some m → m ≠ n) ∧ ws[j]? = some x ∧ f n = some c' ∧ IsC (mi M H) x c'
def spLFill (d : Nat) : Sp := fun vs H Q _ => ∃ M v c aw an ns ws f, vs = [v, .ref aw, .ref an] ∧ Av M H ∧ IsC (mi M H) v c ∧ H aw = some (.lst ws) ∧ H an = some (.lst (ns.map V.str)) ∧ LFill M H ns ws f c ∧ c.depth ≤ d ∧ ∀ v' H', Same H H' → IsC (mi M H') v' (Cnd.fill f c) → Q v' H'
theorem LFill.part {M : List Addr} {H : Hp} {ns : List Str} {ws : List V} {f : Str → Option C} {c x : C} (h : LFill M H ns ws f c) (hx : x ∈ c.parts) : LFill M H ns ws f x := fun n hn => h n (Cnd.part_used hx hn)
theorem LFill.same {M M' : List Addr} {H H' : Hp} {ns : List Str} {ws : List V} {f : Str → Option C} {c : C} (h : LFill M H ns ws f c) (s : Same (mi M H) (mi M' H')) : LFill M' H' ns ws f c := fun n hn => by
  rcases h n hn with h | ⟨j, x, c', h1, h2, h3, h4, h5⟩
  · exact .inl h
  · exact .inr ⟨j, x, c', h1, h2, h3, h4, h5.same s⟩
theorem sc_law_filled : FnScope ["_law_condition_here", "_law_wholes", "_law_names_here", "_law_found_here", "_law_part"] ["_law_condition_here", "_law_wholes", "_law_names_here"] (defScope s__law_filled) := ⟨rfl, rfl, rfl, by decide +kernel, rfl, by decide +kernel, by decide +kernel⟩
theorem ok_lfill_step (T : Txt w K mg) {d j : Nat} (G : d = 0 ∨ Fn P w K mg base j (He.ga K "_law_filled") (spLFill (d - 1))) : Fn P w K mg base (j + 1) (He.ga K "_law_filled") (spLFill d) := by
  have G_law_filled : Fn P w K mg base j (He.ga K "_law_filled") (fun vs H Q E => 0 < d ∧ spLFill (d - 1) vs H Q E) := by
    rcases G with e | G
    · intro A outer s H us vs Q E _ _ _ hs
      exact absurd hs.1 (by omega)
    · exact G.imp fun vs H Q E h => h.2
  refine mkN T.F_law_filled sc_law_filled (fun vs H Q E h => ?_) (fun _ _ _ _ _ _ us hl => match us, hl with | [_, _, _], _ => rfl) (fun cdv A outer s H vs Q E hr h => ?_)
  · obtain ⟨M, v, c, aw, an, ns, ws, f, rfl, _⟩ := h
    rfl
  obtain ⟨M, v, c, aw, an, ns, ws, f, rfl, av, hc, hw, hn, fr, hd, q⟩ := h
  have hcH : IsC H v c := hc.same (mi_le M H)
  refine ⟨_, (pss_cons (ps_if (PW.pt (pw_and (pt_cmpR op_eq (pe_ix (ixt K) (pv 0) pe_int (fun _ _ => rfl)) pe_str (nomark _)) (pw_and1 (pt_cmpR (inq K) (pe_ix (ixt K) (pv 0) pe_int (fun _ _ => rfl)) (pv 2) rfl)))) (pss_one (ps_ret (pe_ix (ixl K) (pv 1) (pe_bm PySem.F.plainAttrs_list PySem.F.slot_list_index PySem.F.type_list_index (idxq K) (pv 2) (pa_cons (pe_ix (ixt K) (pv 0) pe_int (fun _ _ => rfl)) pa_nil)) (fun _ _ => rfl)))) pss_nil)
      (pss_cons (ps_if (pt_cmpR (inq K) (pe_ix (ixt K) (pv 0) pe_int (fun _ _ => rfl)) (pe_lst (pa_cons pe_str (pa_cons pe_str (pa_cons pe_str pa_nil)))) rfl) (pss_one (ps_ret (pv 0))) pss_nil)
      (pss_cons (ps_set (i := 3) sc_law_filled.nd rfl (Or.inl rfl) (pe_lst (pa_cons (pe_ix (ixt K) (pv 0) pe_int (fun _ _ => rfl)) pa_nil)))
      (pss_cons (ps_for PassesOwn.never rfl (pit K (pe_slice (slt K) (pv 0) (po_some pe_int) po_none)) (pg_name (i := 4) sc_law_filled.nd rfl (Or.inl rfl)) (pss_one (ps_expr (pe_bm PySem.F.plainAttrs_list PySem.F.slot_list_append PySem.F.type_list_append mt_append (pv 3) (pa_cons (pe_callR G_law_filled (hr.mono (by omega)) T.g_law_filled (kp T.F_law_filled) passL (pa_cons (pv 4) (pa_cons (pv 1) (pa_cons (pv 2) pa_nil)))) pa_nil)))))
      (pss_one (ps_ret (pe_callTy (tupq K) rfl T.b_tuple (by decide +kernel) (pa_cons (pv 3) pa_nil)))))))), ?_⟩
  obtain ⟨a, xs, rfl, ha⟩ := hcH.tup
  refine ⟨_, rfl, a, _, 0, _, rfl, rfl, SqT.of ha, at0 _ _, rfl, _, rfl, ?_⟩
  -- what is left once the first test says no
  have tailF : ∀ (D : Ends), True := fun _ => trivial
  by_cases hus : isUs c = true ∧ ∀ n ∈ c.used, n ∈ ns
  · obtain ⟨hus, hin⟩ := hus
    rw [tag_us, hus]
    obtain ⟨n, rfl⟩ := isUs_shape hus
    obtain ⟨a', ea, h1⟩ := hcH
    cases ea
    have hu : n ∈ (Cnd.us n : C).used := Cnd.mem_used.mpr (List.mem_singleton.mpr rfl)
    refine iteT ⟨_, rfl, a, _, 1, _, rfl, rfl, SqT.of h1, at1 _ _ _, _, rfl, an, _, rfl, .inl (SqL.of hn), rfl, flat_strs _, _, rfl, ?_⟩
    show if inV (.str n) (ns.map V.str) = true then _ else _
    rw [inV_str, decide_eq_true (hin n hu)]
    rcases fr n hu with ⟨h, _⟩ | ⟨jj, x, c', e1, e2, e3, e4, e5⟩
    · exact absurd (hin n hu) h
    refine iteT ⟨_, rfl, _, rfl, .inl ⟨rfl, _, SqL.of hn⟩, _, rfl, a, _, 1, _, rfl, rfl, SqT.of h1, at1 _ _ _, an, _, _, jj, .str n, rfl, rfl, SqL.of hn, rfl, flat_strs _, by rw [List.getElem?_map, e1]; rfl, by rw [eqV_comm_s]; exact decide_eq_true rfl, fun k z' hk hz => ?_, aw, _, _, x, rfl, rfl, SqL.of hw, atI_nat e3, ?_⟩
    · obtain ⟨m, hm, rfl⟩ := str_at hz
      rw [eqV_comm_s]
      exact decide_eq_false (e2 k m hk hm)
    · refine q _ _ (Same.refl _) ?_
      rw [Cnd.fill, e4]
      exact e5
  have first : (isUs c = false) ∨ ∃ n, c = .us n ∧ n ∉ ns := by
    cases h : isUs c with
    | false => exact .inl rfl
    | true =>
      obtain ⟨n, rfl⟩ := isUs_shape h
      refine .inr ⟨n, rfl, fun hn => hus ⟨h, fun m hm => ?_⟩⟩
      have := Cnd.mem_used.mp hm
      rw [show m = n by cases (List.mem_singleton.mp this); rfl]
      exact hn
  rcases first with hus' | ⟨n, rfl, hnot⟩
  case' inl =>
    rw [tag_us, hus']
    refine iteF ?_
  case' inr =>
    rw [tag_us, show isUs (Cnd.us n : C) = true from rfl]
    obtain ⟨a', ea, h1⟩ := id hcH
    cases ea
    refine iteT ⟨_, rfl, a, _, 1, _, rfl, rfl, SqT.of h1, at1 _ _ _, _, rfl, an, _, rfl, .inl (SqL.of hn), rfl, flat_strs _, _, rfl, ?_⟩
    show if inV (.str n) (ns.map V.str) = true then _ else _
    rw [inV_str, decide_eq_false hnot]
    have hus' := hnot
  all_goals
    refine iteF ?_
    refine ⟨_, rfl, a, _, 0, _, rfl, rfl, SqT.of ha, at0 _ _, by show 3 ≤ sizeLine; decide, fun t0 nt0 => ?_⟩
    have s0 : Same H (upd H t0 (.lst [.str "sign", .str "some", .str "use"])) := same_new nt0 _
    refine ⟨t0, _, rfl, .inl (SqL.of upd_same), rfl, rfl, _, rfl, ?_⟩
    show if inV (.str (tag _)) [.str "sign", .str "some", .str "use"] = true then _ else _
    rw [in3]
  case' inr =>
    refine iteT ⟨_, rfl, q _ _ s0 ?_⟩
    rcases fr n (Cnd.mem_used.mpr (List.mem_singleton.mpr rfl)) with ⟨_, h⟩ | ⟨jj, x, c', e1, _⟩
    · rw [Cnd.fill, h]
      exact hc.same (mi_same s0)
    · exact absurd (List.mem_of_getElem? e1) hnot
  refine ite2 (fun e => ?_) (fun e => ?_)
  · refine ⟨_, rfl, q _ _ s0 ?_⟩
    rw [Cnd.fill_atom f e (by
      cases y : c.us? with
      | none => rfl
      | some n => rw [isUs, y] at hus'; cases hus')]
    exact hc.same (mi_same s0)
  have nl : c.leaf = false := Bool.eq_false_iff.mpr e
  obtain ⟨a', xs', ea, ha', hps⟩ := hc.node nl
  cases ea
  have ha2 := (mi_some ha').1
  rw [ha] at ha2
  cases ha2
  refine ⟨_, rfl, a, _, 0, _, rfl, rfl, SqT.of (s0 _ _ ha), at0 _ _, by show 1 ≤ sizeLine; decide, fun l nl' => ?_⟩
  have s1 := s0.new nl' (.lst [.str (tag c)])
  have nlH := s0.free nl'
  refine ⟨_, rfl, 1, rfl, a, _, rfl, SqT.of (s1 _ _ ha), cut1_ne _ _, fun p np => ?_⟩
  rw [cut1]
  have s2 := s1.new np (.tup xs)
  have npl : l ≠ p := ne_of_none upd_same np
  refine ⟨p, rfl, ⟨_, SqT.of upd_same⟩, for_tup (K := K) (a := p) (xs := xs) (fun i σ H' => ∃ z ys, σ = [some (.ref a), some (.ref aw), some (.ref an), some (.ref l), z] ∧ Same H H' ∧ H' p = some (.tup xs) ∧ H' l = some (.lst (.str (tag c) :: ys)) ∧
    AreC (mi (l :: M) H') ys ((c.parts.take i).map (Cnd.fill f))) ⟨none, [], rfl, s2, upd_same, by rw [upd_ne npl]; exact upd_same, .nil⟩ (fun i σ H' _ ⟨_, _, _, _, h, _⟩ => SqT.of h) ?_ ?_⟩
  · rintro i x σ H' hi ⟨z, ys, rfl, sH, hp', hl', ar⟩
    obtain ⟨pc, hpc, hx⟩ := paired_get hps hi
    have hm := List.mem_of_getElem? hpc
    have hdp := Cnd.parts_depth hm
    have av' : Av (l :: M) H' := (av.same sH).cons hl'
    refine ⟨_, rfl, .inl ⟨rfl, _, SqL.of hl'⟩, _, rfl, _, rfl, _, rfl, by omega, l :: M, x, pc, aw, an, ns, ws, f, rfl, av', hx.same (carry sH nlH), sH _ _ hw, sH _ _ hn, (fr.part hm).same (carry sH nlH), by omega, fun v' H2 s3 hv' => ?_⟩
    have lz := paired_len ar
    have npl' : p ≠ l := npl.symm
    refine ⟨l, _, _, rfl, rfl, s3 _ _ hl', ?_, _, ys ++ [v'], rfl, (sH.trans s3).put nlH _, by rw [upd_ne npl']; exact s3 _ _ hp', upd_same, ?_⟩
    · rw [List.length_cons, lz, List.length_map, List.length_take]
      have := @Cnd.parts_len Str c
      exact big_line' (by omega)
    · rw [take_more hpc, List.map_append]
      have up : Same (mi (l :: M) H2) (mi (l :: M) (upd H2 l (.lst (.str (tag c) :: ys ++ [v'])))) := (ta_put (M := [l]) (by simp) _).mi (by simp)
      exact paired_app ((ar.same (mi_same s3)).same up) (.cons (hv'.same up) .nil)
  · rintro σ H' ⟨z, ys, rfl, sH, hp', hl', ar⟩
    rw [paired_len hps, List.take_length, ← Cnd.fill_parts f nl] at ar
    refine ⟨_, rfl, l, _, rfl, .inl ⟨SqL.of hl', fun p2 n2 => ?_⟩⟩
    rw [← tag_fill f nl]
    exact q _ _ (sH.new n2 _) (IsC.mk (Cnd.fill_leaf f nl) (mi_new (av.same sH) n2) ((ar.same (mi_sub _ fun _ => List.mem_cons_of_mem _)).same (mi_upd n2)))
theorem ok_lfill (T : Txt w K mg) : ∀ d, Fn P w K mg base (d + 1) (He.ga K "_law_filled") (spLFill d)
  | 0 => ok_lfill_step T (.inl rfl)
  | d + 1 => ok_lfill_step T (.inr (ok_lfill T d))
end
end Sh
set_option Elab.async false
set_option linter.all false
set_option maxRecDepth 100000
set_option maxHeartbeats 4000000
namespace Sh
open PySem PySem.Spec PyProof.Rows L2 StX
section
variable {P : Program} {w : World} {K : PySem.W.Frag} {mg : Str → Option Value} {base : Heap}
/-! ### _law_whole -/
theorem first_idx {l : List Str} {n : Str} (h : n ∈ l) : ∃ j : Nat, l[j]? = some n ∧ ∀ (k : Nat) (m : Str), k < j → l[k]? = some m → m ≠ n := by
  induction l with
  | nil => cases h
  | cons a l ih =>
    by_cases z : a = n
    · exact ⟨0, by rw [z]; rfl, fun k m hk => absurd hk (Nat.not_lt_zero _)⟩
    · rcases List.mem_cons.mp h with h | h
      · exact absurd h.symm z
      · obtain ⟨j, h1, h2⟩ := ih h
        refine ⟨j + 1, by simpa using h1, fun k m hk hm => ?_⟩
        cases k with
        | zero => have : a = m := by simpa using hm
                  rw [← this]; exact z
        | succ k => exact h2 k m (by omega) (by simpa using hm)
theorem paired_at {α β : Type} {F : α → β → Prop} : ∀ {xs : List α} {ys : List β} {i : Nat} {y : β}, Paired F xs ys → ys[i]? = some y → ∃ x, xs[i]? = some x ∧ F x y
  | _, _, _, _, .nil, e => by simp at e
  | _, _, 0, _, .cons r _, e => by simp at e; subst e; exact ⟨_, rfl, r⟩
  | _, _, i + 1, y, .cons _ t, e => by
    obtain ⟨u, h1, h2⟩ := paired_at (i := i) (y := y) t (by simpa using e)
    exact ⟨u, by simpa using h1, h2⟩
theorem sc_law_whole : FnScope ["_law_pairs", "_law_name", "_law_condition_here", "_law_names_here", "_law_other"] ["_law_pairs", "_law_name"] (defScope s__law_whole) := ⟨rfl, rfl, rfl, by decide +kernel, rfl, by decide +kernel, by decide +kernel⟩
theorem ok_lwhole_step (T : Txt w K mg) {d j : Nat} (hj : 4 ≤ j) (G : d = 0 ∨ Fn P w K mg base j (He.ga K "_law_whole") (spWholeIn (d - 1))) : Fn P w K mg base (j + 1) (He.ga K "_law_whole") (spWholeIn d) := by
  have G_law_whole : Fn P w K mg base j (He.ga K "_law_whole") (fun vs H Q E => 0 < d ∧ spWholeIn (d - 1) vs H Q E) := by
    rcases G with e | G
    · intro A outer s H us vs Q E _ _ _ hs
      exact absurd hs.1 (by omega)
    · exact G.imp fun vs H Q E h => h.2
  have G_law_found : Fn P w K mg base 1 (He.ga K "_law_found") spFound := ok_found T
  have G_law_used : Fn P w K mg base 4 (He.ga K "_law_used") (spUsed 2) := ok_lused T 2
  have G_law_filled : Fn P w K mg base 3 (He.ga K "_law_filled") (spLFill 2) := ok_lfill T 2
  refine mkN T.F_law_whole sc_law_whole (fun vs H Q E h => ?_) (fun _ _ _ _ _ _ us hl => match us, hl with | [_, _], _ => rfl) (fun cdv A outer s H vs Q E hr h => ?_)
  · obtain ⟨M, a, ps, r, S, B, n, rfl, _⟩ := h
    rfl
  obtain ⟨M, a, ps, r, S, B, n, rfl, av, hps, rt, ⟨c, hc⟩, hr', q⟩ := h
  refine ⟨_, (pss_cons (ps_set (i := 2) sc_law_whole.nd rfl (Or.inl rfl) (pe_ix (ixl K) (pe_callR G_law_found (hr.mono (by omega)) T.g_law_found (kp T.F_law_found) passL (pa_cons (pv 0) (pa_cons (pv 1) pa_nil))) pe_int (fun _ _ => rfl)))
      (pss_cons (ps_set (i := 3) sc_law_whole.nd rfl (Or.inl rfl) (pe_callR G_law_used (hr.mono (by omega)) T.g_law_used (kp T.F_law_used) passL (pa_cons (pv 2) pa_nil)))
      (pss_one (ps_ret (pe_callR G_law_filled (hr.mono (by omega)) T.g_law_filled (kp T.F_law_filled) passL (pa_cons (pv 2) (pa_cons (pe_lc (own := [("_law_other", 4)]) (g := gName 4) (tt := tYes) rfl sc_law_whole.nd (pil K (pv 3)) (blkOk_by (N := ["_law_pairs", "_law_name", "_law_condition_here", "_law_names_here", "_law_other"]) (sc := defScope s__law_whole) (by decide +kernel)) (fun _ _ _ _ _ => (pg_name (i := 4) sc_law_whole.nd rfl (Or.inl rfl))) (fun _ _ _ _ _ => pts_nil) (fun _ _ _ _ _ => (pe_callR G_law_whole (hr.mono (by omega)) T.g_law_whole (kp T.F_law_whole) passL (pa_cons (pv 0) (pa_cons (pv 4) pa_nil))))) (pa_cons (pv 3) pa_nil)))))))), ?_⟩
  have eqn := wh_eq rt.rk hc (by have := rt.le13 n; omega)
  have co := rt.good.at hc
  have ul : c.used.length ≤ 4 := Nat.le_trans (Cnd.used_len c) (Nat.le_trans co.len rt.sb.b4)
  have pl : ps.length ≤ 13 := Nat.le_trans rt.good.len rt.sb.s
  refine ⟨_, rfl, _, rfl, M, a, n, ps, rfl, av, hps, rt.good.nd, by omega, fun l0 xs0 H0 s0 n0 e0 fo => ?_⟩
  rw [hc] at fo
  obtain ⟨v, rfl, hv⟩ := fo
  have hv0 := hv.same (mi_same (M := M) s0)
  refine ⟨l0, _, 0, _, rfl, rfl, SqL.of e0, atI_nat (j := 0) rfl, ?_⟩
  refine ⟨_, rfl, M, v, c, rfl, av.same s0, hv0, co.dep, Nat.le_trans co.len (Nat.le_trans rt.sb.b4 (by decide)), fun l H1 s1 n1 e1 => ?_⟩
  have s01 := s0.trans s1
  refine ⟨_, rfl, _, rfl, l, rfl, ⟨_, SqL.of e1⟩, fun D nD => ?_⟩
  have HD : H D = none := s01.free nD
  refine lc_list (K := K) (a := l) (xs := c.used.map V.str) (fun i H' => Same H1 H' ∧ ∃ ws, H' D = some (.lst ws) ∧ AreC (mi (D :: M) H') ws ((c.used.take i).map (wh ps)))
    ⟨same_new nD _, [], upd_same, .nil⟩ (fun i H' _ h => SqL.of (h.1 _ _ e1)) ?_ ?_
  · rintro i x H' hi ⟨s2, ws, eD, ar⟩
    obtain ⟨u, hu, rfl⟩ := str_at hi
    have hm := List.mem_of_getElem? hu
    obtain ⟨ru, hcu⟩ := rt.rk n c hc u hm
    have sH := s01.trans s2
    refine ⟨rfl, ?_⟩
    refine ⟨_, rfl, _, rfl, by omega, D :: M, a, ps, r, S, B, u, rfl, (av.same sH).cons eD, hps.same (carry sH HD), rt, hcu, by omega, fun v' H2 s3 hv' => ?_⟩
    refine ⟨_, s3 _ _ eD, ?_, (s2.trans s3).put nD _, _, upd_same, ?_⟩
    · rw [paired_len ar, List.length_map, List.length_take]
      exact big_line' (by omega)
    · have up : Same (mi (D :: M) H2) (mi (D :: M) (upd H2 D (.lst (ws ++ [v'])))) := (ta_put (M := [D]) (by simp) _).mi (by simp)
      rw [take_more hu, List.map_append]
      exact paired_app ((ar.same (mi_same s3)).same up) (.cons (hv'.same up) .nil)
  · rintro H' ⟨s2, ws, eD, ar⟩
    rw [List.length_map, List.take_length] at ar
    have sH := s01.trans s2
    refine ⟨_, rfl, M, v, c, D, l, c.used, ws, fun m => some (wh ps m), rfl, av.same sH, hv.same (mi_same sH), eD, s2 _ _ e1, fun u hu => .inr ?_, co.dep, fun v' H2 s3 hv' => q _ _ (sH.trans s3) ?_⟩
    · obtain ⟨jj, j1, j2⟩ := first_idx hu
      obtain ⟨x, hx, hcx⟩ := paired_at (i := jj) (y := wh ps u) ar (by rw [List.getElem?_map, j1]; rfl)
      exact ⟨jj, x, _, j1, j2, hx, rfl, hcx.same (mi_sub _ fun _ => List.mem_cons_of_mem _)⟩
    · rw [eqn]
      exact hv'
theorem ok_lwhole (T : Txt w K mg) : ∀ d, Fn P w K mg base (d + 5) (He.ga K "_law_whole") (spWholeIn d)
  | 0 => ok_lwhole_step T (Nat.le_refl _) (.inl rfl)
  | d + 1 => ok_lwhole_step T (by omega) (.inr (ok_lwhole T d))
/-! ### _law_reached -/
def spReached : Sp := fun vs H Q _ => ∃ M a b ps r S B R0, vs = [.ref a, .ref b] ∧ Av M H ∧ IsPs (mi M H) a ps ∧ Rt S B ps r ∧ H b = some (.lst (R0.map V.str)) ∧ R0.length ≤ 4 ∧
  ∀ l H', Same H H' → H l = none → H' l = some (.lst ((iterR ps 40 R0).map V.str)) → Q (.ref l) H'
theorem sc_law_reached : FnScope ["_law_pairs", "_law_names_here", "_law_found_here", "_law_turn", "_law_one", "_law_condition_here", "_law_other"] ["_law_pairs", "_law_names_here"] (defScope s__law_reached) := ⟨rfl, rfl, rfl, by decide +kernel, rfl, by decide +kernel, by decide +kernel⟩
theorem ok_reached (T : Txt w K mg) : Fn P w K mg base 5 (He.ga K "_law_reached") spReached := by
  have G_law_found : Fn P w K mg base 1 (He.ga K "_law_found") spFound := ok_found T
  have G_law_used : Fn P w K mg base 4 (He.ga K "_law_used") (spUsed 2) := ok_lused T 2
  refine mkN T.F_law_reached sc_law_reached (fun vs H Q E h => ?_) (fun _ _ _ _ _ _ us hl => match us, hl with | [_, _], _ => rfl) (fun cdv A outer s H vs Q E hr h => ?_)
  · obtain ⟨M, a, b, ps, r, S, B, R0, rfl, _⟩ := h
    rfl
  obtain ⟨M, a, b, ps, r, S, B, R0, rfl, av, hps, rt, hb, hR, q⟩ := h
  refine ⟨_, (pss_cons (ps_set (i := 2) sc_law_reached.nd rfl (Or.inr rfl) (pe_lc (own := [("_law_one", 4)]) (g := gName 4) (tt := tYes) rfl sc_law_reached.nd (pil K (pv 1)) (blkOk_by (N := ["_law_pairs", "_law_names_here", "_law_found_here", "_law_turn", "_law_one", "_law_condition_here", "_law_other"]) (sc := defScope s__law_reached) (by decide +kernel)) (fun _ _ _ _ _ => (pg_name (i := 4) sc_law_reached.nd rfl (Or.inl rfl))) (fun _ _ _ _ _ => pts_nil) (fun _ _ _ _ _ => (pv 4))))
      (pss_cons (ps_for PassesOwn.never rfl (pi_range1 rfl T.b_range (pa_cons pe_int pa_nil)) (pg_name (i := 3) sc_law_reached.nd rfl (Or.inl rfl)) (pss_one (ps_for PassesOwn.never rfl (pil K (pe_callTy (listq K) rfl T.b_list (by decide +kernel) (pa_cons (pv 2) pa_nil))) (pg_name (i := 4) sc_law_reached.nd rfl (Or.inl rfl)) (pss_one (ps_for PassesOwn.never rfl (pil K (pe_callR G_law_found (hr.mono (by omega)) T.g_law_found (kp T.F_law_found) passL (pa_cons (pv 0) (pa_cons (pv 4) pa_nil)))) (pg_name (i := 5) sc_law_reached.nd rfl (Or.inl rfl)) (pss_one (ps_set (i := 2) sc_law_reached.nd rfl (Or.inr rfl) (pe_op op_cat (pv 2) (pe_lc (own := [("_law_other", 6)]) (g := gName 6) (tt := _) rfl sc_law_reached.nd (pil K (pe_callR G_law_used (hr.mono (by omega)) T.g_law_used (kp T.F_law_used) passL (pa_cons (pv 5) pa_nil))) (blkOk_by (N := ["_law_pairs", "_law_names_here", "_law_found_here", "_law_turn", "_law_one", "_law_condition_here", "_law_other"]) (sc := defScope s__law_reached) (by decide +kernel)) (fun _ _ _ _ _ => (pg_name (i := 6) sc_law_reached.nd rfl (Or.inl rfl))) (fun _ _ _ _ _ => (pts_one (pt_cmpR (notInq K) (pv 6) (pv 2) rfl))) (fun _ _ _ _ _ => (pv 6)))))))))))
      (pss_one (ps_ret (pv 2))))), ?_⟩
  have pl : ps.length ≤ 13 := Nat.le_trans rt.good.len rt.sb.s
  have hB : ∀ n c, cin ps n = some c → c.used.length ≤ B := fun n c e => Nat.le_trans (Cnd.used_len c) (rt.good.at e).len
  have cl : ∀ n c, cin ps n = some c → ∀ u ∈ c.used, u ∈ nms ps := fun n c e u hu => cin_some.mpr (rt.rk n c e u hu).2
  have short : ∀ (k : Nat) (l : List Str), Short ps B 4 (l.foldl (addU ps) (iterR ps k R0)) := fun k l => short_fold hB cl (short_iter hB cl hR k)
  have len56 : ∀ R : List Str, Short ps B 4 R → R.length ≤ 56 := fun R h => by
    have h1 := short_len h
    have h2 : B * ps.length ≤ 4 * 13 := Nat.mul_le_mul rt.sb.b4 pl
    omega
  refine ⟨_, rfl, b, rfl, ⟨_, SqL.of hb⟩, fun D nD => ?_⟩
  refine lc_list (K := K) (a := b) (xs := R0.map V.str) (fun i H' => Same H H' ∧ H' D = some (.lst ((R0.take i).map V.str)))
    ⟨same_new nD _, upd_same⟩ (fun i H' _ h => SqL.of (h.1 _ _ hb)) ?_ ?_
  · rintro i x H' hi ⟨s1, eD⟩
    obtain ⟨u, hu, rfl⟩ := str_at hi
    refine ⟨rfl, _, rfl, _, eD, ?_, s1.put nD _, ?_⟩
    · rw [List.length_map, List.length_take]
      exact big_line' (by omega)
    · rw [upd_same, take_more hu, List.map_append]
      rfl
  rintro H1 ⟨s1, eD⟩
  rw [List.length_map, List.take_length] at eD
  refine ⟨_, rfl, by decide, by decide, for_range (n := 40) (fun i σ H' => ∃ z1 z2 z3 l, σ = [some (.ref a), some (.ref b), some (.ref l), z1, z2, z3, none] ∧ Same H H' ∧ H l = none ∧ H' l = some (.lst ((iterR ps i R0).map V.str)))
    ⟨none, none, none, D, rfl, s1, nD, eD⟩ ?_ ?_⟩
  · rintro i σ H' hi ⟨z1, z2, z3, l, rfl, s2, nl, el⟩
    obtain ⟨R, hRe⟩ : ∃ R, R = iterR ps i R0 := ⟨_, rfl⟩
    rw [← hRe] at el
    have shR : ∀ k, Short ps B 4 ((R.take k).foldl (addU ps) R) := fun k => by rw [hRe]; exact short i _
    refine ⟨_, rfl, l, _, rfl, .inl (SqL.of el), fun l2 n2 => ⟨l2, rfl, ⟨_, SqL.of upd_same⟩, ?_⟩⟩
    have s3 := s2.new n2 (.lst (R.map V.str))
    have s23 : Same H' (upd H' l2 (.lst (R.map V.str))) := same_new n2 _
    refine for_list (K := K) (a := l2) (xs := R.map V.str) (fun k σ H2 => ∃ z1 z2 z3 l', σ = [some (.ref a), some (.ref b), some (.ref l'), z1, z2, z3, none] ∧ Same (upd H' l2 (.lst (R.map V.str))) H2 ∧ H l' = none ∧ H2 l' = some (.lst (((R.take k).foldl (addU ps) R).map V.str)))
      ⟨_, z2, z3, l, rfl, Same.refl _, nl, s23 _ _ el⟩ (fun k σ H2 _ ⟨_, _, _, _, _, h, _⟩ => SqL.of (h _ _ upd_same)) ?_ ?_
    · rintro k x σ H2 hk ⟨y1, y2, y3, l', rfl, s4, nl', el'⟩
      obtain ⟨u, hu, rfl⟩ := str_at hk
      have s04 := s3.trans s4
      have step : (R.take (k + 1)).foldl (addU ps) R = addU ps ((R.take k).foldl (addU ps) R) u := by rw [take_more hu, List.foldl_append]; rfl
      have ln := len56 _ (shR (k + 1))
      rw [step] at ln
      generalize hF : (R.take k).foldl (addU ps) R = F at step ln el'
      refine ⟨_, rfl, _, rfl, M, a, u, ps, rfl, av.same s04, hps.same (mi_same s04), rt.good.nd, by omega, fun l3 xs3 H3 s5 n5 e5 fo => ⟨l3, rfl, ⟨_, SqL.of e5⟩, ?_⟩⟩
      cases hc : cin ps u with
      | none =>
        rw [hc] at fo
        have fo : xs3 = [] := fo
        subst fo
        refine for_list (K := K) (a := l3) (xs := []) (fun _ σ H4 => σ = [some (.ref a), some (.ref b), some (.ref l'), y1, some (.str u), y3, none] ∧ H4 = H3) ⟨rfl, rfl⟩ (fun _ _ H4 _ h => by rw [h.2]; exact SqL.of e5) (fun i x _ _ hi => by simp at hi) ?_
        rintro _ H4 ⟨rfl, rfl⟩
        refine ⟨_, _, _, l', rfl, s4.trans s5, nl', ?_⟩
        rw [step, addU, hc]
        exact s5 _ _ el'
      | some c =>
        rw [hc] at fo
        obtain ⟨v, rfl, hv⟩ := fo
        have co := rt.good.at hc
        have ul : c.used.length ≤ 4 := Nat.le_trans (Cnd.used_len c) (Nat.le_trans co.len rt.sb.b4)
        rw [addU, hc] at step ln
        refine for_list (K := K) (a := l3) (xs := [v]) (fun m σ H4 => ∃ y3 l4, σ = [some (.ref a), some (.ref b), some (.ref l4), y1, some (.str u), y3, none] ∧ Same H3 H4 ∧ H l4 = none ∧ H4 l4 = some (.lst ((if m = 0 then F else F ++ c.used.filter fun o => decide (o ∉ F)).map V.str)))
          ⟨y3, l', rfl, Same.refl _, nl', s5 _ _ el'⟩ (fun _ _ H4 _ ⟨_, _, _, h, _⟩ => SqL.of (h _ _ e5)) ?_ ?_
        · rintro m x σ H4 hm ⟨y3', l4, rfl, s6, nl4, el4⟩
          have m0 : m = 0 := by
            cases m with
            | zero => rfl
            | succ m => simp at hm
          subst m0
          have ex : v = x := Option.some.inj hm
          subst ex
          rw [if_pos rfl] at el4
          have s06 := (s04.trans s5).trans s6
          refine ⟨_, rfl, _, rfl, M, v, c, rfl, av.same s06, hv.same (mi_same (s5.trans s6)), co.dep, Nat.le_trans co.len (Nat.le_trans rt.sb.b4 (by decide)), fun l5 H5 s7 n7 e7 => ⟨l5, rfl, ⟨_, SqL.of e7⟩, fun D2 nD2 => ?_⟩⟩
          have el5 := s7 _ _ el4
          refine lc_list (K := K) (a := l5) (xs := c.used.map V.str) (fun i H6 => Same H5 H6 ∧ H6 D2 = some (.lst (((c.used.take i).filter fun o => decide (o ∉ F)).map V.str)))
            ⟨same_new nD2 _, upd_same⟩ (fun i H6 _ h => SqL.of (h.1 _ _ e7)) ?_ ?_
          · rintro i x H6 hi ⟨s8, e8⟩
            obtain ⟨o, ho, rfl⟩ := str_at hi
            refine ⟨rfl, _, rfl, _, rfl, l4, _, rfl, .inl (SqL.of (s8 _ _ el5)), rfl, flat_strs _, _, rfl, ?_⟩
            show if (!inV (.str o) (F.map V.str)) = true then _ else _
            have eo : (!inV (.str o) (F.map V.str)) = decide (o ∉ F) := by rw [inV_str, decide_not]
            rw [eo, take_more ho, List.filter_append, List.map_append]
            have fl : ((c.used.take i).filter fun o => decide (o ∉ F)).length ≤ (c.used.take i).length := List.length_filter_le ..
            rw [List.length_take] at fl
            refine ite2 (fun z => ?_) (fun z => ?_)
            · rw [show List.filter (fun o => decide (o ∉ F)) [o] = [o] from List.filter_cons_of_pos (p := fun o => decide (o ∉ F)) z]
              refine ⟨_, rfl, _, e8, ?_, s8.put nD2 _, upd_same⟩
              rw [List.length_map]
              exact big_line' (by omega)
            · rw [show List.filter (fun o => decide (o ∉ F)) [o] = [] from List.filter_cons_of_neg (p := fun o => decide (o ∉ F)) z]
              exact ⟨s8, by rw [List.map_nil, List.append_nil]; exact e8⟩
          · rintro H6 ⟨s8, e8⟩
            rw [List.length_map, List.take_length] at e8
            have s09 := (s06.trans s7).trans s8
            refine ⟨l4, D2, _, _, rfl, rfl, s8 _ _ el5, e8, ?_, fun l6 n6 => ?_⟩
            · rw [List.length_append] at ln
              rw [List.length_map, List.length_map]
              exact big_line (by omega)
            · refine ⟨_, l6, rfl, ((s6.trans s7).trans s8).new n6 _, s09.free n6, ?_⟩
              rw [upd_same, if_neg (by omega), List.map_append]
        · rintro σ H4 ⟨y3', l4, rfl, s6, nl4, el4⟩
          refine ⟨_, _, _, l4, rfl, (s4.trans s5).trans s6, nl4, ?_⟩
          rw [step]
          exact el4
    · rintro σ H2 ⟨y1, y2, y3, l', rfl, s4, nl', el'⟩
      refine ⟨_, _, _, l', rfl, s3.trans s4, nl', ?_⟩
      rw [List.length_map, List.take_length] at el'
      have e : iterR ps (i + 1) R0 = R.foldl (addU ps) R := by rw [hRe]; rfl
      rw [e]
      exact el'
  · rintro σ H' ⟨z1, z2, z3, l, rfl, s2, nl, el⟩
    exact ⟨_, rfl, q l H' s2 nl el⟩
end
end Sh
set_option Elab.async false
set_option linter.all false
set_option maxRecDepth 100000
set_option maxHeartbeats 4000000
namespace Sh
open PySem PySem.Spec PyProof.Rows L2 StX
section
variable {P : Program} {w : World} {K : PySem.W.Frag} {mg : Str → Option Value} {base : Heap}
/-! ### _law_sizes_due -/
def dueS (c : C) : Str := match due c with
  | none => ""
  | some e => errN e
def spLDue (d : Nat) : Sp := fun vs H Q _ => ∃ M v c, vs = [v] ∧ Av M H ∧ IsC (mi M H) v c ∧ c.depth ≤ d ∧ c.leaves.length ≤ 100000 ∧ ∀ H', Same H H' → Q (.str (dueS c)) H'
theorem dueS_deep {c : C} (h : 6 < c.depth) : dueS c = "TooDeep" := by
  unfold dueS due
  rw [if_pos h]
  rfl
theorem dueS_size {c : C} (h : ¬ 6 < c.depth) (h2 : 6 < c.nsg ∨ 3 < c.nsm) : dueS c = "BadSize" := by
  unfold dueS due
  rw [if_neg h, if_pos h2]
  rfl
theorem dueS_ok {c : C} (h : ¬ 6 < c.depth) (h2 : ¬ (6 < c.nsg ∨ 3 < c.nsm)) : dueS c = "" := by
  unfold dueS due
  rw [if_neg h, if_neg h2]
theorem sc_law_sizes_due : FnScope ["_law_condition_here", "_law_leaves_here", "_law_leaf"] ["_law_condition_here"] (defScope s__law_sizes_due) := ⟨rfl, rfl, rfl, by decide +kernel, rfl, by decide +kernel, by decide +kernel⟩
theorem ok_ldue (T : Txt w K mg) (d : Nat) : Fn P w K mg base (d + 2) (He.ga K "_law_sizes_due") (spLDue d) := by
  have G_law_leaves : Fn P w K mg base (d + 1) (He.ga K "_law_leaves") (spLeaves d) := ok_lleaves T d
  have G_law_depth : Fn P w K mg base (d + 1) (He.ga K "_law_depth") (spLDepth d) := ok_ldepth T d
  refine mkN T.F_law_sizes_due sc_law_sizes_due (fun vs H Q E h => ?_) (fun _ _ _ _ _ _ us hl => match us, hl with | [_], _ => rfl) (fun cdv A outer s H vs Q E hr h => ?_)
  · obtain ⟨M, v, c, rfl, _⟩ := h
    rfl
  obtain ⟨M, v, c, rfl, av, hc, hd, hl, q⟩ := h
  refine ⟨_, (pss_cons (ps_setLc (i := 1) (own := [("_law_leaf", 2)]) (g := gName 2) (tt := tYes) rfl sc_law_sizes_due.nd rfl rfl (sw_true rfl rfl rfl (by decide +kernel)) (pil K (pe_callR G_law_leaves (hr.mono (by omega)) T.g_law_leaves (kp T.F_law_leaves) passL (pa_cons (pv 0) pa_nil))) (blkOk_by (N := ["_law_condition_here", "_law_leaves_here", "_law_leaf"]) (sc := defScope s__law_sizes_due) (by decide +kernel)) (fun _ _ _ _ _ => (pg_name (i := 2) sc_law_sizes_due.nd rfl (Or.inl rfl))) (fun _ _ _ _ _ => pts_nil) (fun _ _ _ _ _ => (pe_ix (ixt K) (pv 2) pe_int (fun _ _ => rfl))))
      (pss_cons (ps_if (pt_cmpR op_gt (pe_callR G_law_depth (hr.mono (by omega)) T.g_law_depth (kp T.F_law_depth) passL (pa_cons (pv 0) pa_nil)) pe_int (nomark _)) (pss_one (ps_ret pe_str)) pss_nil)
      (pss_cons (ps_if (PW.pt (pw_or (pt_cmpR op_gt (pe_bm PySem.F.plainAttrs_list PySem.F.slot_list_count PySem.F.type_list_count (cntq K) (pv 1) (pa_cons pe_str pa_nil)) pe_int (nomark _)) (pw_or1 (pt_cmpR op_gt (pe_bm PySem.F.plainAttrs_list PySem.F.slot_list_count PySem.F.type_list_count (cntq K) (pv 1) (pa_cons pe_str pa_nil)) pe_int (nomark _))))) (pss_one (ps_ret pe_str)) pss_nil)
      (pss_one (ps_ret pe_str))))), ?_⟩
  refine ⟨_, rfl, M, v, c, rfl, av, hc, hd, hl, fun l xs H2 s2 n1 e1 ar => ⟨l, rfl, ⟨_, SqL.of e1⟩, fun D nD => ?_⟩⟩
  refine lc_list (K := K) (a := l) (xs := xs) (fun i H' => Same H2 H' ∧ H' D = some (.lst ((c.leaves.take i).map fun x => V.str (tag x))))
    ⟨same_new nD _, upd_same⟩ (fun i H' _ h => SqL.of (h.1 _ _ e1)) ?_ ?_
  · rintro i x H' hi ⟨s2, eD⟩
    obtain ⟨lc, hlc, hx⟩ := paired_get ar hi
    have hxH : IsC H' x lc := (hx.same (mi_le _ _)).same s2
    obtain ⟨a, ys, rfl, ha⟩ := hxH.tup
    refine ⟨rfl, ?_⟩
    refine ⟨_, rfl, a, _, 0, _, rfl, rfl, SqT.of ha, at0 _ _, _, eD, ?_, s2.put nD _, ?_⟩
    · rw [List.length_map, List.length_take]
      exact big_line' (by omega)
    · rw [upd_same, take_more hlc, List.map_append]
      rfl
  · rintro H' ⟨s4, eD⟩
    rw [paired_len ar, List.take_length] at eD
    have s3 := s2.trans s4
    refine ⟨_, rfl, v, c, rfl, (hc.same (mi_le M H)).same s3, hd, fun H5 s5 => ?_⟩
    have s35 := s3.trans s5
    have eD := s5 _ _ eD
    refine ⟨_, _, rfl, rfl, _, rfl, ite2 (fun e => ?_) (fun e => ?_)⟩
    · have : (6 : Int) < (c.depth : Nat) := of_decide_eq_true e
      have z := q _ s35
      rw [dueS_deep (by omega)] at z
      exact z
    have hn : ¬ 6 < c.depth := fun z => e (decide_eq_true (by show (6 : Int) < (c.depth : Nat); omega))
    refine ⟨_, rfl, .inl ⟨rfl, _, SqL.of eD⟩, D, _, _, rfl, rfl, SqL.of eD, rfl, flat_tags _, ?_⟩
    rw [count_tags Cnd.isSg _ eqV_sg]
    refine ⟨_, _, rfl, rfl, _, rfl, ite2 (fun e => ?_) (fun e => ?_)⟩
    · have : (6 : Int) < (c.nsg : Nat) := of_decide_eq_true e
      have z := q _ s35
      rw [dueS_size hn (.inl (by omega))] at z
      exact iteT z
    · refine ⟨_, rfl, .inl ⟨rfl, _, SqL.of eD⟩, D, _, _, rfl, rfl, SqL.of eD, rfl, flat_tags _, ?_⟩
      rw [count_tags Cnd.isSm _ eqV_sm]
      refine ⟨_, _, rfl, rfl, _, rfl, ite2 (fun e2 => ?_) (fun e2 => ?_)⟩
      · have : (3 : Int) < (c.nsm : Nat) := of_decide_eq_true e2
        have z := q _ s35
        rw [dueS_size hn (.inr (by omega))] at z
        exact z
      · have z := q _ s35
        rw [dueS_ok hn (by
          rintro (h | h)
          · exact e (decide_eq_true (by show (6 : Int) < (c.nsg : Nat); omega))
          · exact e2 (decide_eq_true (by show (3 : Int) < (c.nsm : Nat); omega)))] at z
        exact z
/-! ### _law_put -/
def LRes (M : List Addr) (r : Except Err PsC) (H : Hp) (Q : VK) : Prop := match r with
  | .error e => ∀ H', Same H H' → Q (.str (errN e)) H'
  | .ok ps' => ∀ l H', Same H H' → H l = none → IsPs (mi M H') l ps' → Q (.ref l) H'
def spLPut : Sp := fun vs H Q _ => ∃ M a n v c ps S B, vs = [.ref a, .str n, v] ∧ Av M H ∧ IsPs (mi M H) a ps ∧ Good okL S B ps ∧ SB S B ∧ n ∈ S ∧ IsC (mi M H) v c ∧ COk okL B c ∧ LRes M (putR ps n c) H Q
theorem dueS_some {c : C} {e : Err} (h : due c = some e) : dueS c = errN e := by unfold dueS; rw [h]
theorem dueS_none {c : C} (h : due c = none) : dueS c = "" := by unfold dueS; rw [h]
theorem errN_ne (e : Err) : errN e ≠ "" := by cases e <;> decide +kernel
theorem putP_eq (ps : PsC) (n : Str) (c : C) : putP ps n c = (ps.map fun p => (p.1, if p.1 = n then c else p.2)) ++ (if (cin ps n).isNone = true then [(n, c)] else []) := by
  unfold putP
  cases h : cin ps n with
  | some d => rw [if_neg (by simp), List.append_nil]
  | none =>
    show ps ++ [(n, c)] = (ps.map fun p => (p.1, if p.1 = n then c else p.2)) ++ [(n, c)]
    congr 1
    have aux : ∀ l : PsC, cin l n = none → l = l.map fun p => (p.1, if p.1 = n then c else p.2) := by
      intro l
      induction l with
      | nil => intro _; rfl
      | cons p l ih =>
        intro h
        rw [cin_cons] at h
        by_cases z : p.1 = n
        · rw [if_pos z] at h; cases h
        · rw [if_neg z] at h
          rw [List.map_cons, ← ih h, if_neg z]
    exact aux ps h
theorem sc_law_put : FnScope ["_law_pairs", "_law_name", "_law_condition_here", "_law_used_here", "_law_later", "_law_other", "_law_told", "_law_due"] ["_law_pairs", "_law_name", "_law_condition_here"] (defScope s__law_put) := ⟨rfl, rfl, rfl, by decide +kernel, rfl, by decide +kernel, by decide +kernel⟩
theorem ok_lput (T : Txt w K mg) : Fn P w K mg base 31 (He.ga K "_law_put") spLPut := by
  have G_law_sizes_due : Fn P w K mg base 30 (He.ga K "_law_sizes_due") (spLDue 28) := ok_ldue T 28
  have G_law_used : Fn P w K mg base 4 (He.ga K "_law_used") (spUsed 2) := ok_lused T 2
  have G_law_found : Fn P w K mg base 1 (He.ga K "_law_found") spFound := ok_found T
  have G_law_reached : Fn P w K mg base 5 (He.ga K "_law_reached") spReached := ok_reached T
  have G_law_whole : Fn P w K mg base 19 (He.ga K "_law_whole") (spWholeIn 14) := ok_lwhole T 14
  refine mkN T.F_law_put sc_law_put (fun vs H Q E h => ?_) (fun _ _ _ _ _ _ us hl => match us, hl with | [_, _, _], _ => rfl) (fun cdv A outer s H vs Q E hr h => ?_)
  · obtain ⟨M, a, n, v, c, ps, S, B, rfl, _⟩ := h
    rfl
  obtain ⟨M, a, n, v, c, ps, S, B, rfl, av, hps, G, sb, hnS, hv, co, q⟩ := h
  refine ⟨_, (pss_cons (ps_if (pt_cmpR op_ne (pe_callR G_law_sizes_due (hr.mono (by omega)) T.g_law_sizes_due (kp T.F_law_sizes_due) passL (pa_cons (pv 2) pa_nil)) pe_str (nomark _)) (pss_one (ps_ret (pe_callR G_law_sizes_due (hr.mono (by omega)) T.g_law_sizes_due (kp T.F_law_sizes_due) passL (pa_cons (pv 2) pa_nil)))) pss_nil)
      (pss_cons (ps_set (i := 3) sc_law_put.nd rfl (Or.inl rfl) (pe_callR G_law_used (hr.mono (by omega)) T.g_law_used (kp T.F_law_used) passL (pa_cons (pv 2) pa_nil)))
      (pss_cons (ps_if (pt_val (pe_callB (anyq K rfl) rfl T.b_any (by decide +kernel) (pa_cons (pe_lc (own := [("_law_other", 5)]) (g := gName 5) (tt := tYes) rfl sc_law_put.nd (pil K (pv 3)) (blkOk_by (N := ["_law_pairs", "_law_name", "_law_condition_here", "_law_used_here", "_law_later", "_law_other", "_law_told", "_law_due"]) (sc := defScope s__law_put) (by decide +kernel)) (fun _ _ _ _ _ => (pg_name (i := 5) sc_law_put.nd rfl (Or.inl rfl))) (fun _ _ _ _ _ => pts_nil) (fun _ _ _ _ _ => (pe_cmpR op_eq (pe_callB (lenq K) rfl T.b_len PySem.boot_len (pa_cons (pe_callR G_law_found (hr.mono (by omega)) T.g_law_found (kp T.F_law_found) passL (pa_cons (pv 0) (pa_cons (pv 5) pa_nil))) pa_nil)) pe_int (nomark _)))) pa_nil))) (pss_one (ps_ret pe_str)) pss_nil)
      (pss_cons (ps_if (pt_cmpR (inq K) (pv 1) (pe_callR G_law_reached (hr.mono (by omega)) T.g_law_reached (kp T.F_law_reached) passL (pa_cons (pv 0) (pa_cons (pv 3) pa_nil))) rfl) (pss_one (ps_ret pe_str)) pss_nil)
      (pss_cons (ps_setLc (i := 4) (own := [("_law_other", 5), ("_law_told", 6)]) (g := _) (tt := tYes) rfl sc_law_put.nd rfl rfl (sw_true rfl rfl rfl (by decide +kernel)) (pil K (pv 0)) (blkOk_by (N := ["_law_pairs", "_law_name", "_law_condition_here", "_law_used_here", "_law_later", "_law_other", "_law_told", "_law_due"]) (sc := defScope s__law_put) (by decide +kernel)) (fun _ _ _ _ _ => (pgt (n := 2) K rfl (pgs_cons (pg_name (i := 5) sc_law_put.nd rfl (Or.inl rfl)) (pgs_cons (pg_name (i := 6) sc_law_put.nd rfl (Or.inl rfl)) pgs_nil)))) (fun _ _ _ _ _ => pts_nil) (fun _ _ _ _ _ => (pe_tup (pa_cons (pv 5) (pa_cons (pe_ix (ixl K) (pe_lst (pa_cons (pv 6) (pa_cons (pv 2) pa_nil))) (pe_callTy call_int1 rfl T.b_int (by decide +kernel) (pa_cons (pe_cmpR op_eq (pv 5) (pv 1) (nomark _)) pa_nil)) (fun _ _ => rfl)) pa_nil)))))
      (pss_cons (ps_if (pt_cmpR op_eq (pe_callB (lenq K) rfl T.b_len PySem.boot_len (pa_cons (pe_callR G_law_found (hr.mono (by omega)) T.g_law_found (kp T.F_law_found) passL (pa_cons (pv 0) (pa_cons (pv 1) pa_nil))) pa_nil)) pe_int (nomark _)) (pss_one (ps_set (i := 4) sc_law_put.nd rfl (Or.inl rfl) (pe_op op_cat (pv 4) (pe_lst (pa_cons (pe_tup (pa_cons (pv 1) (pa_cons (pv 2) pa_nil))) pa_nil))))) pss_nil)
      (pss_cons (ps_for PassesOwn.never rfl (pil K (pv 4)) (pgt (n := 2) K rfl (pgs_cons (pg_name (i := 5) sc_law_put.nd rfl (Or.inl rfl)) (pgs_cons (pg_name (i := 6) sc_law_put.nd rfl (Or.inl rfl)) pgs_nil))) (pss_cons (ps_set (i := 7) sc_law_put.nd rfl (Or.inl rfl) (pe_callR G_law_sizes_due (hr.mono (by omega)) T.g_law_sizes_due (kp T.F_law_sizes_due) passL (pa_cons (pe_callR G_law_whole (hr.mono (by omega)) T.g_law_whole (kp T.F_law_whole) passL (pa_cons (pv 4) (pa_cons (pv 5) pa_nil))) pa_nil)))
      (pss_one (ps_if (pt_cmpR op_ne (pv 7) pe_str (nomark _)) (pss_one (ps_ret (pv 7))) pss_nil))))
      (pss_one (ps_ret (pv 4)))))))))), ?_⟩
  have cl4 : c.leaves.length ≤ 4 := Nat.le_trans co.len sb.b4
  have ul : c.used.length ≤ 4 := Nat.le_trans (Cnd.used_len c) cl4
  have pl : ps.length ≤ 13 := Nat.le_trans G.len sb.s
  have cd := co.dep
  obtain ⟨r, rt⟩ := rt_of G sb
  unfold putR at q
  refine ⟨_, rfl, M, v, c, rfl, av, hv, by omega, by omega, fun H1 s1 => ?_⟩
  cases hd : due c with
  | some e =>
    rw [hd] at q
    rw [dueS_some hd]
    refine ⟨rfl, _, rfl, ite2 (fun _ => ?_) (fun z => ?_)⟩
    · refine ⟨_, rfl, M, v, c, rfl, av.same s1, hv.same (mi_same s1), by omega, by omega, fun H2 s2 => ?_⟩
      rw [dueS_some hd]
      exact q _ (s1.trans s2)
    · refine absurd ?_ z
      rw [dec_strS, decide_eq_false (errN_ne e)]
      rfl
  | none =>
  rw [hd] at q
  rw [dueS_none hd]
  refine ⟨rfl, _, rfl, iteF ?_⟩
  refine ⟨_, rfl, M, v, c, rfl, av.same s1, hv.same (mi_same s1), cd, by omega, fun l H3 s3 n3 e3 => ?_⟩
  have s03 := s1.trans s3
  refine ⟨_, rfl, l, rfl, ⟨_, SqL.of e3⟩, fun D nD => ?_⟩
  refine lc_list (K := K) (a := l) (xs := c.used.map V.str) (fun i H' => Same H3 H' ∧ H' D = some (.lst (((c.used.take i).map fun u => (cin ps u).isNone).map V.bl)))
    ⟨same_new nD _, upd_same⟩ (fun i H' _ h => SqL.of (h.1 _ _ e3)) ?_ ?_
  · rintro i x H' hi ⟨s4, eD⟩
    obtain ⟨u, hu, rfl⟩ := str_at hi
    refine ⟨rfl, ?_⟩
    have s04 := s03.trans s4
    refine ⟨_, rfl, _, rfl, M, a, u, ps, rfl, av.same s04, hps.same (mi_same s04), G.nd, by omega, fun l5 xs5 H5 s5 n5 e5 fo => ⟨l5, _, rfl, .inl (SqL.of e5), rfl, ?_⟩⟩
    have key : decide (V.int ((xs5.length : Nat) : Int) = V.int 0) = (cin ps u).isNone := by
      cases hc : cin ps u with
      | none =>
        rw [hc] at fo
        have fo : xs5 = [] := fo
        subst fo
        rfl
      | some d =>
        rw [hc] at fo
        obtain ⟨v0, rfl, _⟩ := fo
        rfl
    rw [key]
    exact ⟨_, s5 _ _ eD, bools_len _ _ _ (by omega), (s4.trans s5).put nD _, by rw [upd_same, bools_end _ hu]⟩
  rintro H4 ⟨s4, e4⟩
  rw [List.length_map, List.take_length] at e4
  refine ⟨D, _, rfl, SqL.of e4, _, rfl, ?_⟩
  rw [any_map_id]
  have s04 := s03.trans s4
  dsimp only at q
  refine ite2 (fun z => ?_) (fun z => ?_)
  · rw [if_pos z] at q
    exact q _ s04
  rw [if_neg z] at q
  have known : ∀ u ∈ c.used, ∃ d, cin ps u = some d := fun u hu => by
    cases e : cin ps u with
    | some d => exact ⟨d, rfl⟩
    | none => exact absurd (List.any_eq_true.mpr ⟨u, hu, by rw [e]; rfl⟩) z
  refine ⟨_, rfl, _, rfl, _, rfl, M, a, l, ps, r, S, B, c.used, rfl, av.same s04, hps.same (mi_same s04), rt, s4 _ _ e3, ul, fun l5 H5 s5 n5 e5 => ?_⟩
  have s05 := s04.trans s5
  obtain ⟨RR, hRR⟩ : ∃ x, x = iterR ps 40 c.used := ⟨_, rfl⟩
  rw [← hRR] at e5
  refine ⟨l5, _, rfl, .inl (SqL.of e5), rfl, flat_strs _, _, rfl, ?_⟩
  show if inV (.str n) (RR.map V.str) = true then _ else _
  have key : inV (.str n) (RR.map V.str) = c.used.any (leads ps n) := by
    rw [inV_str, Bool.eq_iff_iff, decide_eq_true_iff, hRR]
    exact reached_iff rt.rk (fun m => Nat.le_trans (rt.le13 m) (by decide)) known
  rw [key]
  refine ite2 (fun z2 => ?_) (fun z2 => ?_)
  · rw [if_pos z2] at q
    exact q _ s05
  rw [if_neg z2] at q
  have away : ∀ u ∈ c.used, leads ps n u = false := fun u hu => by
    cases e : leads ps n u with
    | false => rfl
    | true => exact absurd (List.any_eq_true.mpr ⟨u, hu, e⟩) z2
  -- the later pairs
  have hps5 := hps.same (mi_same (M := M) s05)
  obtain ⟨ys, b1, b2⟩ := hps5
  have ga := (mi_some b1).1
  refine ⟨_, rfl, a, rfl, ⟨_, SqL.of ga⟩, fun D2 nD2 => ?_⟩
  have nD2H : H D2 = none := s05.free nD2
  refine lc_list (K := K) (a := a) (xs := ys) (fun i H' => Same H5 H' ∧ ∃ zs, H' D2 = some (.lst zs) ∧ ArePs (mi (D2 :: M) H') zs ((ps.take i).map fun p => (p.1, if p.1 = n then c else p.2)))
    ⟨same_new nD2 _, [], upd_same, .nil⟩ (fun i H' _ h => SqL.of (h.1 _ _ ga)) ?_ ?_
  · rintro i x H' hi ⟨s6, zs, eD, ar⟩
    obtain ⟨⟨m, c1⟩, hp, a2, v1, rfl, e1, e2⟩ := paired_get b2 hi
    have hlt : i < ps.length := (List.getElem?_eq_some_iff.mp hp).1
    refine ⟨a2, _, rfl, SqT.of (s6 _ _ (mi_some e1).1), rfl, _, _, rfl, _, _, rfl, rfl, rfl, ?_⟩
    refine ⟨_, rfl, _, rfl, _, rfl, by show 2 ≤ sizeLine; decide, fun p1 np1 => ?_⟩
    refine ⟨_, rfl, _, rfl, rfl, .inr ⟨_, rfl, ?_⟩⟩
    have s7 : Same H' (upd H' p1 (.lst [v1, v])) := same_new np1 _
    have pick : ∃ x c2, atI [v1, v] (if decide (V.str m = V.str n) = true then 1 else 0) = some x ∧ IsC (mi M H5) x c2 ∧ c2 = (if m = n then c else c1) := by
      rw [dec_strS]
      by_cases z : m = n
      · rw [decide_eq_true z, if_pos rfl, if_pos z]
        exact ⟨v, c, atI_nat (j := 1) rfl, hv.same (mi_same s05), rfl⟩
      · rw [decide_eq_false z, if_neg Bool.false_ne_true, if_neg z]
        exact ⟨v1, c1, atI_nat (j := 0) rfl, e2, rfl⟩
    obtain ⟨x, c2, p2, p3, p4⟩ := pick
    refine ⟨p1, _, _, x, rfl, rfl, SqL.of upd_same, p2, by show 2 ≤ sizeLine; decide, fun t nt => ?_⟩
    have s8 : Same (upd H' p1 (.lst [v1, v])) (upd (upd H' p1 (.lst [v1, v])) t (.tup [.str m, x])) := same_new nt _
    have s78 := s7.trans s8
    refine ⟨zs, s78 _ _ eD, ?_, (s6.trans s78).put nD2 _, _, upd_same, ?_⟩
    · have := paired_len ar
      rw [List.length_map, List.length_take] at this
      exact big_line' (by omega)
    · have up : Same (mi (D2 :: M) (upd (upd H' p1 (.lst [v1, v])) t (.tup [.str m, x]))) (mi (D2 :: M) (upd (upd (upd H' p1 (.lst [v1, v])) t (.tup [.str m, x])) D2 (.lst (zs ++ [.ref t])))) := (ta_put (M := [D2]) (by simp) _).mi (by simp)
      have av5 : Av (D2 :: M) H' := ((av.same s05).same s6).cons eD
      rw [take_more hp, List.map_append]
      refine paired_app ((ar.same (mi_same s78)).same up) (.cons ⟨t, x, rfl, up _ _ (mi_new (av5.same s7) nt), ?_⟩ .nil)
      have := (p3.same (carry (s6.trans s78) nD2)).same up
      rw [p4] at this
      exact this
  rintro H6 ⟨s6, zs, e6, ar⟩
  have yl := paired_len b2
  rw [yl, List.take_length] at ar
  have s06 := s05.trans s6
  have av6 := av.same s06
  have ar6 := ArePs.same (mi_sub (N := M) _ fun _ => List.mem_cons_of_mem _) ar
  refine ⟨_, rfl, _, rfl, M, a, n, ps, rfl, av6, hps.same (mi_same s06), G.nd, by omega, fun l7 xs7 H7 s7 n7 e7 fo => ⟨l7, _, rfl, .inl (SqL.of e7), rfl, _, rfl, ?_⟩⟩
  have s07 := s06.trans s7
  have G' : Good okL S B (putP ps n c) := G.putP (Nat.le_trans sb.s (by decide)) hnS co known away
  obtain ⟨r', rt'⟩ := rt_of G' sb
  have pl' : (putP ps n c).length ≤ 13 := Nat.le_trans G'.len sb.s
  have zl := paired_len ar6
  rw [List.length_map] at zl
  obtain ⟨fx, hfx⟩ : ∃ x, x = (putP ps n c).findSome? (fun q => due (wh (putP ps n c) q.1)) := ⟨_, rfl⟩
  rw [← hfx] at q
  have hv7 := hv.same (mi_same (M := M) s07)
  -- the new list stands at b
  cases hcn : cin ps n
  case' some d =>
    rw [hcn] at fo
    obtain ⟨v0, rfl, _⟩ := fo
    refine iteF ?_
    have D3 := D2
    obtain ⟨b, H8, s8, nb, hb⟩ : ∃ b H8, H8 = H7 ∧ b = D2 ∧ IsPs (mi M H8) b (putP ps n c) := ⟨D2, H7, rfl, rfl, zs, mi_at (av.out nD2H) (s7 _ _ e6), by
      rw [putP_eq, hcn, if_neg (by simp), List.append_nil]
      exact ar6.same (mi_same s7)⟩
    subst s8 nb
    have s08 := s07
    have nbH := nD2H
  case' none =>
    rw [hcn] at fo
    have fo : xs7 = [] := fo
    subst fo
    refine iteT ?_
    refine ⟨_, rfl, _, rfl, _, rfl, by show 2 ≤ sizeLine; decide, fun t nt => ?_⟩
    have s8a : Same H7 (upd H7 t (.tup [.str n, v])) := same_new nt _
    refine ⟨by show 1 ≤ sizeLine; decide, fun t1 nt1 => ?_⟩
    have s8b : Same H7 (upd (upd H7 t (.tup [.str n, v])) t1 (.lst [.ref t])) := s8a.new nt1 _
    refine ⟨D2, t1, _, _, rfl, rfl, (s7.trans s8b) _ _ e6, upd_same, big_line (by rw [zl]; show ps.length + 1 ≤ _; omega), fun b nb => ?_⟩
    have s8 : Same H7 (upd (upd (upd H7 t (.tup [.str n, v])) t1 (.lst [.ref t])) b (.lst (zs ++ [.ref t]))) := s8b.new nb _
    have hb : IsPs (mi M (upd (upd (upd H7 t (.tup [.str n, v])) t1 (.lst [.ref t])) b (.lst (zs ++ [.ref t])))) b (putP ps n c) := ⟨_, mi_new ((av.same s07).same s8b) nb, by
      rw [putP_eq, hcn]
      show ArePs _ _ ((ps.map fun p => (p.1, if p.1 = n then c else p.2)) ++ [(n, c)])
      exact paired_app (ar6.same (mi_same (s7.trans s8))) (.cons ⟨t, v, rfl, mi_upd nb _ _ (mi_upd nt1 _ _ (mi_new (av.same s07) nt)), hv7.same (mi_same s8)⟩ .nil)⟩
    generalize upd (upd (upd H7 t (.tup [.str n, v])) t1 (.lst [.ref t])) b (.lst (zs ++ [.ref t])) = H8 at s8 hb
    have s08 := s07.trans s8
    have nbH := s07.free (s8b.free nb)
  all_goals
    obtain ⟨qs, c1, c2⟩ := id hb
    have hb1 := (mi_some c1).1
    refine ⟨_, rfl, _, rfl, ⟨_, SqL.of hb1⟩, for_list (K := K) (xs := qs) (fun i σ H' => ∃ z1 z2 z3, σ = [some (.ref a), some (.str n), some v, some (.ref l), some (.ref _), z1, z2, z3] ∧ Same _ H' ∧ fx = ((putP ps n c).drop i).findSome? (fun q => due (wh (putP ps n c) q.1)))
      ⟨none, none, none, rfl, Same.refl _, hfx⟩ (fun i σ H' _ ⟨_, _, _, _, h, _⟩ => SqL.of (h _ _ hb1)) ?_ ?_⟩
    · rintro i x σ H' hi ⟨z1, z2, z3, rfl, s9, hf⟩
      obtain ⟨⟨m, cm⟩, hp, a2, v1, rfl, e1, e2⟩ := paired_get c2 hi
      have s09 := s08.trans s9
      refine ⟨a2, _, rfl, SqT.of (s9 _ _ (mi_some e1).1), rfl, _, _, rfl, _, _, rfl, rfl, ?_⟩
      have hcm := cin_of_mem G'.nd (List.mem_of_getElem? hp)
      refine ⟨_, rfl, _, rfl, M, _, _, r', S, B, m, rfl, av.same s09, hb.same (mi_same s9), rt', ⟨_, hcm⟩, by have := rt'.le13 m; omega, fun v9 H9 s10 hv9 => ?_⟩
      obtain ⟨w1, w2, w3, w4⟩ := rt_whole rt' ⟨_, hcm⟩
      have s010 := s09.trans s10
      refine ⟨M, v9, _, rfl, av.same s010, hv9, w1, w2, fun H11 s11 => ?_⟩
      rw [find_drop hp] at hf
      cases hd2 : due (wh (putP ps n c) m) with
      | some e =>
        rw [hd2] at hf
        subst hf
        rw [dueS_some hd2]
        refine ⟨_, rfl, rfl, _, rfl, ite2 (fun _ => ⟨_, rfl, q _ (s010.trans s11)⟩) (fun z => ?_)⟩
        refine absurd ?_ z
        rw [dec_strS, decide_eq_false (errN_ne e)]
        rfl
      | none =>
        rw [hd2] at hf
        rw [dueS_none hd2]
        exact ⟨_, rfl, rfl, _, rfl, iteF ⟨_, _, _, rfl, (s9.trans s10).trans s11, hf⟩⟩
    · rintro σ H' ⟨z1, z2, z3, rfl, s9, hf⟩
      rw [paired_len c2, List.drop_length] at hf
      subst hf
      exact ⟨_, rfl, q _ _ (s08.trans s9) nbH (hb.same (mi_same s9))⟩
end
end Sh
set_option Elab.async false
set_option linter.all false
set_option maxRecDepth 100000
set_option maxHeartbeats 4000000
namespace Sh
open PySem PySem.Spec PyProof.Rows L2 StX
inductive Deed where
  | put (n : Str) (c : C)
  | rem (n : Str)
  | ren (n o : Str)
def IsD (H : Hp) : V → Deed → Prop
  | v, .put n c => ∃ a x, v = .ref a ∧ H a = some (.tup [.str "put", .str n, x]) ∧ IsC H x c
  | v, .rem n => ∃ a, v = .ref a ∧ H a = some (.tup [.str "remove", .str n])
  | v, .ren n o => ∃ a, v = .ref a ∧ H a = some (.tup [.str "rename", .str n, .str o])
theorem IsD.same {H H' : Hp} (s : Same H H') : ∀ {v : V} {d : Deed}, IsD H v d → IsD H' v d
  | v, .put n c, ⟨a, x, e, h1, h2⟩ => ⟨a, x, e, s _ _ h1, h2.same s⟩
  | v, .rem n, ⟨a, e, h1⟩ => ⟨a, e, s _ _ h1⟩
  | v, .ren n o, ⟨a, e, h1⟩ => ⟨a, e, s _ _ h1⟩
def DeedOk (S : List Str) (B : Nat) : Deed → Prop
  | .put n c => n ∈ S ∧ COk okL B c
  | .rem n => n ∈ S
  | .ren n o => n ∈ S ∧ o ∈ S
def stepR (ps : PsC) : Deed → Except Err PsC
  | .put n c => putR ps n c
  | .rem n => remR ps n
  | .ren n o => renR ps n o
section
variable {P : Program} {w : World} {K : PySem.W.Frag} {mg : Str → Option Value} {base : Heap}
/-! ### _law_behind -/
def spBehind : Sp := fun vs H Q _ => ∃ M a x ps dd S B, vs = [.ref a, x] ∧ Av M H ∧ IsPs (mi M H) a ps ∧ Good okL S B ps ∧ SB S B ∧ IsD (mi M H) x dd ∧ DeedOk S B dd ∧ LRes M (stepR ps dd) H Q
theorem put_ne_rem : decide (V.str "remove" = V.str "put") = false := by decide +kernel
theorem put_ne_ren : decide (V.str "rename" = V.str "put") = false := by decide +kernel
theorem ren_ne_rem : decide (V.str "rename" = V.str "remove") = false := by decide +kernel
theorem sc_law_behind : FnScope ["_law_pairs", "_law_deed_here", "_law_names_here", "_law_new", "_law_pair", "_law_other", "_law_condition_here", "_law_told"] ["_law_pairs", "_law_deed_here"] (defScope s__law_behind) := ⟨rfl, rfl, rfl, by decide +kernel, rfl, by decide +kernel, by decide +kernel⟩
theorem ok_behind (T : Txt w K mg) : Fn P w K mg base 32 (He.ga K "_law_behind") spBehind := by
  have G_law_put : Fn P w K mg base 31 (He.ga K "_law_put") spLPut := ok_lput T
  have G_law_used : Fn P w K mg base 4 (He.ga K "_law_used") (spUsed 2) := ok_lused T 2
  have G_law_filled : Fn P w K mg base 3 (He.ga K "_law_filled") (spLFill 2) := ok_lfill T 2
  refine mkN T.F_law_behind sc_law_behind (fun vs H Q E h => ?_) (fun _ _ _ _ _ _ us hl => match us, hl with | [_, _], _ => rfl) (fun cdv A outer s H vs Q E hr h => ?_)
  · obtain ⟨M, a, x, ps, dd, S, B, rfl, _⟩ := h
    rfl
  obtain ⟨M, a, x, ps, dd, S, B, rfl, av, hps, G, sb, hdd, dok, q⟩ := h
  refine ⟨_, (pss_cons (ps_setLc (i := 2) (own := [("_law_pair", 4)]) (g := gName 4) (tt := tYes) rfl sc_law_behind.nd rfl rfl (sw_true rfl rfl rfl (by decide +kernel)) (pil K (pv 0)) (blkOk_by (N := ["_law_pairs", "_law_deed_here", "_law_names_here", "_law_new", "_law_pair", "_law_other", "_law_condition_here", "_law_told"]) (sc := defScope s__law_behind) (by decide +kernel)) (fun _ _ _ _ _ => (pg_name (i := 4) sc_law_behind.nd rfl (Or.inl rfl))) (fun _ _ _ _ _ => pts_nil) (fun _ _ _ _ _ => (pe_ix (ixt K) (pv 4) pe_int (fun _ _ => rfl))))
      (pss_cons (ps_if (pt_cmpR op_eq (pe_ix (ixt K) (pv 1) pe_int (fun _ _ => rfl)) pe_str (nomark _)) (pss_one (ps_ret (pe_callR G_law_put (hr.mono (by omega)) T.g_law_put (kp T.F_law_put) passL (pa_cons (pv 0) (pa_cons (pe_ix (ixt K) (pv 1) pe_int (fun _ _ => rfl)) (pa_cons (pe_ix (ixt K) (pv 1) pe_int (fun _ _ => rfl)) pa_nil)))))) pss_nil)
      (pss_cons (ps_if (pt_cmpR (notInq K) (pe_ix (ixt K) (pv 1) pe_int (fun _ _ => rfl)) (pv 2) rfl) (pss_one (ps_ret pe_str)) pss_nil)
      (pss_cons (ps_if (pt_cmpR op_eq (pe_ix (ixt K) (pv 1) pe_int (fun _ _ => rfl)) pe_str (nomark _)) (pss_cons (ps_if (pt_val (pe_callB (anyq K rfl) rfl T.b_any (by decide +kernel) (pa_cons (pe_lc (own := [("_law_other", 5), ("_law_condition_here", 6)]) (g := _) (tt := tYes) rfl sc_law_behind.nd (pil K (pv 0)) (blkOk_by (N := ["_law_pairs", "_law_deed_here", "_law_names_here", "_law_new", "_law_pair", "_law_other", "_law_condition_here", "_law_told"]) (sc := defScope s__law_behind) (by decide +kernel)) (fun _ _ _ _ _ => (pgt (n := 2) K rfl (pgs_cons (pg_name (i := 5) sc_law_behind.nd rfl (Or.inl rfl)) (pgs_cons (pg_name (i := 6) sc_law_behind.nd rfl (Or.inl rfl)) pgs_nil)))) (fun _ _ _ _ _ => pts_nil) (fun _ _ _ _ _ => (pe_cmpR (inq K) (pe_ix (ixt K) (pv 1) pe_int (fun _ _ => rfl)) (pe_callR G_law_used (hr.mono (by omega)) T.g_law_used (kp T.F_law_used) passL (pa_cons (pv 6) pa_nil)) rfl))) pa_nil))) (pss_one (ps_ret pe_str)) pss_nil)
      (pss_one (ps_ret (pe_lc (own := [("_law_pair", 4)]) (g := gName 4) (tt := _) rfl sc_law_behind.nd (pil K (pv 0)) (blkOk_by (N := ["_law_pairs", "_law_deed_here", "_law_names_here", "_law_new", "_law_pair", "_law_other", "_law_condition_here", "_law_told"]) (sc := defScope s__law_behind) (by decide +kernel)) (fun _ _ _ _ _ => (pg_name (i := 4) sc_law_behind.nd rfl (Or.inl rfl))) (fun _ _ _ _ _ => (pts_one (pt_cmpR op_ne (pe_ix (ixt K) (pv 4) pe_int (fun _ _ => rfl)) (pe_ix (ixt K) (pv 1) pe_int (fun _ _ => rfl)) (nomark _)))) (fun _ _ _ _ _ => (pv 4)))))) pss_nil)
      (pss_cons (ps_if (PW.pt (pw_and (pt_cmpR op_ne (pe_ix (ixt K) (pv 1) pe_int (fun _ _ => rfl)) (pe_ix (ixt K) (pv 1) pe_int (fun _ _ => rfl)) (nomark _)) (pw_and1 (pt_cmpR (inq K) (pe_ix (ixt K) (pv 1) pe_int (fun _ _ => rfl)) (pv 2) rfl)))) (pss_one (ps_ret pe_str)) pss_nil)
      (pss_cons (ps_set (i := 3) sc_law_behind.nd rfl (Or.inr rfl) (pe_tup (pa_cons pe_str (pa_cons (pe_ix (ixt K) (pv 1) pe_int (fun _ _ => rfl)) pa_nil))))
      (pss_one (ps_ret (pe_lc (own := [("_law_other", 5), ("_law_told", 7)]) (g := _) (tt := tYes) rfl sc_law_behind.nd (pil K (pv 0)) (blkOk_by (N := ["_law_pairs", "_law_deed_here", "_law_names_here", "_law_new", "_law_pair", "_law_other", "_law_condition_here", "_law_told"]) (sc := defScope s__law_behind) (by decide +kernel)) (fun _ _ _ _ _ => (pgt (n := 2) K rfl (pgs_cons (pg_name (i := 5) sc_law_behind.nd rfl (Or.inl rfl)) (pgs_cons (pg_name (i := 7) sc_law_behind.nd rfl (Or.inl rfl)) pgs_nil)))) (fun _ _ _ _ _ => pts_nil) (fun _ _ _ _ _ => (pe_tup (pa_cons (pe_ix (ixl K) (pe_lst (pa_cons (pv 5) (pa_cons (pe_ix (ixt K) (pv 1) pe_int (fun _ _ => rfl)) pa_nil))) (pe_callTy call_int1 rfl T.b_int (by decide +kernel) (pa_cons (pe_cmpR op_eq (pv 5) (pe_ix (ixt K) (pv 1) pe_int (fun _ _ => rfl)) (nomark _)) pa_nil)) (fun _ _ => rfl)) (pa_cons (pe_callR G_law_filled (hr.mono (by omega)) T.g_law_filled (kp T.F_law_filled) passL (pa_cons (pv 7) (pa_cons (pe_lst (pa_cons (pv 3) pa_nil)) (pa_cons (pe_lst (pa_cons (pe_ix (ixt K) (pv 1) pe_int (fun _ _ => rfl)) pa_nil)) pa_nil)))) pa_nil))))))))))))), ?_⟩
  have pl : ps.length ≤ 13 := Nat.le_trans G.len sb.s
  obtain ⟨ys, b1, b2⟩ := id hps
  have ga := (mi_some b1).1
  have yl := paired_len b2
  have ulen : ∀ y ∈ ps, y.2.used.length ≤ 4 := fun y hy => Nat.le_trans (Cnd.used_len _) (Nat.le_trans (G.cnd y hy).len sb.b4)
  refine ⟨_, rfl, a, rfl, ⟨_, SqL.of ga⟩, fun D nD => ?_⟩
  refine lc_list (K := K) (a := a) (xs := ys) (fun i H' => Same H H' ∧ H' D = some (.lst (((ps.take i).map (·.1)).map V.str)))
    ⟨same_new nD _, upd_same⟩ (fun i H' _ h => SqL.of (h.1 _ _ ga)) ?_ ?_
  · rintro i x H' hi ⟨s1, eD⟩
    obtain ⟨⟨m, c1⟩, hp, a2, v1, rfl, e1, e2⟩ := paired_get b2 hi
    refine ⟨rfl, _, rfl, a2, _, 0, _, rfl, rfl, SqT.of (s1 _ _ (mi_some e1).1), at0 _ _, _, eD, ?_, s1.put nD _, ?_⟩
    · rw [List.length_map, List.length_map, List.length_take]
      exact big_line' (by omega)
    · rw [upd_same, take_more hp, List.map_append, List.map_append]
      rfl
  rintro H1 ⟨s1, eD⟩
  rw [yl, List.take_length] at eD
  have eD : H1 D = some (.lst ((nms ps).map V.str)) := eD
  have ga1 := s1 _ _ ga
  have av1 := av.same s1
  cases dd with
  | put n c =>
    obtain ⟨ad, xc, rfl, d1, d2⟩ := hdd
    have d1H := s1 _ _ (mi_some d1).1
    refine ⟨_, rfl, ad, _, 0, _, rfl, rfl, SqT.of d1H, at0 _ _, rfl, _, rfl, ?_⟩
    refine ite2 (fun _ => ?_) (fun z => absurd (by decide +kernel) z)
    refine ⟨_, rfl, _, rfl, ad, _, 1, _, rfl, rfl, SqT.of d1H, at1 _ _ _, _, rfl, ad, _, 2, _, rfl, rfl, SqT.of d1H, at2 _ _ _ _, ?_⟩
    refine ⟨M, a, n, xc, c, ps, S, B, rfl, av1, hps.same (mi_same s1), G, sb, dok.1, d2.same (mi_same s1), dok.2, ?_⟩
    have q : LRes M (putR ps n c) H Q := q
    unfold LRes at q ⊢
    cases hr' : putR ps n c with
    | error e => rw [hr'] at q; exact fun H' s => q _ (s1.trans s)
    | ok ps' => rw [hr'] at q; exact fun l H' s nl h => q l _ (s1.trans s) (s1.free nl) h
  | rem n =>
    obtain ⟨ad, rfl, d1⟩ := hdd
    have d1H := s1 _ _ (mi_some d1).1
    refine ⟨_, rfl, ad, _, 0, _, rfl, rfl, SqT.of d1H, at0 _ _, rfl, _, rfl, ?_⟩
    rw [put_ne_rem]
    refine iteF ⟨_, rfl, ad, _, 1, _, rfl, rfl, SqT.of d1H, at1 _ _ _, _, rfl, D, _, rfl, .inl (SqL.of eD), rfl, flat_strs _, _, rfl, ?_⟩
    show if (!inV (.str n) ((nms ps).map V.str)) = true then _ else _
    rw [inV_str]
    have q : LRes M (remR ps n) H Q := q
    unfold remR at q
    by_cases hn : n ∈ nms ps
    case neg =>
      rw [decide_eq_false hn]
      rw [cin_none.mpr hn] at q
      exact iteT (q _ s1)
    rw [decide_eq_true hn]
    obtain ⟨c0, hc0⟩ := cin_some.mp hn
    rw [hc0, if_neg (by simp)] at q
    refine iteF ⟨_, rfl, ad, _, 0, _, rfl, rfl, SqT.of d1H, at0 _ _, rfl, _, rfl, ?_⟩
    refine ite2 (fun _ => ?_) (fun z => absurd (by decide +kernel) z)
    refine ⟨_, rfl, a, rfl, ⟨_, SqL.of ga1⟩, fun D2 nD2 => ?_⟩
    refine lc_list (K := K) (a := a) (xs := ys) (fun i H' => Same H1 H' ∧ H' D2 = some (.lst (((ps.take i).map fun y => decide (n ∈ y.2.used)).map V.bl)))
      ⟨same_new nD2 _, upd_same⟩ (fun i H' _ h => SqL.of (h.1 _ _ ga1)) ?_ ?_
    · rintro i x H' hi ⟨s2, e2D⟩
      obtain ⟨⟨m, c1⟩, hp, a2, v1, rfl, e1, e2⟩ := paired_get b2 hi
      have s02 := s1.trans s2
      have hm := G.cnd _ (List.mem_of_getElem? hp)
      refine ⟨a2, _, rfl, SqT.of (s02 _ _ (mi_some e1).1), rfl, _, _, rfl, _, _, rfl, rfl, rfl, ?_⟩
      refine ⟨_, rfl, ad, _, 1, _, rfl, rfl, SqT.of (s2 _ _ d1H), at1 _ _ _, _, rfl, M, v1, c1, rfl, av.same s02, e2.same (mi_same s02), hm.dep, Nat.le_trans hm.len (Nat.le_trans sb.b4 (by decide)), fun l3 H3 s3 n3 e3 => ?_⟩
      refine ⟨l3, _, rfl, .inl (SqL.of e3), rfl, flat_strs _, ?_⟩
      show ∃ acc, H3 D2 = some (.lst acc) ∧ acc.length < sizeLine ∧ Same H1 (upd H3 D2 (.lst (acc ++ [.bl (inV (.str n) (c1.used.map V.str))]))) ∧ upd H3 D2 (.lst (acc ++ [.bl (inV (.str n) (c1.used.map V.str))])) D2 = _
      rw [inV_str]
      refine ⟨_, s3 _ _ e2D, ?_, (s2.trans s3).put nD2 _, ?_⟩
      · rw [List.length_map, List.length_map, List.length_take]
        exact big_line' (by omega)
      · rw [upd_same, take_more hp, List.map_append, List.map_append]
        rfl
    rintro H2 ⟨s2, e2D⟩
    rw [yl, List.take_length] at e2D
    have s02 := s1.trans s2
    refine ⟨D2, _, rfl, SqL.of e2D, _, rfl, ?_⟩
    rw [any_map_id]
    refine ite2 (fun z => ?_) (fun z => ?_)
    · rw [if_pos z] at q
      exact q _ s02
    rw [if_neg z] at q
    have ga2 := s2 _ _ ga1
    refine ⟨_, rfl, a, rfl, ⟨_, SqL.of ga2⟩, fun D3 nD3 => ?_⟩
    have nD3H := s02.free nD3
    refine lc_list (K := K) (a := a) (xs := ys) (fun i H' => Same H2 H' ∧ ∃ zs, H' D3 = some (.lst zs) ∧ ArePs (mi (D3 :: M) H') zs ((ps.take i).filter fun y => decide (y.1 ≠ n)))
      ⟨same_new nD3 _, [], upd_same, .nil⟩ (fun i H' _ h => SqL.of (h.1 _ _ ga2)) ?_ ?_
    · rintro i x H' hi ⟨s3, zs, e3D, ar⟩
      obtain ⟨⟨m, c1⟩, hp, a3, v1, rfl, e1, e2⟩ := paired_get b2 hi
      have s03 := s02.trans s3
      refine ⟨rfl, ?_⟩
      refine ⟨_, rfl, a3, _, 0, _, rfl, rfl, SqT.of (s03 _ _ (mi_some e1).1), at0 _ _, _, rfl, ad, _, 1, _, rfl, rfl, SqT.of ((s2.trans s3) _ _ d1H), at1 _ _ _, rfl, _, rfl, ?_⟩
      have e0 : (!decide (V.str m = V.str n)) = decide (m ≠ n) := by
        rw [dec_strS, decide_not]
      rw [e0, take_more hp, List.filter_append]
      have hxx : IsP (mi (D3 :: M) H') (.ref a3) (m, c1) := (show IsP (mi M H) (.ref a3) (m, c1) from ⟨a3, v1, rfl, e1, e2⟩).same (carry s03 nD3H)
      refine ite2 (fun z => ?_) (fun z => ?_)
      · rw [show List.filter (fun y : Str × C => decide (y.1 ≠ n)) [(m, c1)] = [(m, c1)] from List.filter_cons_of_pos (p := fun y : Str × C => decide (y.1 ≠ n)) z]
        refine ⟨_, rfl, zs, e3D, ?_, s3.put nD3 _, _, upd_same, ?_⟩
        · have h1 := paired_len ar
          have h2 : ((ps.take i).filter fun y => decide (y.1 ≠ n)).length ≤ (ps.take i).length := List.length_filter_le ..
          rw [List.length_take] at h2
          exact big_line' (by omega)
        · have up : Same (mi (D3 :: M) H') (mi (D3 :: M) (upd H' D3 (.lst (zs ++ [.ref a3])))) := (ta_put (M := [D3]) (by simp) _).mi (by simp)
          exact paired_app (ar.same up) (.cons (hxx.same up) .nil)
      · rw [show List.filter (fun y : Str × C => decide (y.1 ≠ n)) [(m, c1)] = [] from List.filter_cons_of_neg (p := fun y : Str × C => decide (y.1 ≠ n)) z]
        exact ⟨s3, zs, e3D, by rw [List.append_nil]; exact ar⟩
    · rintro H' ⟨s3, zs, e3D, ar⟩
      rw [yl, List.take_length] at ar
      exact q D3 _ (s02.trans s3) nD3H ⟨zs, mi_at (av.out nD3H) e3D, ArePs.same (mi_sub _ fun _ => List.mem_cons_of_mem _) ar⟩
  | ren n o =>
    obtain ⟨ad, rfl, d1⟩ := hdd
    have d1H := s1 _ _ (mi_some d1).1
    refine ⟨_, rfl, ad, _, 0, _, rfl, rfl, SqT.of d1H, at0 _ _, rfl, _, rfl, ?_⟩
    rw [put_ne_ren]
    refine iteF ⟨_, rfl, ad, _, 1, _, rfl, rfl, SqT.of d1H, at1 _ _ _, _, rfl, D, _, rfl, .inl (SqL.of eD), rfl, flat_strs _, _, rfl, ?_⟩
    show if (!inV (.str n) ((nms ps).map V.str)) = true then _ else _
    rw [inV_str]
    have q : LRes M (renR ps n o) H Q := q
    unfold renR at q
    by_cases hn : n ∈ nms ps
    case neg =>
      rw [decide_eq_false hn]
      rw [cin_none.mpr hn] at q
      exact iteT (q _ s1)
    rw [decide_eq_true hn]
    obtain ⟨c0, hc0⟩ := cin_some.mp hn
    rw [hc0, if_neg (by simp)] at q
    refine iteF ⟨_, rfl, ad, _, 0, _, rfl, rfl, SqT.of d1H, at0 _ _, rfl, _, rfl, ?_⟩
    rw [ren_ne_rem]
    refine iteF ⟨_, rfl, ad, _, 2, _, rfl, rfl, SqT.of d1H, at2 _ _ _ _, _, rfl, ad, _, 1, _, rfl, rfl, SqT.of d1H, at1 _ _ _, rfl, _, rfl, ?_⟩
    rw [dec_strS]
    by_cases ho : o = n
    case' pos =>
      rw [if_neg (fun z => z.1 ho)] at q
      rw [decide_eq_true ho]
      refine iteF (iteF ?_)
    case' neg =>
      rw [decide_eq_false ho]
      refine iteT ⟨_, rfl, ad, _, 2, _, rfl, rfl, SqT.of d1H, at2 _ _ _ _, _, rfl, D, _, rfl, .inl (SqL.of eD), rfl, flat_strs _, _, rfl, ?_⟩
      show if inV (.str o) ((nms ps).map V.str) = true then _ else _
      rw [inV_str]
      by_cases hom : o ∈ nms ps
      case' pos =>
        obtain ⟨c1, hc1⟩ := cin_some.mp hom
        rw [if_pos ⟨ho, by rw [hc1]; rfl⟩] at q
        rw [decide_eq_true hom]
        exact iteT (q _ s1)
      case' neg =>
        rw [if_neg (by rw [cin_none.mpr hom]; simp)] at q
        rw [decide_eq_false hom]
        refine iteF ?_
    all_goals
      have q : ∀ l H', Same H H' → H l = none → IsPs (mi M H') l (renP ps n o) → Q (.ref l) H' := q
      refine ⟨_, rfl, ad, _, 2, _, rfl, rfl, SqT.of d1H, at2 _ _ _ _, by show 2 ≤ sizeLine; decide, fun t nt => ?_⟩
      have s1t : Same H1 (upd H1 t (.tup [.str "use", .str o])) := same_new nt _
      have s2 := s1.trans s1t
      have ga2 := s1t _ _ ga1
      have d2H := s1t _ _ d1H
      refine ⟨_, rfl, a, rfl, ⟨_, SqL.of ga2⟩, fun D3 nD3 => ?_⟩
      have nD3H := s2.free nD3
      refine lc_list (K := K) (a := a) (xs := ys) (fun i H' => Same H H' ∧ Same (upd H1 t (.tup [.str "use", .str o])) H' ∧ ∃ zs, H' D3 = some (.lst zs) ∧ ArePs (mi (D3 :: M) H') zs (renP (ps.take i) n o))
        ⟨s2.new nD3 _, same_new nD3 _, [], upd_same, .nil⟩ (fun i H' _ h => SqL.of (h.2.1 _ _ ga2)) ?_ ?_
      · rintro i x H' hi ⟨s3, s23, zs, e3D, ar⟩
        obtain ⟨⟨m, c1⟩, hp, a3, v1, rfl, e1, e2⟩ := paired_get b2 hi
        have ht : mi (D3 :: M) H' t = some (.tup [.str "use", .str o]) := carry s23 nD3 _ _ (mi_new av1 nt)
        have d3H := s23 _ _ d2H
        have hm := G.cnd _ (List.mem_of_getElem? hp)
        have av3 : Av (D3 :: M) H' := (av.same s3).cons e3D
        refine ⟨a3, _, rfl, SqT.of (s3 _ _ (mi_some e1).1), rfl, _, _, rfl, _, _, rfl, rfl, rfl, ?_⟩
        refine ⟨_, rfl, _, rfl, ad, _, 2, _, rfl, rfl, SqT.of d3H, at2 _ _ _ _, by show 2 ≤ sizeLine; decide, fun p1 np1 => ?_⟩
        have sp1 : Same H' (upd H' p1 (.lst [.str m, .str o])) := same_new np1 _
        refine ⟨_, rfl, _, rfl, ad, _, 1, _, rfl, rfl, SqT.of (sp1 _ _ d3H), at1 _ _ _, rfl, .inr ⟨_, rfl, ?_⟩⟩
        have pick : atI [.str m, .str o] (if decide (V.str m = V.str n) = true then 1 else 0) = some (V.str (if m = n then o else m)) := by
          rw [dec_strS]
          by_cases z : m = n
          · rw [decide_eq_true z, if_pos rfl, if_pos z]
            exact atI_nat (j := 1) rfl
          · rw [decide_eq_false z, if_neg Bool.false_ne_true, if_neg z]
            exact atI_nat (j := 0) rfl
        refine ⟨p1, _, _, _, rfl, rfl, SqL.of upd_same, pick, ?_⟩
        refine ⟨_, rfl, _, rfl, by show 1 ≤ sizeLine; decide, fun p2 np2 => ?_⟩
        have sp2 := sp1.new np2 (.lst [.ref t])
        refine ⟨_, rfl, ad, _, 1, _, rfl, rfl, SqT.of (sp2 _ _ d3H), at1 _ _ _, by show 1 ≤ sizeLine; decide, fun p3 np3 => ?_⟩
        have sp3 := sp2.new np3 (.lst [.str n])
        have n23 : p2 ≠ p3 := ne_of_none upd_same np3
        refine ⟨D3 :: M, v1, c1, p2, p3, [n], [.ref t], ren n o, rfl, av3.same sp3, (e2.same (carry s3 nD3H)).same (mi_same sp3), by rw [upd_ne n23]; exact upd_same, upd_same, ?_, hm.dep, fun v' H7 s7 hv' => ?_⟩
        · intro u hu
          by_cases z : u = n
          · subst z
            exact .inr ⟨0, .ref t, .us o, rfl, fun k _ hk => absurd hk (Nat.not_lt_zero _), rfl, by rw [ren, if_pos rfl], t, rfl, mi_same sp3 _ _ ht⟩
          · exact .inl ⟨by simpa using z, by rw [ren, if_neg z]⟩
        · have s37 := sp3.trans s7
          refine ⟨by show 2 ≤ sizeLine; decide, fun t2 nt2 => ?_⟩
          have s8 : Same H7 (upd H7 t2 (.tup [.str (if m = n then o else m), v'])) := same_new nt2 _
          have s38 := s37.trans s8
          refine ⟨zs, s38 _ _ e3D, ?_, (s3.trans s38).put nD3H _, (s23.trans s38).put nD3 _, _, upd_same, ?_⟩
          · have := paired_len ar
            rw [renP, List.length_map, List.length_take] at this
            exact big_line' (by omega)
          · rw [take_more hp]
            have e9 : renP (ps.take i ++ [(m, c1)]) n o = renP (ps.take i) n o ++ [(if m = n then o else m, Cnd.fill (ren n o) c1)] := by
              rw [renP, List.map_append]
              rfl
            rw [e9]
            have up : Same (mi (D3 :: M) (upd H7 t2 (.tup [.str (if m = n then o else m), v']))) (mi (D3 :: M) (upd (upd H7 t2 (.tup [.str (if m = n then o else m), v'])) D3 (.lst (zs ++ [.ref t2])))) := (ta_put (M := [D3]) (by simp) _).mi (by simp)
            refine paired_app ((ar.same (mi_same s38)).same up) (.cons ⟨t2, v', rfl, up _ _ (mi_new (av3.same s37) nt2), (hv'.same (mi_same s8)).same up⟩ .nil)
      · rintro H' ⟨s3, s23, zs, e3D, ar⟩
        rw [yl, List.take_length] at ar
        exact q D3 _ s3 nD3H ⟨zs, mi_at (av.out nD3H) e3D, ArePs.same (mi_sub _ fun _ => List.mem_cons_of_mem _) ar⟩
end
end Sh
set_option Elab.async false
set_option linter.all false
set_option maxRecDepth 100000
set_option maxHeartbeats 4000000
namespace Sh
open PySem PySem.Spec PyProof.Rows L2 StX
structure Aux2 (K : PySem.W.Frag) : Prop where
  exc : ∀ e : Err, ExcC K (He.ga K (errN e))
  kit : ∀ e e' : Err, PySem.W.kitOne K (.ref (He.ga K (errN e))) (.ref (He.ga K (errN e'))) = some (decide (e = e'))
  exm : ∀ e : Err, PySem.W.exmOne K (.ref (He.ga K (errN e))) (.ref (He.ga K "WhereError")) = some true
section
variable {P : Program} {w : World} {K : PySem.W.Frag} {mg : Str → Option Value} {base : Heap}
/-! ### _law_class -/
def spClass (K : PySem.W.Frag) : Addr × Obj → Sp := fun p vs H Q _ => ∃ e : Err, vs = [.ref p.1] ∧ Zc (.ref (He.ga K (errN e))) none p.2 ∧ (∃ us, p.2.data = .fields us) ∧ ∀ H', Same H H' → Q (.str (errN e)) H'
theorem sc_law_class : FnScope ["_law_error"] ["_law_error"] (defScope s__law_class) := ⟨rfl, rfl, rfl, by decide +kernel, rfl, by decide +kernel, by decide +kernel⟩
theorem ok_class (T : Txt w K mg) (U2 : Aux2 K) : FnP P w K mg base 1 (He.ga K "_law_class") (spClass K) := by
  refine mkP T.F_law_class sc_law_class (fun p vs H Q E h => ?_) (fun _ _ _ _ _ _ us hl => match us, hl with | [_], _ => rfl) (fun cdv A outer s H vs Q E p hr h => ?_)
  · obtain ⟨e, rfl, _⟩ := h
    rfl
  obtain ⟨e, rfl, hz, hf, q⟩ := h
  obtain ⟨a, oe⟩ := p
  have hp : (a, oe) ∈ (L2H.cxH (L2.CX P w) P w K mg base ["_law_error"] "_law_class" (defScope s__law_class) (He.ga K "_law_class") cdv A outer s H E (a, oe)).pn := List.mem_singleton.mpr rfl
  refine ⟨_, (pss_cons (ps_if (pt_val (pe_callB (call_isP (U2.exc e) hz hf hp) rfl T.b_isinstance (by decide +kernel) (pa_cons (pv 0) (pa_cons (pe_glob (v := .ref (He.ga K "UnknownName")) rfl T.g_UnknownName rfl) pa_nil)))) (pss_one (ps_ret pe_str)) pss_nil)
      (pss_cons (ps_if (pt_val (pe_callB (call_isP (U2.exc e) hz hf hp) rfl T.b_isinstance (by decide +kernel) (pa_cons (pv 0) (pa_cons (pe_glob (v := .ref (He.ga K "Circle")) rfl T.g_Circle rfl) pa_nil)))) (pss_one (ps_ret pe_str)) pss_nil)
      (pss_cons (ps_if (pt_val (pe_callB (call_isP (U2.exc e) hz hf hp) rfl T.b_isinstance (by decide +kernel) (pa_cons (pv 0) (pa_cons (pe_glob (v := .ref (He.ga K "InUse")) rfl T.g_InUse rfl) pa_nil)))) (pss_one (ps_ret pe_str)) pss_nil)
      (pss_cons (ps_if (pt_val (pe_callB (call_isP (U2.exc e) hz hf hp) rfl T.b_isinstance (by decide +kernel) (pa_cons (pv 0) (pa_cons (pe_glob (v := .ref (He.ga K "BadName")) rfl T.g_BadName rfl) pa_nil)))) (pss_one (ps_ret pe_str)) pss_nil)
      (pss_cons (ps_if (pt_val (pe_callB (call_isP (U2.exc e) hz hf hp) rfl T.b_isinstance (by decide +kernel) (pa_cons (pv 0) (pa_cons (pe_glob (v := .ref (He.ga K "BadSize")) rfl T.g_BadSize rfl) pa_nil)))) (pss_one (ps_ret pe_str)) pss_nil)
      (pss_cons (ps_if (pt_val (pe_callB (call_isP (U2.exc e) hz hf hp) rfl T.b_isinstance (by decide +kernel) (pa_cons (pv 0) (pa_cons (pe_glob (v := .ref (He.ga K "TooDeep")) rfl T.g_TooDeep rfl) pa_nil)))) (pss_one (ps_ret pe_str)) pss_nil)
      (pss_one (ps_ret pe_str)))))))), ?_⟩
  have hc : ∀ (x : Str) u, RelV (.ref (He.ga K x)) u → u = .ref (He.ga K x) := fun x u h => h
  have z := q H (Same.refl _)
  refine ⟨_, rfl, _, _, _, rfl, hc _, U2.kit e .unk, _, rfl, ite2 (fun d => ?_) (fun _ => ?_)⟩
  · have d := of_decide_eq_true d; subst d; exact z
  refine ⟨_, rfl, _, _, _, rfl, hc _, U2.kit e .circ, _, rfl, ite2 (fun d => ?_) (fun _ => ?_)⟩
  · have d := of_decide_eq_true d; subst d; exact z
  refine ⟨_, rfl, _, _, _, rfl, hc _, U2.kit e .inuse, _, rfl, ite2 (fun d => ?_) (fun _ => ?_)⟩
  · have d := of_decide_eq_true d; subst d; exact z
  refine ⟨_, rfl, _, _, _, rfl, hc _, U2.kit e .badname, _, rfl, ite2 (fun d => ?_) (fun _ => ?_)⟩
  · have d := of_decide_eq_true d; subst d; exact z
  refine ⟨_, rfl, _, _, _, rfl, hc _, U2.kit e .size, _, rfl, ite2 (fun d => ?_) (fun _ => ?_)⟩
  · have d := of_decide_eq_true d; subst d; exact z
  refine ⟨_, rfl, _, _, _, rfl, hc _, U2.kit e .deep, _, rfl, ite2 (fun d => ?_) (fun d6 => ?_)⟩
  · have d := of_decide_eq_true d; subst d; exact z
  exfalso
  cases e <;> first | contradiction | simp_all
/-! ### _law_do -/
theorem _root_.L2.PE.imp {X : Cx} {e : PySem.Expr} {t t' : TE} (h : PE X e t) (i : ∀ σ H Q, t' σ H Q → t σ H Q) : PE X e t' := ⟨fun pins s σ H Q I q => h.run pins s σ H Q I (i σ H Q q)⟩
/-- in the except suite -/
def tSuite (K : PySem.W.Frag) (a : Addr) (cls : Value) (d : Option Addr) : TE := fun σ H Q => σ[2]? = some (some (.ref a)) ∧ ∃ e : Err, cls = .ref (He.ga K (errN e)) ∧ d = none ∧ ∀ H', Same H H' → Q (.str (errN e)) H'
theorem suite_ok {a : Addr} {oe : Obj} {cls : Value} {d : Option Addr} (hz : Zc cls d oe) (hf : ∃ us, oe.data = .fields us) (σ : L2.St) (H : Hp) (Q : VK) (h : tSuite K a cls d σ H Q) : tC1 (spClass K (a, oe)) E0 (tCons (tVar 2) tNil) σ H Q := by
  obtain ⟨h1, e, rfl, rfl, q⟩ := h
  exact ⟨_, h1, e, rfl, hz, hf, q⟩
theorem roomH_suite {X : Cx} {k j : Nat} {a : Addr} {pn : List (Addr × Obj)} (hr : Room k X.A) (h : j ≤ k := by omega) : L2H.RoomH j (X.suite a pn).A := ⟨by have := hr.dp; show X.A.depth + 3 * j + 5 < _; omega, by have := hr.un; show X.A.units + 16 * j + 200 < _; omega⟩
def spDo : Sp := fun vs H Q _ => ∃ p x dd ps N S B, vs = [.ref p, x] ∧ SheetAt K H p ps N ∧ N ≤ 1000 ∧ Good okL S B ps ∧ SB S B ∧ (∀ s ∈ S, NameOk s) ∧ IsD (mi [p] H) x dd ∧ DeedOk S B dd ∧
  (match stepR ps dd with | .error e => ∀ H', Same H H' → Q (.str (errN e)) H' | .ok ps' => ∀ H', Ta [p] H H' → SheetAt K H' p ps' (N + 1) → Q .non H')
theorem sc_law_do : FnScope ["_law_sheet", "_law_deed_here", "e"] ["_law_sheet", "_law_deed_here"] (defScope s__law_do) := ⟨rfl, rfl, rfl, by decide +kernel, rfl, by decide +kernel, by decide +kernel⟩
theorem ok_do (T : Txt w K mg) (U : Aux P K) (U2 : Aux2 K) : Fn P w K mg base 37 (He.ga K "_law_do") (spDo (K := K)) := by
  have G_law_class : FnP P w K mg base 1 (He.ga K "_law_class") (spClass K) := ok_class T U2
  have G_m_put := ok_put (base := base) T U
  have G_m_remove := ok_remove (base := base) T U
  have G_m_rename := ok_rename (base := base) T U
  refine mkN T.F_law_do sc_law_do (fun vs H Q E h => ?_) (fun _ _ _ _ _ _ us hl => match us, hl with | [_, _], _ => rfl) (fun cdv A outer s H vs Q E hr h => ?_)
  · obtain ⟨p, x, dd, ps, N, S, B, rfl, _⟩ := h
    rfl
  obtain ⟨p, x, dd, ps, N, S, B, rfl, sh, hN, G, sb, hS, hdd, dok, q⟩ := h
  refine ⟨_, (pss_one (ps_try_as (i := 2) rfl rfl sc_law_do.nd rfl rfl ⟨rfl, by decide, .inl T.g_WhereError⟩ takes0 (fun W pn xe tk _ => (pss_cons (ps_if (pt_cmpR op_eq (pe_ix (ixt K) (pv 1) pe_int (fun _ _ => rfl)) pe_str (nomark _)) (pss_one (ps_ret (pe_methRS (pv 0) T.c_Sheet T.M_put G_m_put (hr.mono (by omega)) (fun σ => passAt tk σ) (pa_cons (pe_ix (ixt K) (pv 1) pe_int (fun _ _ => rfl)) (pa_cons (pe_ix (ixt K) (pv 1) pe_int (fun _ _ => rfl)) pa_nil))))) pss_nil)
      (pss_cons (ps_if (pt_cmpR op_eq (pe_ix (ixt K) (pv 1) pe_int (fun _ _ => rfl)) pe_str (nomark _)) (pss_one (ps_ret (pe_methRS (pv 0) T.c_Sheet T.M_remove G_m_remove (hr.mono (by omega)) (fun σ => passAt tk σ) (pa_cons (pe_ix (ixt K) (pv 1) pe_int (fun _ _ => rfl)) pa_nil)))) pss_nil)
      (pss_one (ps_ret (pe_methRS (pv 0) T.c_Sheet T.M_rename G_m_rename (hr.mono (by omega)) (fun σ => passAt tk σ) (pa_cons (pe_ix (ixt K) (pv 1) pe_int (fun _ _ => rfl)) (pa_cons (pe_ix (ixt K) (pv 1) pe_int (fun _ _ => rfl)) pa_nil)))))))) (fun a oe cls d pn hz hf => pss_one (ps_ret (PE.imp (pe_callP G_law_class (roomH_suite hr) List.mem_cons_self T.g_law_class (kp T.F_law_class) (pa_cons (pv 2) pa_nil)) (suite_ok hz hf)))))), ?_⟩
  obtain ⟨dx, st, en, xs, k, a0, es, g1, _⟩ := id sh
  cases dd with
  | put n c =>
    obtain ⟨ad, xc, rfl, d1, d2⟩ := hdd
    have d1H := (mi_some d1).1
    refine ⟨_, rfl, ad, _, 0, _, rfl, rfl, SqT.of d1H, at0 _ _, rfl, _, rfl, ?_⟩
    refine ite2 (fun _ => ?_) (fun z => absurd (by decide +kernel) z)
    refine ⟨_, rfl, p, dx, _, rfl, g1, rfl, _, rfl, ad, _, 1, _, rfl, rfl, SqT.of d1H, at1 _ _ _, _, rfl, ad, _, 2, _, rfl, rfl, SqT.of d1H, at2 _ _ _ _, ?_⟩
    refine ⟨p, ps, N, n, xc, c, S, B, rfl, sh, hN, G, sb, dok.1, hS _ dok.1, d2, dok.2, ?_⟩
    rw [show stepR ps (.put n c) = putR ps n c from rfl] at q
    unfold Res
    cases hr' : putR ps n c with
    | error e => rw [hr'] at q; exact fun H' s => ⟨true, U2.exm e, fun _ a ha => ⟨rfl, e, rfl, rfl, fun H2 s2 => q _ (s.trans s2)⟩, fun z => nomatch z⟩
    | ok ps' => rw [hr'] at q; exact q
  | rem n =>
    obtain ⟨ad, rfl, d1⟩ := hdd
    have d1H := (mi_some d1).1
    refine ⟨_, rfl, ad, _, 0, _, rfl, rfl, SqT.of d1H, at0 _ _, rfl, _, rfl, ?_⟩
    rw [put_ne_rem]
    refine iteF ⟨_, rfl, ad, _, 0, _, rfl, rfl, SqT.of d1H, at0 _ _, rfl, _, rfl, ?_⟩
    refine ite2 (fun _ => ?_) (fun z => absurd (by decide +kernel) z)
    refine ⟨_, rfl, p, dx, _, rfl, g1, rfl, _, rfl, ad, _, 1, _, rfl, rfl, SqT.of d1H, at1 _ _ _, ?_⟩
    refine ⟨p, ps, N, n, S, B, rfl, sh, hN, G, sb, hS, ?_⟩
    rw [show stepR ps (.rem n) = remR ps n from rfl] at q
    unfold Res
    cases hr' : remR ps n with
    | error e => rw [hr'] at q; exact fun H' s => ⟨true, U2.exm e, fun _ a ha => ⟨rfl, e, rfl, rfl, fun H2 s2 => q _ (s.trans s2)⟩, fun z => nomatch z⟩
    | ok ps' => rw [hr'] at q; exact q
  | ren n o =>
    obtain ⟨ad, rfl, d1⟩ := hdd
    have d1H := (mi_some d1).1
    refine ⟨_, rfl, ad, _, 0, _, rfl, rfl, SqT.of d1H, at0 _ _, rfl, _, rfl, ?_⟩
    rw [put_ne_ren]
    refine iteF ⟨_, rfl, ad, _, 0, _, rfl, rfl, SqT.of d1H, at0 _ _, rfl, _, rfl, ?_⟩
    rw [ren_ne_rem]
    refine iteF ⟨_, rfl, p, dx, _, rfl, g1, rfl, _, rfl, ad, _, 1, _, rfl, rfl, SqT.of d1H, at1 _ _ _, _, rfl, ad, _, 2, _, rfl, rfl, SqT.of d1H, at2 _ _ _ _, ?_⟩
    refine ⟨p, ps, N, n, o, S, B, rfl, sh, hN, G, sb, hS _ dok.2, ?_⟩
    rw [show stepR ps (.ren n o) = renR ps n o from rfl] at q
    unfold Res
    cases hr' : renR ps n o with
    | error e => rw [hr'] at q; exact fun H' s => ⟨true, U2.exm e, fun _ a ha => ⟨rfl, e, rfl, rfl, fun H2 s2 => q _ (s.trans s2)⟩, fun z => nomatch z⟩
    | ok ps' => rw [hr'] at q; exact q
end
end Sh
set_option Elab.async false
set_option linter.all false
set_option maxRecDepth 100000
set_option maxHeartbeats 4000000
namespace Sh
open PySem PySem.Spec PyProof.Rows L2 StX
/-! ### alike values -/
def Sm0 (x y : V) : Prop := (∃ i : Int, x = .int i ∧ y = .int i) ∨ ∃ s : Str, x = .str s ∧ y = .str s
def SqS (H : Hp) (b : Bool) (a : Addr) (xs : List V) : Prop := H a = some (if b then .lst xs else .tup xs)
def Sm : Nat → Hp → V → V → Prop
  | 0, _, x, y => Sm0 x y
  | d + 1, H, x, y => Sm0 x y ∨ ∃ (b : Bool) (p q : Addr) (xs ys : List V), x = .ref p ∧ y = .ref q ∧ SqS H b p xs ∧ SqS H b q ys ∧ Paired (Sm d H) xs ys ∧ xs.length ≤ 1000
theorem Sm.same {H H' : Hp} (s : Same H H') : ∀ {d : Nat} {x y : V}, Sm d H x y → Sm d H' x y
  | 0, _, _, h => h
  | d + 1, _, _, .inl h => .inl h
  | d + 1, _, _, .inr ⟨b, p, q, xs, ys, e1, e2, h1, h2, h3, h4⟩ => .inr ⟨b, p, q, xs, ys, e1, e2, s _ _ h1, s _ _ h2, L2.Paired.mapP h3 fun _ _ z => Sm.same s z, h4⟩
theorem Sm.zero {H : Hp} {x y : V} (h : Sm0 x y) : ∀ d, Sm d H x y
  | 0 => h
  | d + 1 => .inl h
theorem Sm.up {H : Hp} : ∀ {d : Nat} {x y : V}, Sm d H x y → Sm (d + 1) H x y
  | 0, _, _, h => .inl h
  | d + 1, _, _, .inl h => .inl h
  | d + 1, _, _, .inr ⟨b, p, q, xs, ys, e1, e2, h1, h2, h3, h4⟩ => .inr ⟨b, p, q, xs, ys, e1, e2, h1, h2, L2.Paired.mapP h3 fun _ _ z => Sm.up z, h4⟩
theorem Sm.le {H : Hp} {x y : V} {d e : Nat} (h : Sm d H x y) (le : d ≤ e) : Sm e H x y := by
  obtain ⟨k, rfl⟩ := Nat.exists_eq_add_of_le le
  clear le
  induction k with
  | zero => exact h
  | succ k ih => exact Sm.up ih
theorem sm_str (H : Hp) (d : Nat) (s : Str) : Sm d H (.str s) (.str s) := Sm.zero (.inr ⟨s, rfl, rfl⟩) d
theorem sm_int (H : Hp) (d : Nat) (i : Int) : Sm d H (.int i) (.int i) := Sm.zero (.inl ⟨i, rfl, rfl⟩) d
theorem sm_ints (H : Hp) (d : Nat) : ∀ l : List Int, Paired (Sm d H) (l.map V.int) (l.map V.int)
  | [] => .nil
  | a :: l => .cons (sm_int H d a) (sm_ints H d l)
theorem sm_strs (H : Hp) (d : Nat) : ∀ l : List Str, Paired (Sm d H) (l.map V.str) (l.map V.str)
  | [] => .nil
  | a :: l => .cons (sm_str H d a) (sm_strs H d l)
theorem sm_il {H : Hp} {d : Nat} {a b : Addr} {l : List Int} (h1 : H a = some (.lst (l.map V.int))) (h2 : H b = some (.lst (l.map V.int))) (hl : l.length ≤ 1000) : Sm (d + 1) H (.ref a) (.ref b) :=
  .inr ⟨true, a, b, _, _, rfl, rfl, h1, h2, sm_ints H d l, by rw [List.length_map]; exact hl⟩
theorem sm_sl {H : Hp} {d : Nat} {a b : Addr} {l : List Str} (h1 : H a = some (.lst (l.map V.str))) (h2 : H b = some (.lst (l.map V.str))) (hl : l.length ≤ 1000) : Sm (d + 1) H (.ref a) (.ref b) :=
  .inr ⟨true, a, b, _, _, rfl, rfl, h1, h2, sm_strs H d l, by rw [List.length_map]; exact hl⟩
theorem poly_len {m b : Int} {p : List Int} (h : PolyOk m b p) (hm : m ≤ 100) : p.length ≤ 1000 := by
  have := h.len
  omega
/-- two of the same condition -/
theorem sm_C {H : Hp} : ∀ {c : C} {x y : V}, IsC H x c → IsC H y c → okC c → Sm (c.depth + 5) H x y
  | .sg p s, _, _, ⟨a, l, rfl, h1, h2⟩, ⟨a', l', rfl, h1', h2'⟩, ok =>
    .inr ⟨false, a, a', _, _, rfl, rfl, h1, h1', .cons (sm_str _ _ _) (.cons (sm_il h2 h2' (poly_len (ok _ (List.mem_singleton.mpr rfl) : okL (.sg p s)).1 (by decide))) (.cons (sm_str _ _ _) .nil)), by show 3 ≤ 1000; decide⟩
  | .sm p q s, _, _, ⟨a, r, t, cs, pl, ql, rfl, h1, h2, h3, h4, h5, h6⟩, ⟨a', r', t', cs', pl', ql', rfl, h1', h2', h3', h4', h5', h6'⟩, ok =>
    have ok' : RowOk p q s := ok _ (List.mem_singleton.mpr rfl)
    .inr ⟨false, a, a', _, _, rfl, rfl, h1, h1', .cons (sm_str _ _ _) (.cons (sm_int _ _ _) (.cons (.inr ⟨true, r, r', _, _, rfl, rfl, h2, h2', .cons (.inr ⟨false, t, t', _, _, rfl, rfl, h3, h3', .cons (.inr ⟨true, cs, cs', _, _, rfl, rfl, h4, h4', .cons (sm_il h5 h5' (poly_len ok'.p (by decide))) .nil, by show 1 ≤ 1000; decide⟩) (.cons (sm_il h6 h6' (poly_len ok'.q (by decide))) (.cons (sm_str _ _ _) .nil)), by show 3 ≤ 1000; decide⟩) .nil, by show 1 ≤ 1000; decide⟩) .nil)), by show 3 ≤ 1000; decide⟩
  | .us n, _, _, ⟨a, rfl, h1⟩, ⟨a', rfl, h1'⟩, _ => .inr ⟨false, a, a', _, _, rfl, rfl, h1, h1', .cons (sm_str _ _ _) (.cons (sm_str _ _ _) .nil), by show 2 ≤ 1000; decide⟩
  | .nt c, _, _, ⟨a, x, rfl, h1, h2⟩, ⟨a', x', rfl, h1', h2'⟩, ok => by
    have e : (Cnd.nt c : C).depth + 5 = (c.depth + 5) + 1 := by show c.depth + 1 + 5 = _; omega
    rw [e]
    exact .inr ⟨false, a, a', _, _, rfl, rfl, h1, h1', .cons (sm_str _ _ _) (.cons (sm_C h2 h2' ok) .nil), by show 2 ≤ 1000; decide⟩
  | .bn o c d, _, _, ⟨a, x, y, rfl, h1, h2, h3⟩, ⟨a', x', y', rfl, h1', h2', h3'⟩, ok => by
    have e : (Cnd.bn o c d : C).depth + 5 = (max c.depth d.depth + 5) + 1 := by show max c.depth d.depth + 1 + 5 = _; omega
    rw [e]
    exact .inr ⟨false, a, a', _, _, rfl, rfl, h1, h1', .cons (sm_str _ _ _) (.cons ((sm_C h2 h2' fun l hl => ok l (List.mem_append_left _ hl)).le (by omega)) (.cons ((sm_C h3 h3' fun l hl => ok l (List.mem_append_right _ hl)).le (by omega)) .nil)), by show 3 ≤ 1000; decide⟩
section
variable {P : Program} {w : World} {K : PySem.W.Frag} {mg : Str → Option Value} {base : Heap}
/-! ### _law_same -/
def spSame (d : Nat) : Sp := fun vs H Q _ => ∃ x y, vs = [x, y] ∧ Sm d H x y ∧ ∀ H', Same H H' → Q (.bl true) H'
theorem sc_law_same : FnScope ["_law_actual", "_law_due", "_law_k"] ["_law_actual", "_law_due"] (defScope s__law_same) := ⟨rfl, rfl, rfl, by decide +kernel, rfl, by decide +kernel, by decide +kernel⟩
theorem ok_same_step (T : Txt w K mg) {d j : Nat} (G : d = 0 ∨ Fn P w K mg base j (He.ga K "_law_same") (spSame (d - 1))) : Fn P w K mg base (j + 1) (He.ga K "_law_same") (spSame d) := by
  have G_law_same : Fn P w K mg base j (He.ga K "_law_same") (fun vs H Q E => 0 < d ∧ spSame (d - 1) vs H Q E) := by
    rcases G with e | G
    · intro A outer s H us vs Q E _ _ _ hs
      exact absurd hs.1 (by omega)
    · exact G.imp fun vs H Q E h => h.2
  refine mkN T.F_law_same sc_law_same (fun vs H Q E h => ?_) (fun _ _ _ _ _ _ us hl => match us, hl with | [_, _], _ => rfl) (fun cdv A outer s H vs Q E hr h => ?_)
  · obtain ⟨x, y, rfl, _⟩ := h
    rfl
  obtain ⟨x, y, rfl, hs, q⟩ := h
  refine ⟨_, (pss_cons (ps_if (PW.pt (pw_or (pt_val (pe_callB (isiq K) rfl T.b_isinstance (by decide +kernel) (pa_cons (pv 1) (pa_cons (pe_bltn (x := "list") (v := .ty "list") (by rfl) T.b_list (by decide +kernel) rfl) pa_nil)))) (pw_or1 (pt_val (pe_callB (isiq K) rfl T.b_isinstance (by decide +kernel) (pa_cons (pv 1) (pa_cons (pe_bltn (x := "tuple") (v := .ty "tuple") (by rfl) T.b_tuple (by decide +kernel) rfl) pa_nil))))))) (pss_cons (ps_if (PW.pt (pw_or (pt_cmpR op_ne (pe_callB (isiq K) rfl T.b_isinstance (by decide +kernel) (pa_cons (pv 1) (pa_cons (pe_bltn (x := "list") (v := .ty "list") (by rfl) T.b_list (by decide +kernel) rfl) pa_nil))) (pe_callB (isiq K) rfl T.b_isinstance (by decide +kernel) (pa_cons (pv 0) (pa_cons (pe_bltn (x := "list") (v := .ty "list") (by rfl) T.b_list (by decide +kernel) rfl) pa_nil))) (nomark _)) (pw_or1 (pt_cmpR op_ne (pe_callB (isiq K) rfl T.b_isinstance (by decide +kernel) (pa_cons (pv 1) (pa_cons (pe_bltn (x := "tuple") (v := .ty "tuple") (by rfl) T.b_tuple (by decide +kernel) rfl) pa_nil))) (pe_callB (isiq K) rfl T.b_isinstance (by decide +kernel) (pa_cons (pv 0) (pa_cons (pe_bltn (x := "tuple") (v := .ty "tuple") (by rfl) T.b_tuple (by decide +kernel) rfl) pa_nil))) (nomark _))))) (pss_one (ps_ret pe_bl)) pss_nil)
      (pss_cons (ps_if (pt_cmpR op_ne (pe_callB (lenq K) rfl T.b_len PySem.boot_len (pa_cons (pv 0) pa_nil)) (pe_callB (lenq K) rfl T.b_len PySem.boot_len (pa_cons (pv 1) pa_nil)) (nomark _)) (pss_one (ps_ret pe_bl)) pss_nil)
      (pss_one (ps_ret (pe_callB (allq K rfl) rfl T.b_all (by decide +kernel) (pa_cons (pe_lc (own := [("_law_k", 2)]) (g := gName 2) (tt := tYes) rfl sc_law_same.nd (pi_range1 rfl T.b_range (pa_cons (pe_callB (lenq K) rfl T.b_len PySem.boot_len (pa_cons (pv 1) pa_nil)) pa_nil)) (blkOk_by (N := ["_law_actual", "_law_due", "_law_k"]) (sc := defScope s__law_same) (by decide +kernel)) (fun _ _ _ _ _ => (pg_name (i := 2) sc_law_same.nd rfl (Or.inl rfl))) (fun _ _ _ _ _ => pts_nil) (fun _ _ _ _ _ => (pe_callR G_law_same (hr.mono (by omega)) T.g_law_same (kp T.F_law_same) passL (pa_cons (pe_ix (ixq K) (pv 0) (pv 2) (fun _ _ => rfl)) (pa_cons (pe_ix (ixq K) (pv 1) (pv 2) (fun _ _ => rfl)) pa_nil))))) pa_nil)))))) pss_nil)
      (pss_cons (ps_if (PW.pt (pw_or (pt_val (pe_callB (isiq K) rfl T.b_isinstance (by decide +kernel) (pa_cons (pv 1) (pa_cons (pe_bltn (x := "bool") (v := .ty "bool") (by rfl) T.b_bool (by decide +kernel) rfl) pa_nil)))) (pw_or1 (pt_val (pe_callB (isiq K) rfl T.b_isinstance (by decide +kernel) (pa_cons (pv 0) (pa_cons (pe_bltn (x := "bool") (v := .ty "bool") (by rfl) T.b_bool (by decide +kernel) rfl) pa_nil))))))) (pss_one (ps_ret (pe_and (pe_callB (isiq K) rfl T.b_isinstance (by decide +kernel) (pa_cons (pv 1) (pa_cons (pe_bltn (x := "bool") (v := .ty "bool") (by rfl) T.b_bool (by decide +kernel) rfl) pa_nil))) (pe_and (pe_callB (isiq K) rfl T.b_isinstance (by decide +kernel) (pa_cons (pv 0) (pa_cons (pe_bltn (x := "bool") (v := .ty "bool") (by rfl) T.b_bool (by decide +kernel) rfl) pa_nil))) (pe_one (pe_cmpR op_eq (pv 0) (pv 1) (nomark _))))))) pss_nil)
      (pss_cons (ps_if (pt_val (pe_callB (isiq K) rfl T.b_isinstance (by decide +kernel) (pa_cons (pv 1) (pa_cons (pe_bltn (x := "int") (v := .ty "int") (by rfl) T.b_int (by decide +kernel) rfl) pa_nil)))) (pss_one (ps_ret (pe_and (pe_callB (isiq K) rfl T.b_isinstance (by decide +kernel) (pa_cons (pv 0) (pa_cons (pe_bltn (x := "int") (v := .ty "int") (by rfl) T.b_int (by decide +kernel) rfl) pa_nil))) (pe_one (pe_cmpR op_eq (pv 0) (pv 1) (nomark _)))))) pss_nil)
      (pss_one (ps_ret (pe_and (pe_callB (isiq K) rfl T.b_isinstance (by decide +kernel) (pa_cons (pv 1) (pa_cons (pe_bltn (x := "str") (v := .ty "str") (by rfl) T.b_str (by decide +kernel) rfl) pa_nil))) (pe_and (pe_callB (isiq K) rfl T.b_isinstance (by decide +kernel) (pa_cons (pv 0) (pa_cons (pe_bltn (x := "str") (v := .ty "str") (by rfl) T.b_str (by decide +kernel) rfl) pa_nil))) (pe_one (pe_cmpR op_eq (pv 0) (pv 1) (nomark _)))))))))), ?_⟩
  have hs2 : Sm0 x y ∨ (0 < d ∧ ∃ (b : Bool) (p q : Addr) (xs ys : List V), x = .ref p ∧ y = .ref q ∧ SqS H b p xs ∧ SqS H b q ys ∧ Paired (Sm (d - 1) H) xs ys ∧ xs.length ≤ 1000) := by
    cases d with
    | zero => exact .inl hs
    | succ d =>
      rcases hs with h | h
      · exact .inl h
      · exact .inr ⟨Nat.succ_pos _, h⟩
  rcases hs2 with (⟨i, rfl, rfl⟩ | ⟨z, rfl, rfl⟩) | ⟨hd, b, p, qq, xs, ys, rfl, rfl, h1, h2, h3, h4⟩
  · refine ⟨_, rfl, _, _, _, _, _, rfl, .ty _, .base (.int _), kit_ty (r := false) (by decide +kernel), _, rfl, iteF ?_⟩
    refine ⟨_, rfl, _, _, _, _, _, rfl, .ty _, .base (.int _), kit_ty (r := false) (by decide +kernel), _, rfl, iteF ?_⟩
    refine ⟨_, rfl, _, _, _, _, _, rfl, .ty _, .base (.int _), kit_ty (r := false) (by decide +kernel), _, rfl, iteF ?_⟩
    refine ⟨_, rfl, _, _, _, _, _, rfl, .ty _, .base (.int _), kit_ty (r := false) (by decide +kernel), _, rfl, iteF ?_⟩
    refine ⟨_, rfl, _, _, _, _, _, rfl, .ty _, .base (.int _), kit_ty (r := true) (by decide +kernel), _, rfl, iteT ?_⟩
    refine ⟨_, rfl, _, _, _, _, _, rfl, .ty _, .base (.int _), kit_ty (r := true) (by decide +kernel), _, rfl, iteT ?_⟩
    refine ⟨_, rfl, _, rfl, rfl, ?_⟩
    rw [decide_eq_true rfl]
    exact q _ (Same.refl _)
  · refine ⟨_, rfl, _, _, _, _, _, rfl, .ty _, .base (.str _), kit_ty (r := false) (by decide +kernel), _, rfl, iteF ?_⟩
    refine ⟨_, rfl, _, _, _, _, _, rfl, .ty _, .base (.str _), kit_ty (r := false) (by decide +kernel), _, rfl, iteF ?_⟩
    refine ⟨_, rfl, _, _, _, _, _, rfl, .ty _, .base (.str _), kit_ty (r := false) (by decide +kernel), _, rfl, iteF ?_⟩
    refine ⟨_, rfl, _, _, _, _, _, rfl, .ty _, .base (.str _), kit_ty (r := false) (by decide +kernel), _, rfl, iteF ?_⟩
    refine ⟨_, rfl, _, _, _, _, _, rfl, .ty _, .base (.str _), kit_ty (r := false) (by decide +kernel), _, rfl, iteF ?_⟩
    refine ⟨_, rfl, _, _, _, _, _, rfl, .ty _, .base (.str _), kit_ty (r := true) (by decide +kernel), _, rfl, iteT ?_⟩
    refine ⟨_, rfl, _, _, _, _, _, rfl, .ty _, .base (.str _), kit_ty (r := true) (by decide +kernel), _, rfl, iteT ?_⟩
    refine ⟨_, rfl, _, rfl, rfl, ?_⟩
    rw [decide_eq_true rfl]
    exact q _ (Same.refl _)
  · have hl := paired_len h3
    cases b
    · have h1 : H p = some (.tup xs) := h1
      have h2 : H qq = some (.tup ys) := h2
      refine ⟨_, rfl, _, _, _, _, _, rfl, .ty _, .base (.tup h2), kit_ty (r := false) (by decide +kernel), _, rfl, iteF ?_⟩
      refine ⟨_, rfl, _, _, _, _, _, rfl, .ty _, .base (.tup h2), kit_ty (r := true) (by decide +kernel), _, rfl, iteT ?_⟩
      refine ⟨_, rfl, _, _, _, _, _, rfl, .ty _, .base (.tup h2), kit_ty (r := false) (by decide +kernel), _, rfl, _, _, _, _, _, rfl, .ty _, .base (.tup h1), kit_ty (r := false) (by decide +kernel), rfl, _, rfl, iteF ?_⟩
      refine ⟨_, rfl, _, _, _, _, _, rfl, .ty _, .base (.tup h2), kit_ty (r := true) (by decide +kernel), _, rfl, _, _, _, _, _, rfl, .ty _, .base (.tup h1), kit_ty (r := true) (by decide +kernel), rfl, _, rfl, iteF ?_⟩
      refine ⟨_, rfl, p, _, rfl, .inr (SqT.of h1), _, rfl, qq, _, rfl, .inr (SqT.of h2), rfl, _, rfl, ?_⟩
      rw [hl]
      refine ite2 (fun e => ?_) (fun _ => ?_)
      · rw [decide_eq_true rfl] at e
        cases e
      refine ⟨_, rfl, qq, _, rfl, .inr (SqT.of h2), _, rfl, by omega, by omega, fun D nD => ?_⟩
      refine lc_range (n := (ys.length : Int).toNat) (fun i H' => Same H H' ∧ ∃ bs : List Bool, H' D = some (.lst (bs.map V.bl)) ∧ bs.length = i ∧ ∀ b ∈ bs, b = true) ⟨same_new nD _, [], upd_same, rfl, fun _ h => by cases h⟩ ?_ ?_
      · rintro i H' hi ⟨s1, bs, eD, bl, ba⟩
        have hiy : i < ys.length := by omega
        have ax : atI xs ((0 : Int) + (i : Int)) = some (xs[i]'(by omega)) := by rw [Int.zero_add]; exact atI_nat (List.getElem?_eq_getElem _)
        have ay : atI ys ((0 : Int) + (i : Int)) = some ys[i] := by rw [Int.zero_add]; exact atI_nat (List.getElem?_eq_getElem _)
        obtain ⟨yy, hyy, sm⟩ := paired_get h3 (List.getElem?_eq_getElem (show i < xs.length by omega))
        rw [List.getElem?_eq_getElem hiy] at hyy
        cases hyy
        refine ⟨rfl, ?_⟩
        refine ⟨_, rfl, _, rfl, .inr (.inl ⟨_, _, _, _, rfl, rfl, SqT.of (s1 _ _ h1), ax, ?_⟩)⟩
        refine ⟨_, rfl, _, rfl, .inr (.inl ⟨_, _, _, _, rfl, rfl, SqT.of (s1 _ _ h2), ay, ?_⟩)⟩
        refine ⟨hd, _, _, rfl, sm.same s1, fun H2 s2 => ?_⟩
        refine ⟨_, s2 _ _ eD, by rw [List.length_map]; exact big_line' (by omega), (s1.trans s2).put nD _, bs ++ [true], ?_, by rw [List.length_append, bl]; rfl, fun b hb => ?_⟩
        · rw [upd_same, List.map_append]
          rfl
        · rcases List.mem_append.mp hb with h | h
          · exact ba b h
          · exact List.mem_singleton.mp h
      · rintro H' ⟨s1, bs, eD, bl, ba⟩
        refine ⟨D, bs, rfl, SqL.of eD, ?_⟩
        have : bs.all id = true := List.all_eq_true.mpr fun b hb => ba b hb
        rw [this]
        exact q _ s1
    · have h1 : H p = some (.lst xs) := h1
      have h2 : H qq = some (.lst ys) := h2
      refine ⟨_, rfl, _, _, _, _, _, rfl, .ty _, .base (.lst h2), kit_ty (r := true) (by decide +kernel), _, rfl, iteT ?_⟩
      refine ⟨_, rfl, _, _, _, _, _, rfl, .ty _, .base (.lst h2), kit_ty (r := true) (by decide +kernel), _, rfl, _, _, _, _, _, rfl, .ty _, .base (.lst h1), kit_ty (r := true) (by decide +kernel), rfl, _, rfl, iteF ?_⟩
      refine ⟨_, rfl, _, _, _, _, _, rfl, .ty _, .base (.lst h2), kit_ty (r := false) (by decide +kernel), _, rfl, _, _, _, _, _, rfl, .ty _, .base (.lst h1), kit_ty (r := false) (by decide +kernel), rfl, _, rfl, iteF ?_⟩
      refine ⟨_, rfl, p, _, rfl, .inl (SqL.of h1), _, rfl, qq, _, rfl, .inl (SqL.of h2), rfl, _, rfl, ?_⟩
      rw [hl]
      refine ite2 (fun e => ?_) (fun _ => ?_)
      · rw [decide_eq_true rfl] at e
        cases e
      refine ⟨_, rfl, qq, _, rfl, .inl (SqL.of h2), _, rfl, by omega, by omega, fun D nD => ?_⟩
      refine lc_range (n := (ys.length : Int).toNat) (fun i H' => Same H H' ∧ ∃ bs : List Bool, H' D = some (.lst (bs.map V.bl)) ∧ bs.length = i ∧ ∀ b ∈ bs, b = true) ⟨same_new nD _, [], upd_same, rfl, fun _ h => by cases h⟩ ?_ ?_
      · rintro i H' hi ⟨s1, bs, eD, bl, ba⟩
        have hiy : i < ys.length := by omega
        have ax : atI xs ((0 : Int) + (i : Int)) = some (xs[i]'(by omega)) := by rw [Int.zero_add]; exact atI_nat (List.getElem?_eq_getElem _)
        have ay : atI ys ((0 : Int) + (i : Int)) = some ys[i] := by rw [Int.zero_add]; exact atI_nat (List.getElem?_eq_getElem _)
        obtain ⟨yy, hyy, sm⟩ := paired_get h3 (List.getElem?_eq_getElem (show i < xs.length by omega))
        rw [List.getElem?_eq_getElem hiy] at hyy
        cases hyy
        refine ⟨rfl, ?_⟩
        refine ⟨_, rfl, _, rfl, .inl ⟨_, _, _, _, rfl, rfl, SqL.of (s1 _ _ h1), ax, ?_⟩⟩
        refine ⟨_, rfl, _, rfl, .inl ⟨_, _, _, _, rfl, rfl, SqL.of (s1 _ _ h2), ay, ?_⟩⟩
        refine ⟨hd, _, _, rfl, sm.same s1, fun H2 s2 => ?_⟩
        refine ⟨_, s2 _ _ eD, by rw [List.length_map]; exact big_line' (by omega), (s1.trans s2).put nD _, bs ++ [true], ?_, by rw [List.length_append, bl]; rfl, fun b hb => ?_⟩
        · rw [upd_same, List.map_append]
          rfl
        · rcases List.mem_append.mp hb with h | h
          · exact ba b h
          · exact List.mem_singleton.mp h
      · rintro H' ⟨s1, bs, eD, bl, ba⟩
        refine ⟨D, bs, rfl, SqL.of eD, ?_⟩
        have : bs.all id = true := List.all_eq_true.mpr fun b hb => ba b hb
        rw [this]
        exact q _ s1
theorem ok_lsame (T : Txt w K mg) : ∀ d, Fn P w K mg base (d + 1) (He.ga K "_law_same") (spSame d)
  | 0 => ok_same_step T (.inl rfl)
  | d + 1 => ok_same_step T (.inr (ok_lsame T d))
end
end Sh
set_option Elab.async false
set_option linter.all false
set_option maxRecDepth 100000
set_option maxHeartbeats 4000000
namespace Sh
open PySem PySem.Spec PyProof.Rows L2 StX
section
variable {P : Program} {w : World} {K : PySem.W.Frag} {mg : Str → Option Value} {base : Heap}
theorem dp_bools {H : Hp} : ∀ l : List Bool, DpAll K H (l.map V.bl) (l.map PyData.bool)
  | [] => .nil
  | a :: l => .cons (.bl a) (dp_bools l)
theorem lay_bools : ∀ l : List Bool, PyData.canLayAll0 (l.map PyData.bool) = true
  | [] => rfl
  | a :: l => lay_bools l
theorem dep_bools : ∀ l : List Bool, PyData.depthAll (l.map PyData.bool) = 0
  | [] => rfl
  | a :: l => by
    show max 0 (PyData.depthAll (l.map PyData.bool)) = 0
    rw [dep_bools l]
    rfl
theorem shaped_bools (l : List Bool) : SeqAt.shaped (.list (l.map PyData.bool)) = true := by
  show (PyData.canLayAll0 (l.map PyData.bool) && decide (PyData.depthAll (l.map PyData.bool) + 1 ≤ 64)) = true
  rw [lay_bools l, dep_bools]
  rfl
theorem eqv_self {d : PyData} (h : SeqAt.shaped d = true) : PyData.eqv d d = true := SeqAt.eqv_refl d (SeqAt.canLay_of_shaped h)
/-! ### _law_shows -/
def spShows : Sp := fun vs H Q _ => ∃ p a b ps N S B, ∃ ns : List Str, vs = [.ref p, .ref a, .ref b] ∧ SheetAt K H p ps N ∧ IsPs (mi [p] H) a ps ∧ Good okL S B ps ∧ SB S B ∧ H b = some (.lst (ns.map V.str)) ∧ ns.length ≤ 100 ∧ ∀ H', Same H H' → Q (.bl true) H'
theorem sc_law_shows : FnScope ["_law_sheet", "_law_pairs", "_law_names_here", "_law_known", "_law_name", "_law_condition_here", "_law_pair", "_law_other", "_law_told"] ["_law_sheet", "_law_pairs", "_law_names_here"] (defScope s__law_shows) := ⟨rfl, rfl, rfl, by decide +kernel, rfl, by decide +kernel, by decide +kernel⟩
theorem ok_shows (T : Txt w K mg) (U : Aux P K) : Fn P w K mg base 35 (He.ga K "_law_shows") (spShows (K := K)) := by
  have G_m_names := ok_names (base := base) (P := P) T
  have G_m_len := ok_len (base := base) (P := P) T
  have G_m_contains := ok_cont (base := base) (P := P) T
  have G_m_condition := ok_cond (base := base) T U
  have G_m_whole := ok_whole (base := base) T U
  have G_m_users := ok_users (base := base) T U
  have G_law_same : Fn P w K mg base 34 (He.ga K "_law_same") (spSame 33) := ok_lsame T 33
  have G_law_whole : Fn P w K mg base 19 (He.ga K "_law_whole") (spWholeIn 14) := ok_lwhole T 14
  have G_law_used : Fn P w K mg base 4 (He.ga K "_law_used") (spUsed 2) := ok_lused T 2
  refine mkN T.F_law_shows sc_law_shows (fun vs H Q E h => ?_) (fun _ _ _ _ _ _ us hl => match us, hl with | [_, _, _], _ => rfl) (fun cdv A outer s H vs Q E hr h => ?_)
  · obtain ⟨p, a, b, ps, N, S, B, ns, rfl, _⟩ := h
    rfl
  obtain ⟨p, a, b, ps, N, S, B, ns, rfl, sh, hps, G, sb, hb, hn, q⟩ := h
  refine ⟨_, (pss_cons (ps_set (i := 3) sc_law_shows.nd rfl (Or.inr rfl) (pe_lc (own := [("_law_pair", 6)]) (g := gName 6) (tt := tYes) rfl sc_law_shows.nd (pil K (pv 1)) (blkOk_by (N := ["_law_sheet", "_law_pairs", "_law_names_here", "_law_known", "_law_name", "_law_condition_here", "_law_pair", "_law_other", "_law_told"]) (sc := defScope s__law_shows) (by decide +kernel)) (fun _ _ _ _ _ => (pg_name (i := 6) sc_law_shows.nd rfl (Or.inl rfl))) (fun _ _ _ _ _ => pts_nil) (fun _ _ _ _ _ => (pe_ix (ixt K) (pv 6) pe_int (fun _ _ => rfl)))))
      (pss_cons (ps_if (PW.pt (pw_or (pt_not (pt_val (pe_callR G_law_same (hr.mono (by omega)) T.g_law_same (kp T.F_law_same) passL (pa_cons (pe_methR0 (pv 0) T.c_Sheet T.M_names G_m_names (hr.mono (by omega)) passL) (pa_cons (pv 3) pa_nil))))) (pw_or1 (pt_cmpR op_ne (pe_callB (call_lenOwn T.M_len.at_ T.M_len.fn G_m_len (hr.mono (by omega)) passL) rfl T.b_len PySem.boot_len (pa_cons (pv 0) pa_nil)) (pe_callB (lenq K) rfl T.b_len PySem.boot_len (pa_cons (pv 3) pa_nil)) (nomark _))))) (pss_one (ps_ret pe_bl)) pss_nil)
      (pss_cons (ps_if (pt_cmpR (op_neD hr.units) (pe_lc (own := [("_law_name", 4)]) (g := gName 4) (tt := tYes) rfl sc_law_shows.nd (pil K (pv 2)) (blkOk_by (N := ["_law_sheet", "_law_pairs", "_law_names_here", "_law_known", "_law_name", "_law_condition_here", "_law_pair", "_law_other", "_law_told"]) (sc := defScope s__law_shows) (by decide +kernel)) (fun _ _ _ _ _ => (pg_name (i := 4) sc_law_shows.nd rfl (Or.inl rfl))) (fun _ _ _ _ _ => pts_nil) (fun _ _ _ _ _ => (pe_cmpR (op_inOwn T.M_contains.at_ T.M_contains.fn G_m_contains (hr.mono (by omega)) passL) (pv 4) (pv 0) rfl))) (pe_lc (own := [("_law_name", 4)]) (g := gName 4) (tt := tYes) rfl sc_law_shows.nd (pil K (pv 2)) (blkOk_by (N := ["_law_sheet", "_law_pairs", "_law_names_here", "_law_known", "_law_name", "_law_condition_here", "_law_pair", "_law_other", "_law_told"]) (sc := defScope s__law_shows) (by decide +kernel)) (fun _ _ _ _ _ => (pg_name (i := 4) sc_law_shows.nd rfl (Or.inl rfl))) (fun _ _ _ _ _ => pts_nil) (fun _ _ _ _ _ => (pe_cmpR (inq K) (pv 4) (pv 3) rfl))) (nomark _)) (pss_one (ps_ret pe_bl)) pss_nil)
      (pss_cons (ps_for PassesOwn.never rfl (pil K (pv 1)) (pgt (n := 2) K rfl (pgs_cons (pg_name (i := 4) sc_law_shows.nd rfl (Or.inr rfl)) (pgs_cons (pg_name (i := 5) sc_law_shows.nd rfl (Or.inl rfl)) pgs_nil))) (pss_cons (ps_if (PW.pt (pw_or (pt_not (pt_val (pe_callR G_law_same (hr.mono (by omega)) T.g_law_same (kp T.F_law_same) passL (pa_cons (pe_methR (pv 0) T.c_Sheet T.M_condition G_m_condition (hr.mono (by omega)) passL (pa_cons (pv 4) pa_nil)) (pa_cons (pv 5) pa_nil))))) (pw_or1 (pt_not (pt_val (pe_callR G_law_same (hr.mono (by omega)) T.g_law_same (kp T.F_law_same) passL (pa_cons (pe_methR (pv 0) T.c_Sheet T.M_whole G_m_whole (hr.mono (by omega)) passL (pa_cons (pv 4) pa_nil)) (pa_cons (pe_callR G_law_whole (hr.mono (by omega)) T.g_law_whole (kp T.F_law_whole) passL (pa_cons (pv 1) (pa_cons (pv 4) pa_nil))) pa_nil)))))))) (pss_one (ps_ret pe_bl)) pss_nil)
      (pss_one (ps_if (pt_not (pt_val (pe_callR G_law_same (hr.mono (by omega)) T.g_law_same (kp T.F_law_same) passL (pa_cons (pe_methR (pv 0) T.c_Sheet T.M_users G_m_users (hr.mono (by omega)) passL (pa_cons (pv 4) pa_nil)) (pa_cons (pe_lc (own := [("_law_other", 7), ("_law_told", 8)]) (g := _) (tt := _) rfl sc_law_shows.nd (pil K (pv 1)) (blkOk_by (N := ["_law_sheet", "_law_pairs", "_law_names_here", "_law_known", "_law_name", "_law_condition_here", "_law_pair", "_law_other", "_law_told"]) (sc := defScope s__law_shows) (by decide +kernel)) (fun _ _ _ _ _ => (pgt (n := 2) K rfl (pgs_cons (pg_name (i := 7) sc_law_shows.nd rfl (Or.inl rfl)) (pgs_cons (pg_name (i := 8) sc_law_shows.nd rfl (Or.inl rfl)) pgs_nil)))) (fun _ _ _ _ _ => (pts_one (pt_cmpR (inq K) (pv 4) (pe_callR G_law_used (hr.mono (by omega)) T.g_law_used (kp T.F_law_used) passL (pa_cons (pv 8) pa_nil)) rfl))) (fun _ _ _ _ _ => (pv 7))) pa_nil))))) (pss_one (ps_ret pe_bl)) pss_nil))))
      (pss_one (ps_ret pe_bl)))))), ?_⟩
  have pl : ps.length ≤ 13 := Nat.le_trans G.len sb.s
  obtain ⟨r, rt⟩ := rt_of G sb
  obtain ⟨ys, b1, b2⟩ := id hps
  have ga := (mi_some b1).1
  have yl := paired_len b2
  refine ⟨_, rfl, a, rfl, ⟨_, SqL.of ga⟩, fun D nD => ?_⟩
  refine lc_list (K := K) (a := a) (xs := ys) (fun i H' => Same H H' ∧ H' D = some (.lst (((ps.take i).map (·.1)).map V.str)))
    ⟨same_new nD _, upd_same⟩ (fun i H' _ h => SqL.of (h.1 _ _ ga)) ?_ ?_
  · rintro i x H' hi ⟨s1, eD⟩
    obtain ⟨⟨m, c1⟩, hp, a2, v1, rfl, e1, e2⟩ := paired_get b2 hi
    refine ⟨rfl, _, rfl, a2, _, 0, _, rfl, rfl, SqT.of (s1 _ _ (mi_some e1).1), at0 _ _, _, eD, ?_, s1.put nD _, ?_⟩
    · rw [List.length_map, List.length_map, List.length_take]
      exact big_line' (by omega)
    · rw [upd_same, take_more hp, List.map_append, List.map_append]
      rfl
  rintro H1 ⟨s1, eD⟩
  rw [yl, List.take_length] at eD
  have eD : H1 D = some (.lst ((nms ps).map V.str)) := eD
  have nl : (nms ps).length = ps.length := by rw [nms, List.length_map]
  have sh1 := sh.same s1
  obtain ⟨dx, st, en, xs, k, a0, es, g1, _⟩ := id sh1
  refine ⟨_, rfl, p, dx, _, rfl, g1, rfl, p, ps, N, rfl, sh1, by omega, fun l H2 s2 n2 e2 => ?_⟩
  have eD2 := s2 _ _ eD
  refine ⟨_, rfl, _, _, rfl, sm_sl e2 eD2 (by omega), fun H3 s3 => ⟨true, rfl, iteF ?_⟩⟩
  have s03 := (s1.trans s2).trans s3
  have sh3 := sh.same s03
  obtain ⟨dx3, st3, en3, xs3, k3, a3, es3, g3, _⟩ := id sh3
  have eD3 := s3 _ _ eD2
  refine ⟨_, rfl, p, dx3, _, rfl, g3, p, ps, N, rfl, sh3, ((ps.length : Nat) : Int), rfl, by omega, _, rfl, D, _, rfl, .inl (SqL.of eD3), rfl, _, rfl, ?_⟩
  rw [List.length_map, nl]
  refine ite2 (fun z => ?_) (fun _ => ?_)
  · rw [decide_eq_true rfl] at z
    cases z
  have hb3 := s03 _ _ hb
  -- who is in
  refine ⟨_, rfl, b, rfl, ⟨_, SqL.of hb3⟩, fun D4 nD4 => ?_⟩
  refine lc_list (K := K) (a := b) (xs := ns.map V.str) (fun i H' => Same H3 H' ∧ H' D4 = some (.lst (((ns.take i).map fun n => decide (n ∈ nms ps)).map V.bl)))
    ⟨same_new nD4 _, upd_same⟩ (fun i H' _ h => SqL.of (h.1 _ _ hb3)) ?_ ?_
  · rintro i x H' hi ⟨s4, e4⟩
    obtain ⟨u, hu, rfl⟩ := str_at hi
    have sh4 := sh3.same s4
    obtain ⟨dx4, st4, en4, xs4, k4, a4, es4, g4, _⟩ := id sh4
    refine ⟨rfl, _, rfl, _, rfl, p, dx4, _, rfl, g4, p, ps, N, u, rfl, sh4, _, rfl, ?_⟩
    exact ⟨_, e4, bools_len _ _ _ (by omega), s4.put nD4 _, by rw [upd_same, bools_end _ hu]⟩
  rintro H4 ⟨s4, e4⟩
  rw [List.length_map, List.take_length] at e4
  have s04 := s03.trans s4
  have hb4 := s4 _ _ hb3
  have eD4 := s4 _ _ eD3
  refine ⟨_, rfl, b, rfl, ⟨_, SqL.of hb4⟩, fun D5 nD5 => ?_⟩
  refine lc_list (K := K) (a := b) (xs := ns.map V.str) (fun i H' => Same H4 H' ∧ H' D5 = some (.lst (((ns.take i).map fun n => decide (n ∈ nms ps)).map V.bl)))
    ⟨same_new nD5 _, upd_same⟩ (fun i H' _ h => SqL.of (h.1 _ _ hb4)) ?_ ?_
  · rintro i x H' hi ⟨s5, e5⟩
    obtain ⟨u, hu, rfl⟩ := str_at hi
    refine ⟨rfl, _, rfl, _, rfl, D, _, rfl, .inl (SqL.of (s5 _ _ eD4)), rfl, flat_strs _, ?_⟩
    show ∃ acc, H' D5 = some (.lst acc) ∧ acc.length < sizeLine ∧ Same H4 (upd H' D5 (.lst (acc ++ [.bl (inV (.str u) ((nms ps).map V.str))]))) ∧ upd H' D5 (.lst (acc ++ [.bl (inV (.str u) ((nms ps).map V.str))])) D5 = _
    rw [inV_str]
    exact ⟨_, e5, bools_len _ _ _ (by omega), s5.put nD5 _, by rw [upd_same, bools_end _ hu]⟩
  rintro H5 ⟨s5, e5⟩
  rw [List.length_map, List.take_length] at e5
  have s05 := s04.trans s5
  have sd := shaped_bools (ns.map fun n => decide (n ∈ nms ps))
  refine ⟨_, _, .lst (SqL.of (s5 _ _ e4)) (dp_bools _), .lst (SqL.of e5) (dp_bools _), sd, sd, _, rfl, ?_⟩
  rw [eqv_self sd]
  refine iteF ?_
  -- each pair
  refine ⟨_, rfl, a, rfl, ⟨_, SqL.of (s05 _ _ ga)⟩, for_list (K := K) (a := a) (xs := ys) (fun i σ H' => ∃ z1 z2, σ = [some (.ref p), some (.ref a), some (.ref b), some (.ref D), z1, z2, none, none, none] ∧ Same H H') ⟨none, none, rfl, s05⟩ (fun i σ H' _ ⟨_, _, _, h⟩ => SqL.of (h _ _ ga)) ?_ ?_⟩
  · rintro i x σ H' hi ⟨z1, z2, rfl, s6⟩
    obtain ⟨⟨m, c1⟩, hp, a2, v1, rfl, e1, e2⟩ := paired_get b2 hi
    have hmem := List.mem_of_getElem? hp
    have hm := G.cnd _ hmem
    have hcm := cin_of_mem G.nd hmem
    refine ⟨a2, _, rfl, SqT.of (s6 _ _ (mi_some e1).1), rfl, _, _, rfl, _, _, rfl, rfl, ?_⟩
    have sh6 := sh.same s6
    obtain ⟨dx6, st6, en6, xs6, k6, a6, es6, g6, _⟩ := id sh6
    refine ⟨_, rfl, p, dx6, _, rfl, g6, rfl, _, rfl, p, ps, N, m, c1, rfl, sh6, hcm, hm.dep, fun v H7 s7 hv => ?_⟩
    have s07 := s6.trans s7
    have hd2 : c1.depth ≤ 2 := hm.dep
    have sm1 : Sm 33 H7 v v1 := (sm_C (hv.same (mi_le _ _)) ((e2.same (mi_le _ _)).same s07) hm.ok).le (by omega)
    refine ⟨_, rfl, v, v1, rfl, sm1, fun H8 s8 => ⟨true, rfl, iteF ?_⟩⟩
    have s08 := s07.trans s8
    have sh8 := sh.same s08
    obtain ⟨dx8, st8, en8, xs8, k8, a8, es8, g8, _⟩ := id sh8
    obtain ⟨w1, w2, w3, w4⟩ := rt_whole rt ⟨_, hcm⟩
    refine ⟨_, rfl, p, dx8, _, rfl, g8, rfl, _, rfl, p, ps, N, m, r, S, B, rfl, sh8, rt, ⟨_, hcm⟩, fun v9 H9 s9 hv9 => ?_⟩
    have s09 := s08.trans s9
    refine ⟨_, rfl, _, rfl, [p], a, ps, r, S, B, m, rfl, sh.av.same s09, hps.same (mi_same s09), rt, ⟨_, hcm⟩, by have := rt.le13 m; omega, fun v10 H10 s10 hv10 => ?_⟩
    have sm2 : Sm 33 H10 v9 v10 := (sm_C ((hv9.same (mi_le _ _)).same s10) (hv10.same (mi_le _ _)) w3).le (by omega)
    refine ⟨v9, v10, rfl, sm2, fun H11 s11 => ⟨true, rfl, iteF ?_⟩⟩
    have s011 := (s09.trans s10).trans s11
    have sh11 := sh.same s011
    obtain ⟨dx11, st11, en11, xs11, k11, a11, es11, g11, _⟩ := id sh11
    refine ⟨_, rfl, p, dx11, _, rfl, g11, rfl, _, rfl, p, ps, N, m, rfl, sh11, ⟨_, hcm⟩, by omega, fun y hy => ⟨(G.cnd y hy).dep, Nat.le_trans (G.cnd y hy).len (Nat.le_trans sb.b4 (by decide))⟩, fun l12 H12 s12 n12 e12 => ?_⟩
    have s012 := s011.trans s12
    have ga12 := s012 _ _ ga
    refine ⟨_, rfl, a, rfl, ⟨_, SqL.of ga12⟩, fun D6 nD6 => ?_⟩
    refine lc_list (K := K) (a := a) (xs := ys) (fun i H' => Same H12 H' ∧ H' D6 = some (.lst ((((ps.take i).filter fun q => decide (m ∈ q.2.used)).map (·.1)).map V.str)))
      ⟨same_new nD6 _, upd_same⟩ (fun i H' _ h => SqL.of (h.1 _ _ ga12)) ?_ ?_
    · rintro i x H' hi ⟨s13, e13⟩
      obtain ⟨⟨m', c'⟩, hp', a2', v', rfl, e1', e2'⟩ := paired_get b2 hi
      have hm' := G.cnd _ (List.mem_of_getElem? hp')
      have s013 := s012.trans s13
      refine ⟨a2', _, rfl, SqT.of (s013 _ _ (mi_some e1').1), rfl, _, _, rfl, _, _, rfl, rfl, rfl, ?_⟩
      refine ⟨_, rfl, _, rfl, [p], v', c', rfl, sh.av.same s013, e2'.same (mi_same s013), hm'.dep, Nat.le_trans hm'.len (Nat.le_trans sb.b4 (by decide)), fun l2 H14 s14 n14 e14 => ?_⟩
      have fm := filter_more (fun q : Str × C => decide (m ∈ q.2.used)) (fun q => q.1) hp'
      refine ⟨l2, _, rfl, .inl (SqL.of e14), rfl, flat_strs _, _, rfl, ?_⟩
      show if inV (.str m) (c'.used.map V.str) = true then _ else _
      rw [inV_str]
      refine ite2 (fun z => ?_) (fun z => ?_)
      · rw [if_pos z] at fm
        refine ⟨_, rfl, _, s14 _ _ e13, ?_, (s13.trans s14).put nD6 _, ?_⟩
        · rw [List.length_map]
          have := filter_len ps i (fun q : Str × C => decide (m ∈ q.2.used)) (fun q => q.1)
          exact big_line' (Nat.le_trans this (by omega))
        · rw [upd_same, fm, List.map_append]
          rfl
      · rw [if_neg z, List.append_nil] at fm
        exact ⟨s13.trans s14, by rw [fm]; exact s14 _ _ e13⟩
    · rintro H' ⟨s13, e13⟩
      rw [yl, List.take_length] at e13
      have ul : (usersOf ps m).length ≤ 1000 := by
        have := filter_len ps ps.length (fun q : Str × C => decide (m ∈ q.2.used)) (fun q => q.1)
        rw [List.take_length] at this
        exact Nat.le_trans this (by omega)
      refine ⟨_, _, rfl, sm_sl (s13 _ _ e12) e13 ul, fun H15 s15 => ⟨true, rfl, iteF ?_⟩⟩
      exact ⟨_, _, rfl, (s012.trans s13).trans s15⟩
  · rintro σ H' ⟨z1, z2, rfl, s6⟩
    exact q _ s6
end
end Sh
set_option Elab.async false
set_option linter.all false
set_option maxRecDepth 100000
set_option maxHeartbeats 4000000
namespace Sh
open PySem PySem.Spec PyProof.Rows L2 StX
/-! ### names -/
def AlN (c : Nat) : Prop := c ∈ (LETT ++ DIGI).cps.toList
theorem lett_len : ("abcdefghijklmnopqrstuvwxyz" : Str).cps.toList.length = 26 := by decide +kernel
theorem sign_len : (("abcdefghijklmnopqrstuvwxyz" : Str) ++ ("0123456789" : Str)).cps.toList.length = 36 := by decide +kernel
theorem at_in {l : List Nat} {n : Nat} (hl : l.length = n) {i : Int} (h0 : 0 ≤ i) (h1 : i < n) : ∃ c, atI l i = some c ∧ c ∈ l := by
  obtain ⟨j, rfl⟩ : ∃ j : Nat, i = (j : Int) := ⟨i.toNat, by omega⟩
  have hj : j < l.length := by omega
  exact ⟨l[j], atI_nat (List.getElem?_eq_getElem hj), List.getElem_mem hj⟩
theorem lett_al {c : Nat} (h : c ∈ LETT.cps.toList) : AlN c := by
  have e : (LETT ++ DIGI).cps.toList = LETT.cps.toList ++ DIGI.cps.toList := TL.tl_append _ _
  unfold AlN
  rw [e]
  exact List.mem_append_left _ h
theorem name_of {s : Str} {c : Nat} {cs : List Nat} (h : TL.tl s = c :: cs) (hc : c ∈ LETT.cps.toList) (ha : ∀ x ∈ cs, AlN x) (hl : cs.length ≤ 11) : NameOk s := by
  have e : s.cps.toList = c :: cs := h
  have sz : s.cps.size = cs.length + 1 := by rw [← Array.length_toList, e]; rfl
  refine ⟨by omega, by omega, fun x hx => ?_, fun x hx => ?_⟩
  · rw [e] at hx
    rcases List.mem_cons.mp hx with rfl | hx
    · exact lett_al hc
    · exact ha x hx
  · have : s.cps.toList[0]? = some x := by rw [Array.getElem?_toList]; exact hx
    rw [e] at this
    cases this
    exact hc
theorem joinL_nil : ∀ l : List Nat, TL.joinL [] (l.map fun c => [c]) = l
  | [] => rfl
  | [_] => rfl
  | a :: b :: l => by
    have ih := joinL_nil (b :: l)
    show [a] ++ ([] ++ TL.joinL [] ((b :: l).map fun c => [c])) = a :: b :: l
    rw [ih]
    rfl
theorem join_one (l : List Nat) : TL.tl (Txt.join "" (l.map fun c => (⟨#[c]⟩ : Str))) = l := by
  rw [TL.join_eq, TL.tl_join]
  have e : (l.map fun c => (⟨#[c]⟩ : Str)).map TL.tl = l.map fun c => [c] := by
    rw [List.map_map]
    rfl
  rw [e]
  exact joinL_nil l
theorem sum_ones (cs : List Nat) : ((cs.map fun c => (⟨#[c]⟩ : Str)).map (·.length)).sum = cs.length := by
  induction cs with
  | nil => rfl
  | cons a l ih =>
    rw [List.map_cons, List.map_cons, List.sum_cons, ih]
    show 1 + l.length = l.length + 1
    omega
theorem cut_lo (z : Str) {p : Nat} (h : p ≤ z.length) : TL.tl (cutS z none (some (p : Int))) = (TL.tl z).take p := by
  have e : HT.sIx z.length z.length (some ((p : Nat) : Int)) = min p z.length := HT.sIx_nat _ _ p
  show ((z.cps.toList.drop (HT.sIx z.length 0 none)).take (HT.sIx z.length z.length (some (p : Int)) - HT.sIx z.length 0 none)).toArray.toList = _
  rw [e, HT.sIx_none, Nat.min_eq_left h]
  first | done | rfl
theorem cut_hi (z : Str) {p : Nat} (h : p ≤ z.length) : TL.tl (cutS z (some (p : Int)) none) = (TL.tl z).drop p := by
  have e : HT.sIx z.length 0 (some ((p : Nat) : Int)) = min p z.length := HT.sIx_nat _ _ p
  show ((z.cps.toList.drop (HT.sIx z.length 0 (some (p : Int)))).take (HT.sIx z.length z.length none - HT.sIx z.length 0 (some (p : Int)))).toArray.toList = _
  rw [e, HT.sIx_none, Nat.min_eq_left h]
  have : (z.cps.toList.drop p).length = z.length - p := by rw [List.length_drop, Array.length_toList]; rfl
  rw [List.take_of_length_le (by rw [this]; exact Nat.le_refl _)]
  first | done | rfl
/-- a sign put into a text behind its first -/
theorem name_mid {t : Str} {c : Nat} {cs : List Nat} (h : TL.tl t = c :: cs) (hc : c ∈ LETT.cps.toList) (ha : ∀ x ∈ cs, AlN x) (hl : cs.length ≤ 10) {p : Nat} (p1 : 1 ≤ p) (p2 : p ≤ cs.length + 1) {g : Nat} (hg : AlN g) :
    NameOk (cutS t none (some (p : Int)) ++ ⟨#[g]⟩ ++ cutS t (some (p : Int)) none) := by
  have tl : t.length = cs.length + 1 := by
    show t.cps.size = _
    rw [← Array.length_toList]
    show (TL.tl t).length = _
    rw [h]
    rfl
  obtain ⟨p', rfl⟩ : ∃ p', p = p' + 1 := ⟨p - 1, by omega⟩
  refine name_of (c := c) (cs := cs.take p' ++ g :: cs.drop p') ?_ hc (fun x hx => ?_) ?_
  · rw [TL.tl_append, TL.tl_append, cut_lo t (by omega), cut_hi t (by omega), h]
    show (c :: cs.take p') ++ [g] ++ cs.drop p' = _
    simp
  · rcases List.mem_append.mp hx with h | h
    · exact ha x (List.mem_of_mem_take h)
    · rcases List.mem_cons.mp h with rfl | h
      · exact hg
      · exact ha x (List.mem_of_mem_drop h)
  · rw [List.length_append, List.length_take, List.length_cons, List.length_drop]
    omega
section
variable {P : Program} {w : World} {K : PySem.W.Frag} {mg : Str → Option Value} {base : Heap}
def spLNames : Sp := fun vs H Q _ => ∃ f s : Int, vs = [.int f, .int s, .int 6] ∧ 0 ≤ f ∧ f < 1000 ∧ 0 ≤ s ∧ s < 1000 ∧ ∀ l (S : List Str) H', Same H H' → H l = none → H' l = some (.lst (S.map V.str)) → S.length = 6 → (∀ x ∈ S, NameOk x) → Q (.ref l) H'
theorem sc_law_names : FnScope ["_law_first", "_law_second", "_law_many", "_law_letters", "_law_signs", "_law_size", "_law_text", "_law_place", "_law_k"] ["_law_first", "_law_second", "_law_many"] (defScope s__law_names) := ⟨rfl, rfl, rfl, by decide +kernel, rfl, by decide +kernel, by decide +kernel⟩
theorem names_more {S : List Str} {i : Nat} {x : Str} (h : S.length = i) (hx : NameOk x) (ha : ∀ y ∈ S, NameOk y) : (S ++ [x]).length = i + 1 ∧ ∀ y ∈ S ++ [x], NameOk y :=
  ⟨by rw [List.length_append, h]; rfl, fun y hy => by
    rcases List.mem_append.mp hy with h | h
    · exact ha y h
    · rw [List.mem_singleton.mp h]; exact hx⟩
theorem ok_lnames (T : Txt w K mg) : Fn P w K mg base 1 (He.ga K "_law_names") spLNames := by
  refine mkN T.F_law_names sc_law_names (fun vs H Q E h => ?_) (fun _ _ _ _ _ _ us hl => match us, hl with | [_, _, _], _ => rfl) (fun cdv A outer s H vs Q E hr h => ?_)
  · obtain ⟨f, s, rfl, _⟩ := h
    rfl
  obtain ⟨f, z, rfl, f0, f1, z0, z1, q⟩ := h
  refine ⟨_, (pss_cons (ps_set (i := 3) sc_law_names.nd rfl (Or.inr rfl) pe_str)
      (pss_cons (ps_if (pt_cmpR op_eq (pe_op op_mod (pe_callTy call_int1 rfl T.b_int (by decide +kernel) (pa_cons (pv 0) pa_nil)) pe_int) pe_int (nomark _)) (pss_one (ps_ret (pe_lc (own := [("_law_k", 8)]) (g := gName 8) (tt := tYes) rfl sc_law_names.nd (pi_range1 rfl T.b_range (pa_cons (pv 2) pa_nil)) (blkOk_by (N := ["_law_first", "_law_second", "_law_many", "_law_letters", "_law_signs", "_law_size", "_law_text", "_law_place", "_law_k"]) (sc := defScope s__law_names) (by decide +kernel)) (fun _ _ _ _ _ => (pg_name (i := 8) sc_law_names.nd rfl (Or.inl rfl))) (fun _ _ _ _ _ => pts_nil) (fun _ _ _ _ _ => (pe_ix ix_str (pv 3) (pe_op op_mod (pe_callTy call_int1 rfl T.b_int (by decide +kernel) (pa_cons (pe_op op_add (pv 1) (pe_op op_mul pe_int (pv 8))) pa_nil)) pe_int) (fun _ _ => rfl)))))) pss_nil)
      (pss_cons (ps_set (i := 4) sc_law_names.nd rfl (Or.inr rfl) (pe_op op_add_str (pv 3) pe_str))
      (pss_cons (ps_set (i := 5) sc_law_names.nd rfl (Or.inl rfl) (pe_ix (ixl K) (pe_lst (pa_cons pe_int (pa_cons pe_int (pa_cons pe_int (pa_cons pe_int pa_nil))))) (pe_op op_mod (pe_callTy call_int1 rfl T.b_int (by decide +kernel) (pa_cons (pv 0) pa_nil)) pe_int) (fun _ _ => rfl)))
      (pss_cons (ps_set (i := 6) sc_law_names.nd rfl (Or.inr rfl) (pe_op op_add_str (pe_ix ix_str (pv 3) (pe_op op_mod (pe_callTy call_int1 rfl T.b_int (by decide +kernel) (pa_cons (pv 1) pa_nil)) pe_int) (fun _ _ => rfl)) (pe_join pe_str (pe_lc (own := [("_law_k", 8)]) (g := gName 8) (tt := tYes) rfl sc_law_names.nd (pi_range1 rfl T.b_range (pa_cons (pv 5) pa_nil)) (blkOk_by (N := ["_law_first", "_law_second", "_law_many", "_law_letters", "_law_signs", "_law_size", "_law_text", "_law_place", "_law_k"]) (sc := defScope s__law_names) (by decide +kernel)) (fun _ _ _ _ _ => (pg_name (i := 8) sc_law_names.nd rfl (Or.inl rfl))) (fun _ _ _ _ _ => pts_nil) (fun _ _ _ _ _ => (pe_ix ix_str (pv 4) (pe_op op_mod (pe_callTy call_int1 rfl T.b_int (by decide +kernel) (pa_cons (pe_op op_add (pv 0) (pe_op op_mul pe_int (pv 8))) pa_nil)) pe_int) (fun _ _ => rfl)))))))
      (pss_cons (ps_set (i := 7) sc_law_names.nd rfl (Or.inr rfl) (pe_op op_add pe_int (pe_op op_mod (pe_callTy call_int1 rfl T.b_int (by decide +kernel) (pa_cons (pv 1) pa_nil)) (pe_op op_add (pv 5) pe_int))))
      (pss_one (ps_ret (pe_lc (own := [("_law_k", 8)]) (g := gName 8) (tt := tYes) rfl sc_law_names.nd (pi_range1 rfl T.b_range (pa_cons (pv 2) pa_nil)) (blkOk_by (N := ["_law_first", "_law_second", "_law_many", "_law_letters", "_law_signs", "_law_size", "_law_text", "_law_place", "_law_k"]) (sc := defScope s__law_names) (by decide +kernel)) (fun _ _ _ _ _ => (pg_name (i := 8) sc_law_names.nd rfl (Or.inl rfl))) (fun _ _ _ _ _ => pts_nil) (fun _ _ _ _ _ => (pe_op op_add_str (pe_op op_add_str (pe_slice sl_str (pv 6) po_none (po_some (pv 7))) (pe_ix ix_str (pv 4) (pe_op op_mod (pe_callTy call_int1 rfl T.b_int (by decide +kernel) (pa_cons (pe_op op_add (pv 1) (pe_op op_mul pe_int (pv 8))) pa_nil)) pe_int) (fun _ _ => rfl))) (pe_slice sl_str (pv 6) (po_some (pv 7)) po_none)))))))))))), ?_⟩
  refine ⟨_, rfl, .inl ⟨_, rfl, _, _, rfl, rfl, by show (0 : Int) < 5; decide, rfl, _, rfl, ite2 (fun e => ?_) (fun e => ?_)⟩⟩
  · refine ⟨_, rfl, 6, rfl, by decide, by decide, fun D nD => ?_⟩
    refine lc_range (n := 6) (fun i H' => Same H H' ∧ ∃ S : List Str, H' D = some (.lst (S.map V.str)) ∧ S.length = i ∧ ∀ x ∈ S, NameOk x) ⟨same_new nD _, [], upd_same, rfl, fun _ h => by cases h⟩ ?_ ?_
    · rintro i H' hi ⟨s1, S, eD, sl, sa⟩
      refine ⟨rfl, ?_⟩
      obtain ⟨c, c1, c2⟩ := at_in lett_len (i := (z + 5 * (0 + (i : Int))) % 26) (by omega) (by omega)
      refine ⟨_, rfl, _, rfl, _, rfl, _, _, rfl, rfl, .inl ⟨by decide, by decide⟩, _, _, rfl, rfl, .inl ⟨_, rfl, _, _, rfl, rfl, by show (0 : Int) < 26; decide, _, _, c, rfl, rfl, by show 26 ≤ sizeLine; exact big_line (by omega), c1, ?_⟩⟩
      obtain ⟨h1, h2⟩ := names_more sl (name_of (s := ⟨#[c]⟩) (c := c) (cs := []) rfl c2 (fun _ h => by cases h) (by decide)) sa
      exact ⟨_, eD, by rw [List.length_map]; exact big_line' (by omega), s1.put nD _, _, by rw [upd_same, List.map_append]; rfl, h1, h2⟩
    · rintro H' ⟨s1, S, eD, sl, sa⟩
      exact q D S H' s1 nD eD sl sa
  · refine ⟨_, rfl, _, _, rfl, rfl, by show 36 ≤ sizeLine; exact big_line (by omega), ?_⟩
    refine ⟨by show 4 ≤ sizeLine; decide, fun l0 n0 => ?_⟩
    have s0 : Same H (upd H l0 (.lst [.int 1, .int 2, .int 3, .int 10])) := same_new n0 _
    obtain ⟨k, k1, k10, hk⟩ : ∃ k : Nat, 1 ≤ k ∧ k ≤ 10 ∧ atI [V.int 1, .int 2, .int 3, .int 10] (f % 4) = some (.int (k : Int)) := by
      have : f % 4 = 0 ∨ f % 4 = 1 ∨ f % 4 = 2 ∨ f % 4 = 3 := by omega
      rcases this with e | e | e | e
      · exact ⟨1, by decide, by decide, by rw [e]; exact atI_nat (j := 0) rfl⟩
      · exact ⟨2, by decide, by decide, by rw [e]; exact atI_nat (j := 1) rfl⟩
      · exact ⟨3, by decide, by decide, by rw [e]; exact atI_nat (j := 2) rfl⟩
      · exact ⟨10, by decide, by decide, by rw [e]; exact atI_nat (j := 3) rfl⟩
    refine ⟨_, rfl, .inl ⟨_, rfl, _, _, rfl, rfl, by show (0 : Int) < 4; decide, l0, _, _, _, rfl, rfl, SqL.of upd_same, hk, ?_⟩⟩
    obtain ⟨c, c1, c2⟩ := at_in lett_len (i := z % 26) (by omega) (by omega)
    refine ⟨_, rfl, _, rfl, .inl ⟨_, rfl, _, _, rfl, rfl, by show (0 : Int) < 26; decide, _, _, c, rfl, rfl, by show 26 ≤ sizeLine; exact big_line (by omega), c1, ?_⟩⟩
    refine ⟨⟨_, rfl⟩, _, rfl, (k : Int), rfl, by omega, by omega, fun D nD => ?_⟩
    refine lc_range (n := (k : Int).toNat) (fun i H' => Same H H' ∧ ∃ cs : List Nat, H' D = some (.lst ((cs.map fun c => (⟨#[c]⟩ : Str)).map V.str)) ∧ cs.length = i ∧ ∀ x ∈ cs, AlN x) ⟨s0.new nD _, [], upd_same, rfl, fun _ h => by cases h⟩ ?_ ?_
    · rintro i H' hi ⟨s1, cs, eD, cl, ca⟩
      refine ⟨rfl, ?_⟩
      obtain ⟨g, g1, g2⟩ := at_in sign_len (i := (f + 7 * (0 + (i : Int))) % 36) (by omega) (by omega)
      refine ⟨_, rfl, _, rfl, _, rfl, _, _, rfl, rfl, .inl ⟨by decide, by decide⟩, _, _, rfl, rfl, .inl ⟨_, rfl, _, _, rfl, rfl, by show (0 : Int) < 36; decide, _, _, g, rfl, rfl, by show 36 ≤ sizeLine; exact big_line (by omega), g1, ?_⟩⟩
      refine ⟨_, eD, by rw [List.length_map, List.length_map]; exact big_line' (by omega), s1.put (s0.free nD) _, cs ++ [g], by rw [upd_same, List.map_append, List.map_append]; rfl, by rw [List.length_append, cl]; rfl, fun x hx => ?_⟩
      rcases List.mem_append.mp hx with h | h
      · exact ca x h
      · rw [List.mem_singleton.mp h]; exact g2
    rintro H1 ⟨s1, cs, eD, cl, ca⟩
    have cl : cs.length = k := by omega
    have sum := sum_ones cs
    refine ⟨_, D, _, rfl, rfl, .inl (SqL.of eD), ?_, ?_⟩
    · rw [sum]
      show _ + _ * 0 ≤ _
      omega
    generalize hj : Txt.join "" (cs.map fun c => (⟨#[c]⟩ : Str)) = jn
    have tj : TL.tl jn = cs := by rw [← hj]; exact join_one cs
    have jl : jn.length = k := by
      show jn.cps.size = k
      rw [← Array.length_toList, ← cl]
      exact congrArg List.length tj
    have c1l : (⟨#[c]⟩ : Str).length = 1 := rfl
    refine ⟨_, _, rfl, rfl, big_line (by rw [jl, c1l]; omega), ?_⟩
    have tt : TL.tl ((⟨#[c]⟩ : Str) ++ jn) = c :: cs := by rw [TL.tl_append, tj]; rfl
    have ttl : ((⟨#[c]⟩ : Str) ++ jn).length = k + 1 := by
      show ((⟨#[c]⟩ : Str) ++ jn).cps.size = _
      rw [← Array.length_toList, ← cl]
      exact congrArg List.length tt
    generalize (⟨#[c]⟩ : Str) ++ jn = tx at tt ttl
    refine ⟨_, rfl, .inl ⟨_, rfl, _, rfl, _, _, rfl, rfl, _, _, rfl, rfl, by omega, _, _, rfl, rfl, ?_⟩⟩
    obtain ⟨p, hp, p1, p2⟩ : ∃ p : Nat, 1 + z % ((k : Int) + 1) = (p : Int) ∧ 1 ≤ p ∧ p ≤ cs.length + 1 := by
      have a1 := Int.emod_nonneg z (show (k : Int) + 1 ≠ 0 by omega)
      have a2 := Int.emod_lt_of_pos z (show (0 : Int) < (k : Int) + 1 by omega)
      exact ⟨(1 + z % ((k : Int) + 1)).toNat, by omega, by omega, by omega⟩
    refine ⟨_, rfl, 6, rfl, by decide, by decide, fun D2 nD2 => ?_⟩
    have nD2H := s1.free nD2
    refine lc_range (n := 6) (fun i H' => Same H H' ∧ ∃ S : List Str, H' D2 = some (.lst (S.map V.str)) ∧ S.length = i ∧ ∀ x ∈ S, NameOk x) ⟨s1.new nD2 _, [], upd_same, rfl, fun _ h => by cases h⟩ ?_ ?_
    · rintro i H' hi ⟨s2, S, e2, sl, sa⟩
      refine ⟨rfl, ?_⟩
      obtain ⟨g, g1, g2⟩ := at_in sign_len (i := (z + 5 * (0 + (i : Int))) % 36) (by omega) (by omega)
      refine ⟨_, rfl, _, rfl, _, rfl, tx, rfl, big_line (by omega), ?_⟩
      refine ⟨_, rfl, _, rfl, _, rfl, _, _, rfl, rfl, .inl ⟨by decide, by decide⟩, _, _, rfl, rfl, .inl ⟨_, rfl, _, _, rfl, rfl, by show (0 : Int) < 36; decide, _, _, g, rfl, rfl, by show 36 ≤ sizeLine; exact big_line (by omega), g1, ?_⟩⟩
      have l1 := cutS_length tx none (some (1 + z % ((k : Int) + 1)))
      have l2 := cutS_length tx (some (1 + z % ((k : Int) + 1))) none
      have g1l : (⟨#[g]⟩ : Str).length = 1 := rfl
      refine ⟨_, _, rfl, rfl, big_line (by rw [g1l]; omega), ?_⟩
      refine ⟨_, rfl, _, rfl, _, rfl, tx, rfl, big_line (by omega), ?_⟩
      have nk : NameOk (cutS tx none (some (1 + z % ((k : Int) + 1))) ++ ⟨#[g]⟩ ++ cutS tx (some (1 + z % ((k : Int) + 1))) none) := by
        rw [hp]
        exact name_mid tt c2 ca (by omega) p1 p2 g2
      have l3 : (cutS tx none (some (1 + z % ((k : Int) + 1))) ++ (⟨#[g]⟩ : Str)).length = (cutS tx none (some (1 + z % ((k : Int) + 1)))).length + 1 := by
        show (cutS tx none (some (1 + z % ((k : Int) + 1))) ++ (⟨#[g]⟩ : Str)).cps.size = _
        rw [Str.cps_append, Array.size_append]
        rfl
      refine ⟨_, _, rfl, rfl, big_line (by rw [l3]; omega), ?_⟩
      obtain ⟨h1, h2⟩ := names_more sl nk sa
      exact ⟨_, e2, by rw [List.length_map]; exact big_line' (by omega), s2.put nD2H _, _, by rw [upd_same, List.map_append]; rfl, h1, h2⟩
    · rintro H' ⟨s2, S, e2, sl, sa⟩
      exact q D2 S H' s2 nD2H e2 sl sa
end
end Sh
set_option Elab.async false
set_option linter.all false
set_option maxRecDepth 100000
set_option maxHeartbeats 4000000
namespace Sh
open PySem PySem.Spec PyProof.Rows L2 StX
section
variable {P : Program} {w : World} {K : PySem.W.Frag} {mg : Str → Option Value} {base : Heap}
/-! ### _law_atom -/
theorem row_new {M : List Addr} {H : Hp} {a1 a2 a3 a4 : Addr} (p q : List Int) (s : Str) (av : Av M H) (n1 : H a1 = none) (n2 : upd H a1 (.lst (p.map V.int)) a2 = none)
    (n3 : upd (upd H a1 (.lst (p.map V.int))) a2 (.lst [.ref a1]) a3 = none) (n4 : upd (upd (upd H a1 (.lst (p.map V.int))) a2 (.lst [.ref a1])) a3 (.lst (q.map V.int)) a4 = none) :
    Same H (upd (upd (upd (upd H a1 (.lst (p.map V.int))) a2 (.lst [.ref a1])) a3 (.lst (q.map V.int))) a4 (.tup [.ref a2, .ref a3, .str s])) ∧
    IsR (mi M (upd (upd (upd (upd H a1 (.lst (p.map V.int))) a2 (.lst [.ref a1])) a3 (.lst (q.map V.int))) a4 (.tup [.ref a2, .ref a3, .str s]))) (.ref a4) p q s := by
  have s1 : Same H (upd H a1 (.lst (p.map V.int))) := same_new n1 _
  have s2 : Same H (upd (upd H a1 (.lst (p.map V.int))) a2 (.lst [.ref a1])) := s1.new n2 _
  have s3 := s2.new n3 (.lst (q.map V.int))
  refine ⟨s3.new n4 _, a4, a2, a1, a3, rfl, mi_new (av.same s3) n4, ?_, ?_, ?_⟩
  · exact mi_upd n4 _ _ (mi_upd n3 _ _ (mi_new (av.same s1) n2))
  · exact mi_upd n4 _ _ (mi_upd n3 _ _ (mi_upd n2 _ _ (mi_new av n1)))
  · exact mi_upd n4 _ _ (mi_new (av.same s2) n3)
/-- a condition, new, made while the draws' list at d changes -/
def NewC (M : List Addr) (d : Addr) (H : Hp) (k : Nat) (Q : VK) : Prop := ∀ v c ds' H', Ta [d] H H' → H' d = some (.lst (ds'.map V.int)) → Drw ds' → IsC (mi M H') v c → okC c → c.depth ≤ k → c.leaves.length ≤ 2 ^ k → Q v H'
def spAtom : Sp := fun vs H Q _ => ∃ (M : List Addr) (d : Addr) (ds : List Int), vs = [.ref d] ∧ d ∈ M ∧ Av M H ∧ H d = some (.lst (ds.map V.int)) ∧ Drw ds ∧ NewC M d H 0 Q
theorem poly1 {m b n : Int} (hm : 0 ≤ m) (h1 : -b < n) (h2 : n < b) (h3 : n ≠ 0) : PolyOk m b [n] := ⟨by show (1 : Int) ≤ m + 1; omega, fun c hc => by rw [List.mem_singleton.mp hc]; exact ⟨h1, h2⟩, fun ys x e => by
  cases ys with
  | nil => cases e; exact h3
  | cons y ys => cases ys <;> cases e⟩
theorem poly2 {m b x y : Int} (hm : 1 ≤ m) (h1 : -b < x) (h2 : x < b) (h3 : -b < y) (h4 : y < b) (h5 : y ≠ 0) : PolyOk m b [x, y] := ⟨by show (2 : Int) ≤ m + 1; omega, fun c hc => by
  rcases List.mem_cons.mp hc with rfl | hc
  · exact ⟨h1, h2⟩
  · rw [List.mem_singleton.mp hc]; exact ⟨h3, h4⟩, fun ys z e => by
  cases ys with
  | nil => cases e
  | cons a ys =>
    cases ys with
    | nil => cases e; exact h5
    | cons b ys => cases ys <;> cases e⟩
theorem poly0 {m b : Int} (hm : 0 ≤ m) : PolyOk m b [] := ⟨by show (0 : Int) ≤ m + 1; omega, (fun c hc => by cases hc), (fun ys z e => by cases ys <;> cases e)⟩
theorem leaf_new {M : List Addr} {d : Addr} {H H' : Hp} {Q : VK} {ds' : List Int} {v : V} {c : C} {k : Nat} (q : NewC M d H k Q) (t : Ta [d] H H') (e : H' d = some (.lst (ds'.map V.int))) (dd : Drw ds') (hc : IsC (mi M H') v c) (hl : c.leaf = true) (ok : okL c) : Q v H' := by
  refine q v c ds' H' t e dd hc (fun l h => ?_) (by rw [Cnd.depth_leaf hl]; exact Nat.zero_le _) (by rw [Cnd.leaves_leaf hl]; exact Nat.one_le_two_pow)
  rw [Cnd.leaves_leaf hl] at h
  rw [List.mem_singleton.mp h]
  exact ok
theorem Ta.new {M : List Addr} {H H' : Hp} (t : Ta M H H') {p : Addr} (h : H' p = none) (o : HO) : Ta M H (upd H' p o) := t.trans ((same_new h o).ta M)
theorem pick3 {M : List Addr} {Ha Hb Hc Hl : Hp} {x1 x2 x3 : V} {p1 p2 p3 q1 q2 q3 : List Int} {z1 z2 z3 : Str} {C : Prop} {i : Int} (r1 : IsR (mi M Ha) x1 p1 q1 z1) (s1 : Same Ha Hl) (r2 : IsR (mi M Hb) x2 p2 q2 z2) (s2 : Same Hb Hl) (r3 : IsR (mi M Hc) x3 p3 q3 z3) (s3 : Same Hc Hl)
    (h0 : 0 ≤ i) (h3 : i < 3) (o1 : C → RowOk p1 q1 z1) (o2 : C → RowOk p2 q2 z2) (o3 : C → RowOk p3 q3 z3) : ∃ x p r y, atI [x1, x2, x3] i = some x ∧ IsR (mi M Hl) x p r y ∧ (C → RowOk p r y) := by
  have : i = 0 ∨ i = 1 ∨ i = 2 := by omega
  rcases this with rfl | rfl | rfl
  · exact ⟨x1, p1, q1, z1, atI_nat (j := 0) rfl, r1.same (mi_same s1), o1⟩
  · exact ⟨x2, p2, q2, z2, atI_nat (j := 1) rfl, r2.same (mi_same s2), o2⟩
  · exact ⟨x3, p3, q3, z3, atI_nat (j := 2) rfl, r3.same (mi_same s3), o3⟩
theorem sc_law_atom : FnScope ["_law_draws_here", "_law_sign", "_law_n", "_law_d", "_law_draw", "_law_row"] ["_law_draws_here"] (defScope s__law_atom) := ⟨rfl, rfl, rfl, by decide +kernel, rfl, by decide +kernel, by decide +kernel⟩
theorem ok_atom (T : Txt w K mg) : Fn P w K mg base 2 (He.ga K "_law_atom") spAtom := by
  have G_law_take : Fn P w K mg base 1 (He.ga K "_law_take") spTake := ok_take T
  refine mkN T.F_law_atom sc_law_atom (fun vs H Q E h => ?_) (fun _ _ _ _ _ _ us hl => match us, hl with | [_], _ => rfl) (fun cdv A outer s H vs Q E hr h => ?_)
  · obtain ⟨M, d, ds, rfl, _⟩ := h
    rfl
  obtain ⟨M, d, ds, rfl, dM, av, hd, dr, q⟩ := h
  refine ⟨_, (pss_cons (ps_set (i := 1) sc_law_atom.nd rfl (Or.inl rfl) (pe_ix (ixl K) (pe_lst (pa_cons pe_str (pa_cons pe_str (pa_cons pe_str (pa_cons pe_str (pa_cons pe_str (pa_cons pe_str pa_nil))))))) (pe_op op_mod (pe_callTy call_int1 rfl T.b_int (by decide +kernel) (pa_cons (pe_callR G_law_take (hr.mono (by omega)) T.g_law_take (kp T.F_law_take) passL (pa_cons (pv 0) pa_nil)) pa_nil)) pe_int) (fun _ _ => rfl)))
      (pss_cons (ps_par (i := 2) (j := 3) rfl sc_law_atom.nd rfl rfl (by decide) rfl rfl (pa_cons (pe_op op_sub (pe_op op_mod (pe_callTy call_int1 rfl T.b_int (by decide +kernel) (pa_cons (pe_callR G_law_take (hr.mono (by omega)) T.g_law_take (kp T.F_law_take) passL (pa_cons (pv 0) pa_nil)) pa_nil)) pe_int) pe_int) (pa_cons (pe_op op_add pe_int (pe_op op_mod (pe_callTy call_int1 rfl T.b_int (by decide +kernel) (pa_cons (pe_callR G_law_take (hr.mono (by omega)) T.g_law_take (kp T.F_law_take) passL (pa_cons (pv 0) pa_nil)) pa_nil)) pe_int)) pa_nil)) (by rfl))
      (pss_cons (ps_set (i := 4) sc_law_atom.nd rfl (Or.inl rfl) (pe_callTy call_int1 rfl T.b_int (by decide +kernel) (pa_cons (pe_callR G_law_take (hr.mono (by omega)) T.g_law_take (kp T.F_law_take) passL (pa_cons (pv 0) pa_nil)) pa_nil)))
      (pss_cons (ps_if (pt_cmpR op_eq (pe_op op_mod (pe_callTy call_int1 rfl T.b_int (by decide +kernel) (pa_cons (pv 4) pa_nil)) pe_int) pe_int (nomark _)) (pss_cons (ps_set (i := 5) sc_law_atom.nd rfl (Or.inl rfl) (pe_ix (ixl K) (pe_lst (pa_cons (pe_tup (pa_cons (pe_lst (pa_cons (pe_lst (pa_cons (pv 2) pa_nil)) pa_nil)) (pa_cons (pe_lst (pa_cons (pv 3) pa_nil)) (pa_cons pe_str pa_nil)))) (pa_cons (pe_tup (pa_cons (pe_lst (pa_cons (pe_lst (pa_cons pe_int (pa_cons (pv 3) pa_nil))) pa_nil)) (pa_cons (pe_lst (pa_cons (pv 2) pa_nil)) (pa_cons pe_str pa_nil)))) (pa_cons (pe_tup (pa_cons (pe_lst (pa_cons (pe_lst (pa_cons pe_int pa_nil)) pa_nil)) (pa_cons (pe_lst (pa_cons (pe_un un_neg (pv 2)) (pa_cons (pv 3) pa_nil))) (pa_cons pe_str pa_nil)))) pa_nil)))) (pe_op op_mod (pe_callTy call_int1 rfl T.b_int (by decide +kernel) (pa_cons (pe_op op_fdiv (pv 4) pe_int) pa_nil)) pe_int) (fun _ _ => rfl)))
      (pss_cons (ps_if (pt_cmpR op_eq (pv 2) pe_int (nomark _)) (pss_one (ps_set (i := 5) sc_law_atom.nd rfl (Or.inl rfl) (pe_tup (pa_cons (pe_lst (pa_cons (pe_lst pa_nil) pa_nil)) (pa_cons (pe_lst (pa_cons (pe_un un_neg (pv 3)) (pa_cons (pv 3) pa_nil))) (pa_cons pe_str pa_nil)))))) pss_nil)
      (pss_one (ps_ret (pe_tup (pa_cons pe_str (pa_cons pe_int (pa_cons (pe_lst (pa_cons (pv 5) pa_nil)) pa_nil)))))))) pss_nil)
      (pss_cons (ps_if (pt_cmpR op_eq (pv 2) pe_int (nomark _)) (pss_one (ps_ret (pe_tup (pa_cons pe_str (pa_cons (pe_lst (pa_cons pe_int (pa_cons (pv 3) pa_nil))) (pa_cons (pv 1) pa_nil)))))) pss_nil)
      (pss_one (ps_ret (pe_tup (pa_cons pe_str (pa_cons (pe_lst (pa_cons (pv 2) (pa_cons (pv 3) pa_nil))) (pa_cons (pv 1) pa_nil))))))))))), ?_⟩
  have sub : ∀ b ∈ [d], b ∈ M := fun b hb => by rw [List.mem_singleton.mp hb]; exact dM
  have nd : ∀ {H' : Hp} {x : List V}, H' d = some (.lst x) → ∀ b ∈ [d], H' b ≠ none := fun e b hb => by rw [List.mem_singleton.mp hb, e]; exact fun z => by cases z
  refine ⟨by show 6 ≤ sizeLine; decide, fun l0 n0 => ?_⟩
  have s0 : Same H (upd H l0 (.lst [.str "<", .str "<=", .str "=", .str "!=", .str ">=", .str ">"])) := same_new n0 _
  have nd0 : l0 ∉ [d] := fun h => by rw [List.mem_singleton.mp h, hd] at n0; cases n0
  refine ⟨_, rfl, d, ds, rfl, s0 _ _ hd, dr, fun x1 ds1 H1 t1 e1 dr1 hx1 => .inl ⟨_, rfl, _, _, rfl, rfl, by show (0 : Int) < 6; decide, ?_⟩⟩
  obtain ⟨z, hz1, hz2⟩ : ∃ z : Str, atI [V.str "<", .str "<=", .str "=", .str "!=", .str ">=", .str ">"] (x1 % 6) = some (.str z) ∧ z ∈ sixS := by
    have : x1 % 6 = 0 ∨ x1 % 6 = 1 ∨ x1 % 6 = 2 ∨ x1 % 6 = 3 ∨ x1 % 6 = 4 ∨ x1 % 6 = 5 := by omega
    rcases this with e | e | e | e | e | e
    · exact ⟨"<", by rw [e]; exact atI_nat (j := 0) rfl, .head _⟩
    · exact ⟨"<=", by rw [e]; exact atI_nat (j := 1) rfl, .tail _ (.tail _ (.head _))⟩
    · exact ⟨"=", by rw [e]; exact atI_nat (j := 2) rfl, .tail _ (.tail _ (.tail _ (.tail _ (.head _))))⟩
    · exact ⟨"!=", by rw [e]; exact atI_nat (j := 3) rfl, .tail _ (.tail _ (.tail _ (.tail _ (.tail _ (.head _)))))⟩
    · exact ⟨">=", by rw [e]; exact atI_nat (j := 4) rfl, .tail _ (.head _)⟩
    · exact ⟨">", by rw [e]; exact atI_nat (j := 5) rfl, .tail _ (.tail _ (.tail _ (.head _)))⟩
  refine ⟨l0, _, _, _, rfl, rfl, SqL.of (t1 _ _ nd0 upd_same), hz1, ?_⟩
  refine ⟨_, rfl, d, ds1, rfl, e1, dr1, fun x2 ds2 H2 t2 e2 dr2 hx2 => .inl ⟨_, rfl, _, _, rfl, rfl, by show (0 : Int) < 9; decide, _, _, rfl, rfl, ?_⟩⟩
  refine ⟨_, rfl, d, ds2, rfl, e2, dr2, fun x3 ds3 H3 t3 e3 dr3 hx3 => .inl ⟨_, rfl, _, _, rfl, rfl, by show (0 : Int) < 2; decide, _, _, rfl, rfl, _, _, rfl, ?_⟩⟩
  refine ⟨_, rfl, d, ds3, rfl, e3, dr3, fun x4 ds4 H4 t4 e4 dr4 hx4 => .inl ⟨_, rfl, ?_⟩⟩
  have t04 : Ta [d] H H4 := (((s0.ta _).trans t1).trans (t2.trans t3)).trans t4
  obtain ⟨n, hn, hn1, hn2⟩ : ∃ n : Int, x2 % 9 - 4 = n ∧ -4 ≤ n ∧ n ≤ 4 := ⟨_, rfl, by omega, by omega⟩
  obtain ⟨m, hm, hm1, hm2⟩ : ∃ m : Int, 1 + x3 % 2 = m ∧ 1 ≤ m ∧ m ≤ 2 := ⟨_, rfl, by omega, by omega⟩
  have av4 : Av M H4 := av.ta t04 (nd e4)
  refine ⟨_, rfl, .inl ⟨_, rfl, _, _, rfl, rfl, by show (0 : Int) < 4; decide, rfl, _, rfl, ite2 (fun _ => ?_) (fun _ => ?_)⟩⟩
  · have fin : ∀ (H' : Hp) (x : V) (p r : List Int) (y : Str), Ta [d] H H' → H' d = some (.lst (ds4.map V.int)) → IsR (mi M H') x p r y → RowOk p r y → ∀ p1, H' p1 = none → ∀ t, upd H' p1 (.lst [x]) t = none →
        Q (.ref t) (upd (upd H' p1 (.lst [x])) t (.tup [.str "some", .int 1, .ref p1])) := fun H' x p r y t' e' hr ok p1 n1 t nt => by
      have av' : Av M H' := av.ta t' (nd e')
      have s1 : Same H' (upd H' p1 (.lst [x])) := same_new n1 _
      refine leaf_new q ((t'.new n1 _).new nt _) ((s1.new nt _) _ _ e') dr4 (c := .sm p r y) (isC_sm.mpr ⟨t, p1, x, rfl, mi_new (av'.same s1) nt, mi_upd nt _ _ (mi_new av' n1), hr.same (mi_same (s1.new nt _))⟩) rfl ok
    refine ⟨_, rfl, by show 1 ≤ sizeLine; decide, fun a1 n1 => ⟨by show 1 ≤ sizeLine; decide, fun a2 n2 => ⟨_, rfl, by show 1 ≤ sizeLine; decide, fun a3 n3 => ⟨by show 3 ≤ sizeLine; decide, fun a4 n4 => ?_⟩⟩⟩⟩
    obtain ⟨sr1, r1⟩ := row_new [x2 % 9 - 4] [1 + x3 % 2] "<=" av4 n1 n2 n3 n4
    refine ⟨_, rfl, by show 2 ≤ sizeLine; decide, fun b1 m1 => ⟨by show 1 ≤ sizeLine; decide, fun b2 m2 => ⟨_, rfl, by show 1 ≤ sizeLine; decide, fun b3 m3 => ⟨by show 3 ≤ sizeLine; decide, fun b4 m4 => ?_⟩⟩⟩⟩
    obtain ⟨sr2, r2⟩ := row_new [0, 1 + x3 % 2] [x2 % 9 - 4] "=" (av4.same sr1) m1 m2 m3 m4
    refine ⟨by show 1 ≤ sizeLine; decide, fun c1 k1 => ⟨by show 1 ≤ sizeLine; decide, fun c2 k2 => ⟨_, rfl, _, rfl, _, rfl, by show 2 ≤ sizeLine; decide, fun c3 k3 => ⟨by show 3 ≤ sizeLine; decide, fun c4 k4 => ?_⟩⟩⟩⟩
    obtain ⟨sr3, r3⟩ := row_new [1] [-(x2 % 9 - 4), 1 + x3 % 2] "<" ((av4.same sr1).same sr2) k1 k2 k3 k4
    refine ⟨by show 3 ≤ sizeLine; decide, fun lr nr => ?_⟩
    have s123 := (sr1.trans sr2).trans sr3
    have sl := s123.new nr (.lst [.ref a4, .ref b4, .ref c4])
    obtain ⟨x, p, r, y, hx, hxr, hok⟩ := pick3 (C := n ≠ 0) (i := x4 / 4 % 3) r1 ((sr2.trans sr3).new nr (.lst [.ref a4, .ref b4, .ref c4])) r2 (sr3.new nr _) r3 (same_new nr _) (by omega) (by omega)
      (fun h => ⟨poly1 (by decide) (by omega) (by omega) (by omega), poly1 (by decide) (by omega) (by omega) (by omega), by decide +kernel⟩)
      (fun h => ⟨poly2 (by decide) (by decide) (by decide) (by omega) (by omega) (by omega), poly1 (by decide) (by omega) (by omega) (by omega), by decide +kernel⟩)
      (fun h => ⟨poly1 (by decide) (by decide) (by decide) (by decide), poly2 (by decide) (by omega) (by omega) (by omega) (by omega) (by omega), by decide +kernel⟩)
    refine ⟨_, rfl, _, _, rfl, rfl, ⟨by decide, by decide⟩, .inl ⟨_, rfl, _, _, rfl, rfl, by show (0 : Int) < 3; decide, lr, _, _, x, rfl, rfl, SqL.of upd_same, hx, ?_⟩⟩
    refine ⟨_, rfl, rfl, _, rfl, ite2 (fun g => ?_) (fun g => ?_)⟩
    · refine ⟨Nat.zero_le _, fun a1' n1' => ⟨by show 1 ≤ sizeLine; decide, fun a2' n2' => ⟨_, rfl, _, rfl, _, rfl, by show 2 ≤ sizeLine; decide, fun a3' n3' => ⟨by show 3 ≤ sizeLine; decide, fun a4' n4' => ?_⟩⟩⟩⟩
      obtain ⟨sr4, r4⟩ := row_new [] [-(1 + x3 % 2), 1 + x3 % 2] "<" (av4.same sl) n1' n2' n3' n4'
      have s5 := sl.trans sr4
      exact ⟨_, rfl, by show 1 ≤ sizeLine; decide, fun p1 np1 => ⟨by show 3 ≤ sizeLine; decide, fun t nt => fin _ _ _ _ _ (t04.trans (s5.ta _)) (s5 _ _ e4) r4 ⟨poly0 (by decide), poly2 (by decide) (by omega) (by omega) (by omega) (by omega) (by omega), by decide +kernel⟩ p1 np1 t nt⟩⟩
    · have n0' : n ≠ 0 := fun h => g (by show decide (V.int (x2 % 9 - 4) = V.int 0) = true; rw [hn, h]; rfl)
      exact ⟨_, rfl, by show 1 ≤ sizeLine; decide, fun p1 np1 => ⟨by show 3 ≤ sizeLine; decide, fun t nt => fin _ _ _ _ _ (t04.trans (sl.ta _)) (sl _ _ e4) hxr (hok n0') p1 np1 t nt⟩⟩
  · refine ⟨_, rfl, rfl, _, rfl, ite2 (fun g => ?_) (fun g => ?_)⟩
    · refine ⟨_, rfl, by show 2 ≤ sizeLine; decide, fun p np => ?_⟩
      have s5 := same_new np (.lst [.int 0, .int (1 + x3 % 2)])
      refine ⟨_, rfl, by show 3 ≤ sizeLine; decide, fun t nt => ?_⟩
      have nn : p ≠ t := ne_of_none upd_same nt
      refine leaf_new q ((t04.new np _).new nt _) ((s5.new nt _) _ _ e4) dr4 (c := .sg [0, m] z) ⟨t, p, rfl, ?_, ?_⟩ rfl ⟨poly2 (by decide) (by decide) (by decide) (by omega) (by omega) (by omega), hz2⟩
      · exact mi_new (av4.same s5) nt
      · rw [← hm]
        exact mi_upd nt _ _ (mi_new av4 np)
    · refine ⟨_, rfl, _, rfl, by show 2 ≤ sizeLine; decide, fun p np => ?_⟩
      have s5 := same_new np (.lst [.int (x2 % 9 - 4), .int (1 + x3 % 2)])
      refine ⟨_, rfl, by show 3 ≤ sizeLine; decide, fun t nt => ?_⟩
      refine leaf_new q ((t04.new np _).new nt _) ((s5.new nt _) _ _ e4) dr4 (c := .sg [n, m] z) ⟨t, p, rfl, ?_, ?_⟩ rfl ⟨poly2 (by decide) (by omega) (by omega) (by omega) (by omega) (by omega), hz2⟩
      · exact mi_new (av4.same s5) nt
      · rw [← hm, ← hn]
        exact mi_upd nt _ _ (mi_new av4 np)
end
end Sh
set_option Elab.async false
set_option linter.all false
set_option maxRecDepth 100000
set_option maxHeartbeats 4000000
namespace Sh
open PySem PySem.Spec PyProof.Rows L2 StX
section
variable {P : Program} {w : World} {K : PySem.W.Frag} {mg : Str → Option Value} {base : Heap}
/-! ### _law_condition -/
def spCondn (j : Nat) : Sp := fun vs H Q _ => ∃ (M : List Addr) (d an : Addr) (ds : List Int) (ns : List Str) (k : Nat), vs = [.ref an, .ref d, .int ((k : Nat) : Int)] ∧ d ∈ M ∧ Av M H ∧ H d = some (.lst (ds.map V.int)) ∧ Drw ds ∧ an ≠ d ∧ H an = some (.lst (ns.map V.str)) ∧ ns.length ≤ 1000 ∧ k ≤ j ∧ NewC M d H k Q
theorem nd_of {d : Addr} {H : Hp} {o : HO} (e : H d = some o) : ∀ b ∈ [d], H b ≠ none := fun b hb => by rw [List.mem_singleton.mp hb, e]; exact fun z => by cases z
theorem at_inV {l : List Str} {i : Int} (h0 : 0 ≤ i) (h1 : i < ((l.map V.str).length : Int)) : ∃ y, atI (l.map V.str) i = some (.str y) ∧ y ∈ l := by
  obtain ⟨j, rfl⟩ : ∃ j : Nat, i = (j : Int) := ⟨i.toNat, by omega⟩
  rw [List.length_map] at h1
  have hj : j < l.length := by omega
  exact ⟨l[j], atI_nat (by rw [List.getElem?_map, List.getElem?_eq_getElem hj]; rfl), List.getElem_mem hj⟩
theorem sc_law_condition : FnScope ["_law_names_here", "_law_draws_here", "_law_depth_here", "_law_draw", "_law_kind", "_law_first"] ["_law_names_here", "_law_draws_here", "_law_depth_here"] (defScope s__law_condition) := ⟨rfl, rfl, rfl, by decide +kernel, rfl, by decide +kernel, by decide +kernel⟩
theorem ok_condn_step (T : Txt w K mg) {d j : Nat} (hj : 2 ≤ j) (G : d = 0 ∨ Fn P w K mg base j (He.ga K "_law_condition") (spCondn (d - 1))) : Fn P w K mg base (j + 1) (He.ga K "_law_condition") (spCondn d) := by
  have G_law_condition : Fn P w K mg base j (He.ga K "_law_condition") (fun vs H Q E => 0 < d ∧ spCondn (d - 1) vs H Q E) := by
    rcases G with e | G
    · intro A outer s H us vs Q E _ _ _ hs
      exact absurd hs.1 (by omega)
    · exact G.imp fun vs H Q E h => h.2
  have G_law_take : Fn P w K mg base 1 (He.ga K "_law_take") spTake := ok_take T
  have G_law_atom : Fn P w K mg base 2 (He.ga K "_law_atom") spAtom := ok_atom T
  refine mkN T.F_law_condition sc_law_condition (fun vs H Q E h => ?_) (fun _ _ _ _ _ _ us hl => match us, hl with | [_, _, _], _ => rfl) (fun cdv A outer s H vs Q E hr h => ?_)
  · obtain ⟨M, da, an, ds, ns, k, rfl, _⟩ := h
    rfl
  obtain ⟨M, da, an, ds, ns, k, rfl, dM, av, hd, dr, nad, han, nl, hk, q⟩ := h
  refine ⟨_, (pss_cons (ps_set (i := 3) sc_law_condition.nd rfl (Or.inl rfl) (pe_callTy call_int1 rfl T.b_int (by decide +kernel) (pa_cons (pe_callR G_law_take (hr.mono (by omega)) T.g_law_take (kp T.F_law_take) passL (pa_cons (pv 1) pa_nil)) pa_nil)))
      (pss_cons (ps_set (i := 4) sc_law_condition.nd rfl (Or.inl rfl) (pe_op op_mod (pe_callTy call_int1 rfl T.b_int (by decide +kernel) (pa_cons (pv 3) pa_nil)) pe_int))
      (pss_cons (ps_if (PW.pt (pw_or (pt_cmpR op_eq (pv 2) pe_int (nomark _)) (pw_or1 (pt_cmpR op_lt (pv 4) pe_int (nomark _))))) (pss_cons (ps_if (PW.pt (pw_and (pt_cmpR op_gt (pe_callB (lenq K) rfl T.b_len PySem.boot_len (pa_cons (pv 0) pa_nil)) pe_int (nomark _)) (pw_and1 (pt_cmpR op_gt (pe_op op_mod (pe_callTy call_int1 rfl T.b_int (by decide +kernel) (pa_cons (pe_op op_fdiv (pv 3) pe_int) pa_nil)) pe_int) pe_int (nomark _))))) (pss_one (ps_ret (pe_tup (pa_cons pe_str (pa_cons (pe_ix (ixl K) (pv 0) (pe_op op_mod (pe_callTy call_int1 rfl T.b_int (by decide +kernel) (pa_cons (pe_op op_fdiv (pv 3) pe_int) pa_nil)) (pe_callB (lenq K) rfl T.b_len PySem.boot_len (pa_cons (pv 0) pa_nil))) (fun _ _ => rfl)) pa_nil))))) pss_nil)
      (pss_one (ps_ret (pe_callR G_law_atom (hr.mono (by omega)) T.g_law_atom (kp T.F_law_atom) passL (pa_cons (pv 1) pa_nil))))) pss_nil)
      (pss_cons (ps_if (pt_cmpR op_eq (pv 4) pe_int (nomark _)) (pss_one (ps_ret (pe_tup (pa_cons pe_str (pa_cons (pe_callR G_law_condition (hr.mono (by omega)) T.g_law_condition (kp T.F_law_condition) passL (pa_cons (pv 0) (pa_cons (pv 1) (pa_cons (pe_op op_sub (pv 2) pe_int) pa_nil)))) pa_nil))))) pss_nil)
      (pss_cons (ps_set (i := 5) sc_law_condition.nd rfl (Or.inl rfl) (pe_callR G_law_condition (hr.mono (by omega)) T.g_law_condition (kp T.F_law_condition) passL (pa_cons (pv 0) (pa_cons (pv 1) (pa_cons (pe_op op_sub (pv 2) pe_int) pa_nil)))))
      (pss_one (ps_ret (pe_tup (pa_cons (pe_ix (ixl K) (pe_lst (pa_cons pe_str (pa_cons pe_str (pa_cons pe_str pa_nil)))) (pe_op op_sub (pv 4) pe_int) (fun _ _ => rfl)) (pa_cons (pv 5) (pa_cons (pe_callR G_law_condition (hr.mono (by omega)) T.g_law_condition (kp T.F_law_condition) passL (pa_cons (pv 0) (pa_cons (pv 1) (pa_cons (pe_op op_sub (pv 2) pe_int) pa_nil)))) pa_nil))))))))))), ?_⟩
  have sub : ∀ b ∈ [da], b ∈ M := fun b hb => by rw [List.mem_singleton.mp hb]; exact dM
  have anm : an ∉ [da] := by simpa using nad
  refine ⟨_, rfl, da, ds, rfl, hd, dr, fun x ds1 H1 t1 e1 dr1 hx => .inl ⟨_, rfl, ?_⟩⟩
  have av1 := av.ta t1 (nd_of e1)
  refine ⟨_, rfl, .inl ⟨_, rfl, _, _, rfl, rfl, by show (0 : Int) < 7; decide, ?_⟩⟩
  have m7 : 0 ≤ x % 7 ∧ x % 7 < 7 := by omega
  -- a leaf
  by_cases lf : k = 0 ∨ x % 7 < 3
  · have use : ∀ n p, H1 p = none → Q (.ref p) (upd H1 p (.tup [.str "use", .str n])) := fun n p np =>
      q (.ref p) (.us n) ds1 _ (t1.new np _) ((same_new np _) _ _ e1) dr1 ⟨p, rfl, mi_new av1 np⟩ (fun l h => by rw [List.mem_singleton.mp h]; exact True.intro) (Nat.zero_le _) Nat.one_le_two_pow
    have atom : ∀ v c ds' H', Ta [da] H1 H' → H' da = some (.lst (ds'.map V.int)) → Drw ds' → IsC (mi M H') v c → okC c → c.depth ≤ 0 → c.leaves.length ≤ 2 ^ 0 → Q v H' := fun v c ds' H' t e d' hc ok dd ll =>
      q v c ds' H' (t1.trans t) e d' hc ok (Nat.le_trans dd (Nat.zero_le _)) (Nat.le_trans ll Nat.one_le_two_pow)
    have anH := t1 _ _ anm han
    refine ⟨_, rfl, rfl, _, rfl, ite2 (fun z => ?_) (fun z => ?_)⟩
    case' refine_1 => refine iteT ?_
    case' refine_2 =>
      refine ⟨_, rfl, _, _, rfl, rfl, _, rfl, ?_⟩
      have lt3 : x % 7 < 3 := by
        rcases lf with h | h
        · exact absurd (by rw [h]; rfl) z
        · exact h
      refine ite2 (fun _ => ?_) (fun z3 => absurd (decide_eq_true lt3) z3)
    all_goals
      refine ⟨_, rfl, an, _, rfl, .inl (SqL.of anH), _, _, rfl, rfl, _, rfl, ite2 (fun z0 => ?_) (fun _ => ?_)⟩
      · have z0 := of_decide_eq_true z0
        rw [List.length_map] at z0
        refine ⟨_, rfl, _, _, rfl, rfl, ⟨by decide, by decide⟩, .inl ⟨_, rfl, _, _, rfl, rfl, by show (0 : Int) < 3; decide, _, _, rfl, rfl, _, rfl, ite2 (fun _ => ?_) (fun _ => ?_)⟩⟩
        · have n0 : ((ns.map V.str).length : Int) ≠ 0 := by rw [List.length_map]; omega
          have a1 := Int.emod_nonneg (x / 21) n0
          have a2 := Int.emod_lt_of_pos (x / 21) (show (0 : Int) < ((ns.map V.str).length : Int) by rw [List.length_map]; omega)
          obtain ⟨y, y1, y2⟩ := at_inV (l := ns) a1 (by rw [List.length_map] at a2; rw [List.length_map]; exact a2)
          refine ⟨_, rfl, _, rfl, _, _, rfl, rfl, ⟨by decide, by decide⟩, .inl ⟨_, rfl, _, rfl, an, _, rfl, .inl (SqL.of anH), _, _, rfl, rfl, by rw [List.length_map]; omega, an, _, _, .str y, rfl, rfl, SqL.of anH, y1, by show 2 ≤ sizeLine; decide, fun p np => use y p np⟩⟩
        · exact ⟨_, rfl, M, da, ds1, rfl, dM, av1, e1, dr1, atom⟩
      · exact ⟨_, rfl, M, da, ds1, rfl, dM, av1, e1, dr1, atom⟩
  have k0 : k ≠ 0 := fun h => lf (.inl h)
  have k3 : ¬ x % 7 < 3 := fun h => lf (.inr h)
  have ek : ((k : Int) - 1) = ((k - 1 : Nat) : Int) := by omega
  refine ⟨_, rfl, rfl, _, rfl, ite2 (fun z => ?_) (fun _ => ?_)⟩
  · have z : V.int (k : Int) = V.int 0 := of_decide_eq_true z
    cases z
    exact absurd rfl k0
  refine ⟨_, rfl, _, _, rfl, rfl, _, rfl, ite2 (fun z => absurd (of_decide_eq_true z) k3) (fun _ => ?_)⟩
  have anH := t1 _ _ anm han
  have arg : ∀ a b : V, [a, b, V.int ((k : Int) - 1)] = [a, b, V.int ((k - 1 : Nat) : Int)] := fun a b => by rw [ek]
  have p2 : 2 ^ k = 2 ^ (k - 1) + 2 ^ (k - 1) := by
    obtain ⟨k', rfl⟩ : ∃ k', k = k' + 1 := ⟨k - 1, by omega⟩
    rw [Nat.pow_succ, Nat.add_sub_cancel]
    omega
  refine ⟨_, rfl, rfl, _, rfl, ite2 (fun z => ?_) (fun z => ?_)⟩
  · refine ⟨_, rfl, _, rfl, _, rfl, _, _, rfl, rfl, by omega, M, da, an, ds1, ns, k - 1, arg _ _, dM, av1, e1, dr1, nad, anH, nl, by omega, fun v c ds2 H2 t2 e2 dr2 hc ok dd ll => ?_⟩
    have av2 := av1.ta t2 (nd_of e2)
    refine ⟨by show 2 ≤ sizeLine; decide, fun p np => ?_⟩
    refine q (.ref p) (.nt c) ds2 _ ((t1.trans t2).new np _) ((same_new np _) _ _ e2) dr2 ⟨p, v, rfl, mi_new av2 np, hc.same (mi_upd np)⟩ ok (by show c.depth + 1 ≤ k; omega) (by show c.leaves.length ≤ 2 ^ k; omega)
  · have kne : x % 7 ≠ 3 := fun h => z (by show decide (V.int (x % 7) = V.int 3) = true; rw [h]; rfl)
    refine ⟨_, rfl, _, rfl, _, rfl, _, _, rfl, rfl, by omega, M, da, an, ds1, ns, k - 1, arg _ _, dM, av1, e1, dr1, nad, anH, nl, by omega, fun v c ds2 H2 t2 e2 dr2 hc ok dd ll => ?_⟩
    have av2 := av1.ta t2 (nd_of e2)
    refine ⟨by show 3 ≤ sizeLine; decide, fun l nl' => ?_⟩
    have s3 := same_new nl' (.lst [.str "and", .str "or", .str "and"])
    obtain ⟨o, ho⟩ : ∃ o : Bool, atI [V.str "and", .str "or", .str "and"] (x % 7 - 4) = some (.str (if o then "and" else "or")) := by
      have : x % 7 = 4 ∨ x % 7 = 5 ∨ x % 7 = 6 := by omega
      rcases this with h | h | h
      · exact ⟨true, by rw [h]; exact atI_nat (j := 0) rfl⟩
      · exact ⟨false, by rw [h]; exact atI_nat (j := 1) rfl⟩
      · exact ⟨true, by rw [h]; exact atI_nat (j := 2) rfl⟩
    refine ⟨_, rfl, _, _, rfl, rfl, l, _, _, _, rfl, rfl, SqL.of upd_same, ho, ?_⟩
    refine ⟨_, rfl, _, rfl, _, rfl, _, rfl, _, _, rfl, rfl, by omega, M, da, an, ds2, ns, k - 1, arg _ _, dM, av2.same s3, s3 _ _ e2, dr2, nad, s3 _ _ (t2 _ _ anm anH), nl, by omega, fun v' c' ds3 H3 t3 e3 dr3 hc' ok' dd' ll' => ?_⟩
    have av3 := (av2.same s3).ta t3 (nd_of e3)
    refine ⟨by show 3 ≤ sizeLine; decide, fun p np => ?_⟩
    refine q (.ref p) (.bn o c c') ds3 _ (((t1.trans t2).trans ((s3.ta _).trans t3)).new np _) ((same_new np _) _ _ e3) dr3 ⟨p, v, v', rfl, mi_new av3 np, ((hc.same (mi_same s3)).same (t3.mi sub)).same (mi_upd np), hc'.same (mi_upd np)⟩ (fun y hy => ?_) (by show max c.depth c'.depth + 1 ≤ k; omega) (by show (c.leaves ++ c'.leaves).length ≤ 2 ^ k; rw [List.length_append]; omega)
    rcases List.mem_append.mp hy with h | h
    · exact ok y h
    · exact ok' y h
theorem ok_condn (T : Txt w K mg) : ∀ d, Fn P w K mg base (d + 3) (He.ga K "_law_condition") (spCondn d)
  | 0 => ok_condn_step T (Nat.le_refl _) (.inl rfl)
  | d + 1 => ok_condn_step T (by omega) (.inr (ok_condn T d))
/-! ### _law_deed -/
def spDeed : Sp := fun vs H Q _ => ∃ (M : List Addr) (a b d : Addr) (ds : List Int) (S : List Str) (ps : PsC), vs = [.ref a, .ref b, .ref d] ∧ d ∈ M ∧ Av M H ∧ H d = some (.lst (ds.map V.int)) ∧ Drw ds ∧ b ≠ d ∧ H b = some (.lst (S.map V.str)) ∧ IsPs (mi M H) a ps ∧ Good okL S 4 ps ∧ SB S 4 ∧ 0 < S.length ∧
  ∀ x dd H', Ta [d] H H' → IsD (mi M H') x dd → DeedOk S 4 dd → Q x H'
theorem sc_law_deed : FnScope ["_law_pairs", "_law_names_here", "_law_draws_here", "_law_kind", "_law_known", "_law_name", "_law_allowed", "_law_pair", "_law_other"] ["_law_pairs", "_law_names_here", "_law_draws_here"] (defScope s__law_deed) := ⟨rfl, rfl, rfl, by decide +kernel, rfl, by decide +kernel, by decide +kernel⟩
theorem ok_deed (T : Txt w K mg) : Fn P w K mg base 6 (He.ga K "_law_deed") spDeed := by
  have G_law_take : Fn P w K mg base 1 (He.ga K "_law_take") spTake := ok_take T
  have G_law_condition : Fn P w K mg base 5 (He.ga K "_law_condition") (spCondn 2) := ok_condn T 2
  refine mkN T.F_law_deed sc_law_deed (fun vs H Q E h => ?_) (fun _ _ _ _ _ _ us hl => match us, hl with | [_, _, _], _ => rfl) (fun cdv A outer s H vs Q E hr h => ?_)
  · obtain ⟨M, a, b, d, ds, S, ps, rfl, _⟩ := h
    rfl
  obtain ⟨M, a, b, d, ds, S, ps, rfl, dM, av, hd, dr, nbd, hb, hps, G, sb, s0, q⟩ := h
  refine ⟨_, (pss_cons (ps_set (i := 3) sc_law_deed.nd rfl (Or.inl rfl) (pe_op op_mod (pe_callTy call_int1 rfl T.b_int (by decide +kernel) (pa_cons (pe_callR G_law_take (hr.mono (by omega)) T.g_law_take (kp T.F_law_take) passL (pa_cons (pv 2) pa_nil)) pa_nil)) pe_int))
      (pss_cons (ps_setLc (i := 4) (own := [("_law_pair", 7)]) (g := gName 7) (tt := tYes) rfl sc_law_deed.nd rfl rfl (sw_true rfl rfl rfl (by decide +kernel)) (pil K (pv 0)) (blkOk_by (N := ["_law_pairs", "_law_names_here", "_law_draws_here", "_law_kind", "_law_known", "_law_name", "_law_allowed", "_law_pair", "_law_other"]) (sc := defScope s__law_deed) (by decide +kernel)) (fun _ _ _ _ _ => (pg_name (i := 7) sc_law_deed.nd rfl (Or.inl rfl))) (fun _ _ _ _ _ => pts_nil) (fun _ _ _ _ _ => (pe_ix (ixt K) (pv 7) pe_int (fun _ _ => rfl))))
      (pss_cons (ps_set (i := 5) sc_law_deed.nd rfl (Or.inl rfl) (pe_ix (ixl K) (pv 1) (pe_op op_mod (pe_callTy call_int1 rfl T.b_int (by decide +kernel) (pa_cons (pe_callR G_law_take (hr.mono (by omega)) T.g_law_take (kp T.F_law_take) passL (pa_cons (pv 2) pa_nil)) pa_nil)) (pe_callB (lenq K) rfl T.b_len PySem.boot_len (pa_cons (pv 1) pa_nil))) (fun _ _ => rfl)))
      (pss_cons (ps_if (PW.pt (pw_and (pt_cmpR op_gt (pe_callB (lenq K) rfl T.b_len PySem.boot_len (pa_cons (pv 4) pa_nil)) pe_int (nomark _)) (pw_and1 (pt_cmpR op_eq (pe_op op_mod (pe_callTy call_int1 rfl T.b_int (by decide +kernel) (pa_cons (pe_callR G_law_take (hr.mono (by omega)) T.g_law_take (kp T.F_law_take) passL (pa_cons (pv 2) pa_nil)) pa_nil)) pe_int) pe_int (nomark _))))) (pss_one (ps_set (i := 5) sc_law_deed.nd rfl (Or.inl rfl) (pe_ix (ixl K) (pv 4) (pe_op op_mod (pe_callTy call_int1 rfl T.b_int (by decide +kernel) (pa_cons (pe_callR G_law_take (hr.mono (by omega)) T.g_law_take (kp T.F_law_take) passL (pa_cons (pv 2) pa_nil)) pa_nil)) (pe_callB (lenq K) rfl T.b_len PySem.boot_len (pa_cons (pv 4) pa_nil))) (fun _ _ => rfl)))) pss_nil)
      (pss_cons (ps_if (pt_cmpR op_eq (pv 3) pe_int (nomark _)) (pss_one (ps_ret (pe_tup (pa_cons pe_str (pa_cons (pv 5) pa_nil))))) pss_nil)
      (pss_cons (ps_if (pt_cmpR op_eq (pv 3) pe_int (nomark _)) (pss_one (ps_ret (pe_tup (pa_cons pe_str (pa_cons (pv 5) (pa_cons (pe_ix (ixl K) (pv 1) (pe_op op_mod (pe_callTy call_int1 rfl T.b_int (by decide +kernel) (pa_cons (pe_callR G_law_take (hr.mono (by omega)) T.g_law_take (kp T.F_law_take) passL (pa_cons (pv 2) pa_nil)) pa_nil)) (pe_callB (lenq K) rfl T.b_len PySem.boot_len (pa_cons (pv 1) pa_nil))) (fun _ _ => rfl)) pa_nil)))))) pss_nil)
      (pss_cons (ps_setLc (i := 6) (own := [("_law_other", 8)]) (g := gName 8) (tt := tYes) rfl sc_law_deed.nd rfl rfl (sw_true rfl rfl rfl (by decide +kernel)) (pil K (pv 4)) (blkOk_by (N := ["_law_pairs", "_law_names_here", "_law_draws_here", "_law_kind", "_law_known", "_law_name", "_law_allowed", "_law_pair", "_law_other"]) (sc := defScope s__law_deed) (by decide +kernel)) (fun _ _ _ _ _ => (pg_name (i := 8) sc_law_deed.nd rfl (Or.inl rfl))) (fun _ _ _ _ _ => pts_nil) (fun _ _ _ _ _ => (pv 8)))
      (pss_cons (ps_if (pt_cmpR op_eq (pe_op op_mod (pe_callTy call_int1 rfl T.b_int (by decide +kernel) (pa_cons (pe_callR G_law_take (hr.mono (by omega)) T.g_law_take (kp T.F_law_take) passL (pa_cons (pv 2) pa_nil)) pa_nil)) pe_int) pe_int (nomark _)) (pss_one (ps_setLc (i := 6) (own := [("_law_other", 8)]) (g := gName 8) (tt := tYes) rfl sc_law_deed.nd rfl rfl (sw_true rfl rfl rfl (by decide +kernel)) (pil K (pv 1)) (blkOk_by (N := ["_law_pairs", "_law_names_here", "_law_draws_here", "_law_kind", "_law_known", "_law_name", "_law_allowed", "_law_pair", "_law_other"]) (sc := defScope s__law_deed) (by decide +kernel)) (fun _ _ _ _ _ => (pg_name (i := 8) sc_law_deed.nd rfl (Or.inl rfl))) (fun _ _ _ _ _ => pts_nil) (fun _ _ _ _ _ => (pv 8)))) pss_nil)
      (pss_one (ps_ret (pe_tup (pa_cons pe_str (pa_cons (pv 5) (pa_cons (pe_callR G_law_condition (hr.mono (by omega)) T.g_law_condition (kp T.F_law_condition) passL (pa_cons (pv 6) (pa_cons (pv 2) (pa_cons (pe_op op_mod (pe_callTy call_int1 rfl T.b_int (by decide +kernel) (pa_cons (pe_callR G_law_take (hr.mono (by omega)) T.g_law_take (kp T.F_law_take) passL (pa_cons (pv 2) pa_nil)) pa_nil)) pe_int) pa_nil)))) pa_nil)))))))))))))), ?_⟩
  have sub : ∀ y ∈ [d], y ∈ M := fun y hy => by rw [List.mem_singleton.mp hy]; exact dM
  have pl : ps.length ≤ 13 := Nat.le_trans G.len sb.s
  have s13 := sb.s
  have bm : b ∉ [d] := by simpa using nbd
  have sl : (S.map V.str).length = S.length := List.length_map ..
  have pick : ∀ (x : Int), ∃ y, atI (S.map V.str) (x % (((S.map V.str).length : Nat) : Int)) = some (.str y) ∧ y ∈ S := fun x =>
    at_inV (Int.emod_nonneg x (by rw [sl]; omega)) (Int.emod_lt_of_pos x (by rw [sl]; omega))
  refine ⟨_, rfl, d, ds, rfl, hd, dr, fun x1 ds1 H1 t1 e1 dr1 hx1 => .inl ⟨_, rfl, _, _, rfl, rfl, by show (0 : Int) < 8; decide, ?_⟩⟩
  have av1 := av.ta t1 (nd_of e1)
  have hps1 := hps.same (t1.mi sub)
  have hb1 := t1 _ _ bm hb
  obtain ⟨ys, b1, b2⟩ := hps1
  have ga := (mi_some b1).1
  refine ⟨_, rfl, a, rfl, ⟨_, SqL.of ga⟩, fun D nD => ?_⟩
  refine lc_list (K := K) (a := a) (xs := ys) (fun i H' => Same H1 H' ∧ H' D = some (.lst (((ps.take i).map (·.1)).map V.str)))
    ⟨same_new nD _, upd_same⟩ (fun i H' _ h => SqL.of (h.1 _ _ ga)) ?_ ?_
  · rintro i x H' hi ⟨s1, eD⟩
    obtain ⟨⟨m, c1⟩, hp, a2, v1, rfl, e1, e2⟩ := paired_get b2 hi
    refine ⟨rfl, _, rfl, a2, _, 0, _, rfl, rfl, SqT.of (s1 _ _ (mi_some e1).1), at0 _ _, _, eD, ?_, s1.put nD _, ?_⟩
    · rw [List.length_map, List.length_map, List.length_take]
      exact big_line' (by omega)
    · rw [upd_same, take_more hp, List.map_append, List.map_append]
      rfl
  rintro H2 ⟨s2, eD⟩
  rw [paired_len b2, List.take_length] at eD
  have eD : H2 D = some (.lst ((nms ps).map V.str)) := eD
  have nlen : ((nms ps).map V.str).length = ps.length := by rw [List.length_map, nms, List.length_map]
  have av2 := av1.same s2
  have e2 := s2 _ _ e1
  have hb2 := s2 _ _ hb1
  have t2 := t1.trans (s2.ta _)
  have nDd : D ∉ [d] := by
    intro h
    rw [List.mem_singleton.mp h, e1] at nD
    cases nD
  refine ⟨_, rfl, _, rfl, d, ds1, rfl, e2, dr1, fun x3 ds3 H3 t3 e3 dr3 hx3 => .inl ⟨_, rfl, _, rfl, b, _, rfl, .inl (SqL.of (t3 _ _ bm hb2)), _, _, rfl, rfl, by rw [sl]; omega, ?_⟩⟩
  obtain ⟨n, hn1, hn2⟩ := pick x3
  have hb3 := t3 _ _ bm hb2
  refine ⟨b, _, _, .str n, rfl, rfl, SqL.of hb3, hn1, ?_⟩
  have eD3 := t3 _ _ nDd eD
  have av3 := av2.ta t3 (nd_of e3)
  have t03 := t2.trans t3
  have nS : ∀ m ∈ nms ps, m ∈ S := G.sub
  rcases (show ps.length = 0 ∨ 0 < ps.length by omega) with hz | hz
  case' inl =>
    refine ⟨_, rfl, D, _, rfl, .inl (SqL.of eD3), _, _, rfl, rfl, _, rfl, ite2 (fun z => ?_) (fun _ => iteF ?_)⟩
    · have z := of_decide_eq_true z
      rw [nlen] at z
      omega
    have hn := hn2
    have e9 := e3
    have dr9 := dr3
    have t9 := t03
    have t39 := Ta.refl [d] H3
  case' inr =>
    refine ⟨_, rfl, D, _, rfl, .inl (SqL.of eD3), _, _, rfl, rfl, _, rfl, ite2 (fun _ => ?_) (fun z => absurd (decide_eq_true (by rw [nlen]; omega)) z)⟩
    refine ⟨_, rfl, d, ds3, rfl, e3, dr3, fun x5 ds5 H5 t5 e5 dr5 hx5 => .inl ⟨_, rfl, _, _, rfl, rfl, by show (0 : Int) < 2; decide, rfl, _, rfl, ?_⟩⟩
    rcases (show x5 % 2 = 1 ∨ x5 % 2 ≠ 1 by omega) with g | g
    case' inl =>
      refine ite2 (fun _ => ?_) (fun z => absurd (decide_eq_true (show V.int (x5 % 2) = V.int 1 by rw [g])) z)
      refine ⟨_, rfl, _, rfl, d, ds5, rfl, e5, dr5, fun x6 ds6 H6 t6 e6 dr6 hx6 => .inl ⟨_, rfl, _, rfl, D, _, rfl, .inl (SqL.of (t6 _ _ nDd (t5 _ _ nDd eD3))), _, _, rfl, rfl, by rw [nlen]; omega, ?_⟩⟩
      obtain ⟨n, hm1, hm2⟩ := at_inV (l := nms ps) (Int.emod_nonneg x6 (show (((nms ps).map V.str).length : Int) ≠ 0 by rw [nlen]; omega)) (Int.emod_lt_of_pos x6 (show (0 : Int) < (((nms ps).map V.str).length : Int) by rw [nlen]; omega))
      refine ⟨D, _, _, .str n, rfl, rfl, SqL.of (t6 _ _ nDd (t5 _ _ nDd eD3)), hm1, ?_⟩
      have hn := nS _ hm2
      have e9 := e6
      have dr9 := dr6
      have t9 := (t03.trans t5).trans t6
      have t39 := t5.trans t6
    case' inr =>
      refine ite2 (fun z => ?_) (fun _ => ?_)
      · have z : V.int (x5 % 2) = V.int 1 := of_decide_eq_true z
        exact absurd (V.int.inj z) g
      have hn := hn2
      have e9 := e5
      have dr9 := dr5
      have t9 := t03.trans t5
      have t39 := t5
  all_goals
    have eD9 := t39 _ _ nDd eD3
    have hb9 := t39 _ _ bm hb3
    have av9 := av3.ta t39 (nd_of e9)
    refine ⟨_, rfl, rfl, _, rfl, ite2 (fun _ => ?_) (fun _ => ?_)⟩
    · exact ⟨_, rfl, by show 2 ≤ sizeLine; decide, fun p np => q (.ref p) (.rem n) _ (t9.new np _) ⟨p, rfl, mi_new av9 np⟩ hn⟩
    refine ⟨_, rfl, rfl, _, rfl, ite2 (fun _ => ?_) (fun _ => ?_)⟩
    · refine ⟨_, rfl, _, rfl, _, rfl, d, _, rfl, e9, dr9, fun x7 ds7 H7 t7 e7 dr7 hx7 => .inl ⟨_, rfl, _, rfl, b, _, rfl, .inl (SqL.of (t7 _ _ bm hb9)), _, _, rfl, rfl, by rw [sl]; omega, ?_⟩⟩
      obtain ⟨o, ho1, ho2⟩ := pick x7
      exact ⟨b, _, _, .str o, rfl, rfl, SqL.of (t7 _ _ bm hb9), ho1, by show 3 ≤ sizeLine; decide, fun p np => q (.ref p) (.ren n o) _ ((t9.trans t7).new np _) ⟨p, rfl, mi_new (av9.ta t7 (nd_of e7)) np⟩ ⟨hn, ho2⟩⟩
    refine ⟨_, rfl, D, rfl, ⟨_, SqL.of eD9⟩, fun D2 nD2 => ?_⟩
    refine lc_list (K := K) (a := D) (xs := (nms ps).map V.str) (fun i H' => Same _ H' ∧ H' D2 = some (.lst (((nms ps).take i).map V.str)))
      ⟨same_new nD2 _, upd_same⟩ (fun i H' _ h => SqL.of (h.1 _ _ eD9)) ?_ ?_
    · rintro i x H' hi ⟨s1, eD2⟩
      obtain ⟨u, hu, rfl⟩ := str_at hi
      refine ⟨rfl, _, rfl, _, eD2, ?_, s1.put nD2 _, ?_⟩
      · rw [List.length_map, List.length_take, nms, List.length_map]
        exact big_line' (by omega)
      · rw [upd_same, take_more hu, List.map_append]
        rfl
    rintro H10 ⟨s10, eD2⟩
    rw [List.length_map, List.take_length] at eD2
    have nD2d : D2 ∉ [d] := by
      intro h
      rw [List.mem_singleton.mp h, e9] at nD2
      cases nD2
    refine ⟨_, rfl, d, _, rfl, s10 _ _ e9, dr9, fun x11 ds11 H11 t11 e11 dr11 hx11 => .inl ⟨_, rfl, _, _, rfl, rfl, by show (0 : Int) < 7; decide, rfl, _, rfl, ?_⟩⟩
    have t911 := (s10.ta [d]).trans t11
    have hb11 := t911 _ _ bm hb9
    have av11 := (av9.same s10).ta t11 (nd_of e11)
    refine ite2 (fun _ => ?_) (fun _ => ?_)
    case' refine_1 =>
      refine ⟨_, rfl, b, rfl, ⟨_, SqL.of hb11⟩, fun D3 nD3 => ?_⟩
      refine lc_list (K := K) (a := b) (xs := S.map V.str) (fun i H' => Same H11 H' ∧ H' D3 = some (.lst ((S.take i).map V.str)))
        ⟨same_new nD3 _, upd_same⟩ (fun i H' _ h => SqL.of (h.1 _ _ hb11)) ?_ ?_
      · rintro i x H' hi ⟨s1, eD3'⟩
        obtain ⟨u, hu, rfl⟩ := str_at hi
        refine ⟨rfl, _, rfl, _, eD3', ?_, s1.put nD3 _, ?_⟩
        · rw [List.length_map, List.length_take]
          exact big_line' (by omega)
        · rw [upd_same, take_more hu, List.map_append]
          rfl
      rintro H12 ⟨s12, eA⟩
      rw [List.length_map, List.take_length] at eA
      have e12 := s12 _ _ e11
      have t912 := t911.trans (s12.ta _)
      have av12 := av11.same s12
      have nA : D3 ∉ [d] := by
        intro h
        rw [List.mem_singleton.mp h, e11] at nD3
        cases nD3
      have Al := S
      have lA : S.length ≤ 1000 := by omega
    case' refine_2 =>
      have eA := t11 _ _ nD2d eD2
      have e12 := e11
      have t912 := t911
      have av12 := av11
      have nA := nD2d
      have lA : (nms ps).length ≤ 1000 := by rw [nms, List.length_map]; omega
    all_goals
      refine ⟨_, rfl, _, rfl, _, rfl, _, rfl, d, _, rfl, e12, dr11, fun x13 ds13 H13 t13 e13 dr13 hx13 => .inl ⟨_, rfl, _, _, rfl, rfl, by show (0 : Int) < 3; decide, ?_⟩⟩
      have ek : x13 % 3 = (((x13 % 3).toNat : Nat) : Int) := by omega
      have k2 : (x13 % 3).toNat ≤ 2 := by omega
      have p4 : 2 ^ (x13 % 3).toNat ≤ 4 := Nat.pow_le_pow_right (by decide) k2
      have arg : ∀ a b : V, [a, b, V.int (x13 % 3)] = [a, b, V.int (((x13 % 3).toNat : Nat) : Int)] := fun a b => by rw [← ek]
      refine ⟨M, d, _, ds13, _, (x13 % 3).toNat, arg _ _, dM, av12.ta t13 (nd_of e13), e13, dr13, by simpa using nA, t13 _ _ nA eA, lA, k2, fun v c ds14 H14 t14 e14 dr14 hc ok dd ll => ?_⟩
      exact ⟨by show 3 ≤ sizeLine; decide, fun p np => q (.ref p) (.put n c) _ ((((t9.trans t912).trans t13).trans t14).new np _) ⟨p, v, rfl, mi_new ((av12.ta t13 (nd_of e13)).ta t14 (nd_of e14)) np, hc.same (mi_upd np)⟩ ⟨hn, ok, Nat.le_trans dd k2, Nat.le_trans ll p4⟩⟩
end
end Sh
set_option Elab.async false
set_option linter.all false
set_option maxRecDepth 100000
set_option maxHeartbeats 4000000
namespace Sh
open PySem PySem.Spec PyProof.Rows L2 StX
/-! ### a chain of names -/
def An (k : Nat) : Str := ("a" : Str) ++ (toString ((0 : Int) + (k : Int)) : Str)
def nmA (m : Nat) : List Str := (List.range m).map An
def chainG (p : Str) : List Str → PsC
  | [] => []
  | y :: r => (y, .us p) :: chainG y r
def chain (c : C) : List Str → PsC
  | [] => []
  | x :: r => (x, c) :: chainG x r
def nmB (m : Nat) : List Str := (nmA m).set (m / 2) "mid"
def nameB (s : Str) : Bool := match s.cps.toList with
  | [] => false
  | c :: cs => decide (c ∈ LETT.cps.toList) && cs.all (fun x => decide (x ∈ (LETT ++ DIGI).cps.toList)) && decide (cs.length ≤ 11)
theorem nameB_ok {s : Str} (h : nameB s = true) : NameOk s := by
  unfold nameB at h
  cases e : s.cps.toList with
  | nil => rw [e] at h; cases h
  | cons c cs =>
    rw [e] at h
    dsimp only at h
    rw [Bool.and_eq_true, Bool.and_eq_true, List.all_eq_true] at h
    exact name_of e (of_decide_eq_true h.1.1) (fun x hx => of_decide_eq_true (p := x ∈ (LETT ++ DIGI).cps.toList) (h.1.2 x hx)) (of_decide_eq_true h.2)
theorem names_ok : ∀ s ∈ ("mid" : Str) :: nmA 13, NameOk s := by
  have h : ((("mid" : Str) :: nmA 13)).all nameB = true := by decide +kernel
  exact fun s hs => nameB_ok (List.all_eq_true.mp h s hs)
theorem f_put0 (p : List Int) (s : Str) : putR [] (An 0) (.sg p s) = .ok (chain (.sg p s) (nmA 1)) := by rfl
theorem f_put (p : List Int) (s : Str) : ∀ k, k < 12 → putR (chain (.sg p s) (nmA (k + 1))) (An (k + 1)) (.us (An k)) = .ok (chain (.sg p s) (nmA (k + 2)))
  | 0, _ => by rfl
  | 1, _ => by rfl
  | 2, _ => by rfl
  | 3, _ => by rfl
  | 4, _ => by rfl
  | 5, _ => by rfl
  | 6, _ => by rfl
  | 7, _ => by rfl
  | 8, _ => by rfl
  | 9, _ => by rfl
  | 10, _ => by rfl
  | 11, _ => by rfl
  | k + 12, h => absurd h (by omega)
theorem f_ren (p : List Int) (s : Str) : ∀ m, 2 ≤ m → m ≤ 13 → renR (chain (.sg p s) (nmA m)) (An (m / 2)) "mid" = .ok (chain (.sg p s) (nmB m))
  | 0, h, _ => absurd h (by decide)
  | 1, h, _ => absurd h (by decide)
  | 2, _, _ => by rfl
  | 3, _, _ => by rfl
  | 4, _, _ => by rfl
  | 5, _, _ => by rfl
  | 6, _, _ => by rfl
  | 7, _, _ => by rfl
  | 8, _, _ => by rfl
  | 9, _, _ => by rfl
  | 10, _, _ => by rfl
  | 11, _, _ => by rfl
  | 12, _, _ => by rfl
  | 13, _, _ => by rfl
  | k + 14, _, h => absurd h (by omega)
theorem f_whole (p : List Int) (s : Str) : ∀ m, 2 ≤ m → m ≤ 13 → (nmB m).map (wh (chain (.sg p s) (nmB m))) = (nmB m).map fun _ => .sg p s
  | 0, h, _ => absurd h (by decide)
  | 1, h, _ => absurd h (by decide)
  | 2, _, _ => by rfl
  | 3, _, _ => by rfl
  | 4, _, _ => by rfl
  | 5, _, _ => by rfl
  | 6, _, _ => by rfl
  | 7, _, _ => by rfl
  | 8, _, _ => by rfl
  | 9, _, _ => by rfl
  | 10, _, _ => by rfl
  | 11, _, _ => by rfl
  | 12, _, _ => by rfl
  | 13, _, _ => by rfl
  | k + 14, _, h => absurd h (by omega)
theorem f_circ (p : List Int) (s : Str) : ∀ m, 2 ≤ m → m ≤ 13 → putR (chain (.sg p s) (nmB m)) ((nmB m).getD 0 "") (.nt (.us ((nmB m).getD (m - 1) ""))) = .error .circ
  | 0, h, _ => absurd h (by decide)
  | 1, h, _ => absurd h (by decide)
  | 2, _, _ => by rfl
  | 3, _, _ => by rfl
  | 4, _, _ => by rfl
  | 5, _, _ => by rfl
  | 6, _, _ => by rfl
  | 7, _, _ => by rfl
  | 8, _, _ => by rfl
  | 9, _, _ => by rfl
  | 10, _, _ => by rfl
  | 11, _, _ => by rfl
  | 12, _, _ => by rfl
  | 13, _, _ => by rfl
  | k + 14, _, h => absurd h (by omega)
theorem f_users (p : List Int) (s : Str) : ∀ m, 2 ≤ m → m ≤ 13 → usersOf (chain (.sg p s) (nmB m)) ((nmB m).getD 0 "") = ((nmB m).drop 1).take 1
  | 0, h, _ => absurd h (by decide)
  | 1, h, _ => absurd h (by decide)
  | 2, _, _ => by rfl
  | 3, _, _ => by rfl
  | 4, _, _ => by rfl
  | 5, _, _ => by rfl
  | 6, _, _ => by rfl
  | 7, _, _ => by rfl
  | 8, _, _ => by rfl
  | 9, _, _ => by rfl
  | 10, _, _ => by rfl
  | 11, _, _ => by rfl
  | 12, _, _ => by rfl
  | 13, _, _ => by rfl
  | k + 14, _, h => absurd h (by omega)
theorem f_put2 (p : List Int) (s : Str) : ∀ m, 2 ≤ m → m ≤ 13 → putR (chain (.sg p s) (nmB m)) ((nmB m).getD 0 "") (.nt (.sg p s)) = .ok (chain (.nt (.sg p s)) (nmB m))
  | 0, h, _ => absurd h (by decide)
  | 1, h, _ => absurd h (by decide)
  | 2, _, _ => by rfl
  | 3, _, _ => by rfl
  | 4, _, _ => by rfl
  | 5, _, _ => by rfl
  | 6, _, _ => by rfl
  | 7, _, _ => by rfl
  | 8, _, _ => by rfl
  | 9, _, _ => by rfl
  | 10, _, _ => by rfl
  | 11, _, _ => by rfl
  | 12, _, _ => by rfl
  | 13, _, _ => by rfl
  | k + 14, _, h => absurd h (by omega)
theorem f_whole2 (p : List Int) (s : Str) : ∀ m, 2 ≤ m → m ≤ 13 → (nmB m).map (wh (chain (.nt (.sg p s)) (nmB m))) = (nmB m).map fun _ => .nt (.sg p s)
  | 0, h, _ => absurd h (by decide)
  | 1, h, _ => absurd h (by decide)
  | 2, _, _ => by rfl
  | 3, _, _ => by rfl
  | 4, _, _ => by rfl
  | 5, _, _ => by rfl
  | 6, _, _ => by rfl
  | 7, _, _ => by rfl
  | 8, _, _ => by rfl
  | 9, _, _ => by rfl
  | 10, _, _ => by rfl
  | 11, _, _ => by rfl
  | 12, _, _ => by rfl
  | 13, _, _ => by rfl
  | k + 14, _, h => absurd h (by omega)
end Sh
set_option Elab.async false
set_option linter.all false
set_option maxRecDepth 100000
set_option maxHeartbeats 4000000
namespace Sh
open PySem PySem.Spec PyProof.Rows L2 StX
/-! ### the law's own list of names may change: no sheet holds it -/
/-- not a list of texts (of one at least) -/
def NotS (o : HO) : Prop := ∀ (n : Str) (ns : List V), o ≠ .lst (.str n :: ns)
def MapN (H H' : Hp) : Prop := ∀ b o, H b = some o → NotS o → H' b = some o
theorem notS_tup (xs : List V) : NotS (.tup xs) := fun _ _ e => by cases e
theorem notS_ins (C dx : Addr) (fs : List (Str × V)) : NotS (.ins C dx fs) := fun _ _ e => by cases e
theorem notS_ref (a : Addr) (xs : List V) : NotS (.lst (.ref a :: xs)) := fun _ _ e => by cases e
theorem notS_ints (p : List Int) : NotS (.lst (p.map V.int)) := fun _ _ e => by cases p <;> cases e
theorem notS_nil : NotS (.lst []) := fun _ _ e => by cases e
theorem IsC.mapN {H H' : Hp} (k : MapN H H') : ∀ {c : C} {v : V}, IsC H v c → IsC H' v c
  | .sg p s, v, ⟨a, l, e, h1, h2⟩ => ⟨a, l, e, k _ _ h1 (notS_tup _), k _ _ h2 (notS_ints _)⟩
  | .sm p q s, v, ⟨a, r, t, cs, pl, ql, e, h1, h2, h3, h4, h5, h6⟩ => ⟨a, r, t, cs, pl, ql, e, k _ _ h1 (notS_tup _), k _ _ h2 (notS_ref _ _), k _ _ h3 (notS_tup _), k _ _ h4 (notS_ref _ _), k _ _ h5 (notS_ints _), k _ _ h6 (notS_ints _)⟩
  | .us n, v, ⟨a, e, h1⟩ => ⟨a, e, k _ _ h1 (notS_tup _)⟩
  | .nt c, v, ⟨a, x, e, h1, h2⟩ => ⟨a, x, e, k _ _ h1 (notS_tup _), IsC.mapN k h2⟩
  | .bn o c d, v, ⟨a, x, y, e, h1, h2, h3⟩ => ⟨a, x, y, e, k _ _ h1 (notS_tup _), IsC.mapN k h2, IsC.mapN k h3⟩
theorem IsPs.mapN {H H' : Hp} (k : MapN H H') {a : Addr} {ps : PsC} : IsPs H a ps → IsPs H' a ps := by
  rintro ⟨xs, h1, h2⟩
  refine ⟨xs, k _ _ h1 ?_, L2.Paired.mapP h2 fun _ _ ⟨a, v, e, g1, g2⟩ => ⟨a, v, e, k _ _ g1 (notS_tup _), g2.mapN k⟩⟩
  cases h2 with
  | nil => exact notS_nil
  | cons h _ =>
    obtain ⟨a, v, e, _⟩ := h
    rw [e]
    exact notS_ref _ _
theorem mapN_upd {H : Hp} {l : Addr} {n : Str} {ns : List V} {o : HO} (h : H l = some (.lst (.str n :: ns))) : MapN H (upd H l o) := fun b u e nn => by
  by_cases z : b = l
  · subst z
    rw [h] at e
    cases e
    exact absurd rfl (nn n ns)
  · rw [upd_ne z]
    exact e
theorem SheetAt.names_set {K : PySem.W.Frag} {H : Hp} {p : Addr} {ps : PsC} {N : Nat} (sh : SheetAt K H p ps N) {l : Addr} {ss : List Str} {zs : List V} (h : H l = some (.lst (ss.map V.str))) (h0 : ss ≠ []) (hz : zs.length = ss.length) : SheetAt K (upd H l (.lst zs)) p ps N := by
  obtain ⟨dx, st, en, xs, k, a, es, h1, h2, h3, h4, h5, h6, h7, h8⟩ := sh
  have m : MapN H (upd H l (.lst zs)) := by
    cases ss with
    | nil => exact absurd rfl h0
    | cons n ns => exact mapN_upd (n := n) (ns := ns.map V.str) h
  have lp : l ≠ p := fun e => by rw [e, h1] at h; cases h
  have m2 : MapN (mi [p] H) (mi [p] (upd H l (.lst zs))) := fun b u e nn => by
    obtain ⟨e1, e2⟩ := mi_some e
    rw [mi_in e2]
    exact m b u e1 nn
  have st' : upd H l (.lst zs) st = some (.lst xs) := by
    by_cases z : st = l
    · subst z
      rw [h] at h2
      have e : ss.map V.str = xs := by cases h2; rfl
      rw [← e] at h4
      obtain ⟨u, _, e4⟩ := str_at h4
      cases e4
    · rw [upd_ne z]; exact h2
  obtain ⟨es', e1, e2⟩ : ∃ es', upd H l (.lst zs) en = some (.lst es') ∧ es'.length = k := by
    by_cases z : en = l
    · subst z
      rw [h] at h6
      have e : ss.map V.str = es := by cases h6; rfl
      refine ⟨zs, upd_same, ?_⟩
      rw [hz, ← h7, ← e, List.length_map]
    · exact ⟨es, by rw [upd_ne z]; exact h6, h7⟩
  exact ⟨dx, st, en, xs, k, a, es', by rw [upd_ne lp.symm]; exact h1, st', h3, h4, h5.mapN m2, e1, e2, h8⟩
section
variable {P : Program} {w : World} {K : PySem.W.Frag} {mg : Str → Option Value} {base : Heap}
theorem chain_nms (c : C) (L : List Str) : nms (chain c L) = L := by
  have aux : ∀ (r : List Str) (p : Str), nms (chainG p r) = r := by
    intro r
    induction r with
    | nil => intro _; rfl
    | cons y r ih => intro p; show y :: nms (chainG y r) = y :: r; rw [ih]
  cases L with
  | nil => rfl
  | cons x r => show x :: nms (chainG x r) = x :: r; rw [aux]
theorem Good.subS {S S' : List Str} {B : Nat} {ps : PsC} (G : Good okL S B ps) (h : ∀ n ∈ nms ps, n ∈ S') : Good okL S' B ps := ⟨G.nd, h, G.cnd, G.rk⟩
theorem sb1 {S : List Str} (h : S.length ≤ 13) : SB S 1 := ⟨h, Nat.le_refl _, by decide, by rw [Nat.one_pow]; decide⟩
theorem sg_upd {H : Hp} {v : V} {i : Int} {p : List Int} {s : Str} {D : Addr} {zs : List V} {o : HO} (h : IsC H v (.sg (i :: p) s)) (hD : H D = some (.lst zs)) (hz : ∀ z ∈ zs, ∃ a, z = .ref a) : IsC (upd H D o) v (.sg (i :: p) s) := by
  obtain ⟨a, l, e, h1, h2⟩ := h
  have d1 : a ≠ D := fun e => by rw [e, hD] at h1; cases h1
  have d2 : l ≠ D := fun e => by
    rw [e, hD] at h2
    have e2 : zs = .int i :: p.map V.int := by cases h2; rfl
    obtain ⟨b, e3⟩ := hz (.int i) (by rw [e2]; exact List.mem_cons_self)
    cases e3
  exact ⟨a, l, e, by rw [upd_ne d1]; exact h1, by rw [upd_ne d2]; exact h2⟩
theorem paired_to {α β γ : Type} {F : α → β → Prop} {R : α → γ → Prop} (g : β → γ) (h : ∀ a b, F a b → R a (g b)) : ∀ {xs : List α} {ys : List β}, Paired F xs ys → Paired R xs (ys.map g)
  | _, _, .nil => .nil
  | _, _, .cons r t => .cons (h _ _ r) (paired_to g h t)
theorem paired_mem {α β : Type} {F : α → β → Prop} : ∀ {xs : List α} {ys : List β}, Paired F xs ys → ∀ x ∈ xs, ∃ y, F x y
  | _, _, .nil, _, h => by cases h
  | _, _, .cons r t, x, h => by
    rcases List.mem_cons.mp h with rfl | h
    · exact ⟨_, r⟩
    · exact paired_mem t x h
theorem cut12 {xs : List V} (h : 2 ≤ xs.length) : cutV xs (some 1) (some 2) = (xs.drop 1).take 1 := by
  have e1 : HT.sIx xs.length 0 (some ((1 : Nat) : Int)) = min 1 xs.length := HT.sIx_nat _ _ 1
  have e2 : HT.sIx xs.length xs.length (some ((2 : Nat) : Int)) = min 2 xs.length := HT.sIx_nat _ _ 2
  unfold cutV
  show (xs.drop (HT.sIx xs.length 0 (some ((1 : Nat) : Int)))).take (HT.sIx xs.length xs.length (some ((2 : Nat) : Int)) - HT.sIx xs.length 0 (some ((1 : Nat) : Int))) = _
  rw [e1, e2, Nat.min_eq_left h, Nat.min_eq_left (by omega)]
theorem nmA_len (m : Nat) : (nmA m).length = m := by rw [nmA, List.length_map, List.length_range]
theorem nmB_len (m : Nat) : (nmB m).length = m := by rw [nmB, List.length_set, nmA_len]
theorem nmA_at {m k : Nat} (h : k < m) : (nmA m)[k]? = some (An k) := by rw [nmA, List.getElem?_map, List.getElem?_range h]; rfl
theorem atS {l : List Str} {k : Nat} {x : Str} (h : l[k]? = some x) {i : Int} (hi : i = (k : Int)) : atI (l.map V.str) i = some (.str x) := by
  rw [hi]
  exact atI_nat (by rw [List.getElem?_map, h]; rfl)
theorem nmA_ok {m : Nat} (h : m ≤ 13) : ∀ s ∈ nmA m, NameOk s := fun s hs => by
  obtain ⟨k, hk, rfl⟩ := List.mem_map.mp hs
  exact names_ok _ (List.mem_cons_of_mem _ (List.mem_map.mpr ⟨k, List.mem_range.mpr (by have := List.mem_range.mp hk; omega), rfl⟩))
theorem nmB_ok {m : Nat} (h : m ≤ 13) : ∀ s ∈ nmB m, NameOk s := fun s hs => by
  rcases List.mem_or_eq_of_mem_set hs with h1 | h1
  · exact nmA_ok h s h1
  · rw [h1]; exact names_ok _ List.mem_cons_self
/-! ### _law_long -/
def spLong : Sp := fun vs H Q _ => ∃ m : Nat, vs = [.int (m : Int)] ∧ 2 ≤ m ∧ m ≤ 13 ∧ ∀ H', Same H H' → Q (.bl true) H'
theorem sc_law_long : FnScope ["_law_many", "_law_names_here", "_law_atom_here", "_law_sheet", "_law_k", "_law_name"] ["_law_many"] (defScope s__law_long) := ⟨rfl, rfl, rfl, by decide +kernel, rfl, by decide +kernel, by decide +kernel⟩
theorem ok_long (T : Txt w K mg) (U : Aux P K) (U2 : Aux2 K) : Fn P w K mg base 38 (He.ga K "_law_long") spLong := by
  have G_m_init : Fn P w K mg base 1 (He.ma K (SC K) "__init__") (spInit (K := K)) := ok_init T
  have G_m_put := ok_put (base := base) T U
  have G_m_rename := ok_rename (base := base) T U
  have G_m_names := ok_names (base := base) (P := P) T
  have G_m_whole := ok_whole (base := base) T U
  have G_m_users := ok_users (base := base) T U
  have G_law_same : Fn P w K mg base 35 (He.ga K "_law_same") (spSame 34) := ok_lsame T 34
  have G_law_do := ok_do (base := base) T U U2
  refine mkN T.F_law_long sc_law_long (fun vs H Q E h => ?_) (fun _ _ _ _ _ _ us hl => match us, hl with | [_], _ => rfl) (fun cdv A outer s H vs Q E hr h => ?_)
  · obtain ⟨m, rfl, _⟩ := h
    rfl
  obtain ⟨m, rfl, m2, m13, q⟩ := h
  refine ⟨_, (pss_cons (ps_setLc (i := 1) (own := [("_law_k", 4)]) (g := gName 4) (tt := tYes) rfl sc_law_long.nd rfl rfl (sw_true rfl rfl rfl (by decide +kernel)) (pi_range1 rfl T.b_range (pa_cons (pv 0) pa_nil)) (blkOk_by (N := ["_law_many", "_law_names_here", "_law_atom_here", "_law_sheet", "_law_k", "_law_name"]) (sc := defScope s__law_long) (by decide +kernel)) (fun _ _ _ _ _ => (pg_name (i := 4) sc_law_long.nd rfl (Or.inl rfl))) (fun _ _ _ _ _ => pts_nil) (fun _ _ _ _ _ => (pe_op op_add_str pe_str (pe_callTy call_str_int rfl T.b_str (by decide +kernel) (pa_cons (pv 4) pa_nil)))))
      (pss_cons (ps_set (i := 2) sc_law_long.nd rfl (Or.inr rfl) (pe_tup (pa_cons pe_str (pa_cons (pe_lst (pa_cons (pv 0) (pa_cons pe_int pa_nil))) (pa_cons pe_str pa_nil)))))
      (pss_cons (ps_set (i := 3) sc_law_long.nd rfl (Or.inr rfl) (pe_makeR0 T.k_Sheet G_m_init (hr.mono (by omega)) T.g_Sheet passL))
      (pss_cons (ps_expr (pe_methR (pv 3) T.c_Sheet T.M_put G_m_put (hr.mono (by omega)) passL (pa_cons (pe_ix (ixl K) (pv 1) pe_int (fun _ _ => rfl)) (pa_cons (pv 2) pa_nil))))
      (pss_cons (ps_for PassesOwn.never rfl (pi_range2 rfl T.b_range (pa_cons pe_int (pa_cons (pv 0) pa_nil))) (pg_name (i := 4) sc_law_long.nd rfl (Or.inl rfl)) (pss_one (ps_expr (pe_methR (pv 3) T.c_Sheet T.M_put G_m_put (hr.mono (by omega)) passL (pa_cons (pe_ix (ixl K) (pv 1) (pv 4) (fun _ _ => rfl)) (pa_cons (pe_tup (pa_cons pe_str (pa_cons (pe_ix (ixl K) (pv 1) (pe_op op_sub (pv 4) pe_int) (fun _ _ => rfl)) pa_nil))) pa_nil))))))
      (pss_cons (ps_expr (pe_methR (pv 3) T.c_Sheet T.M_rename G_m_rename (hr.mono (by omega)) passL (pa_cons (pe_ix (ixl K) (pv 1) (pe_op op_fdiv (pv 0) pe_int) (fun _ _ => rfl)) (pa_cons pe_str pa_nil))))
      (pss_cons (ps_asg pe_str (pg_sub (pv 1) (pe_op op_fdiv (pv 0) pe_int) set_list))
      (pss_cons (ps_if (PW.pt (pw_or (pt_cmpR (op_neD hr.units) (pe_methR0 (pv 3) T.c_Sheet T.M_names G_m_names (hr.mono (by omega)) passL) (pv 1) (nomark _)) (pw_or1 (pt_not (pt_val (pe_callR G_law_same (hr.mono (by omega)) T.g_law_same (kp T.F_law_same) passL (pa_cons (pe_lc (own := [("_law_name", 5)]) (g := gName 5) (tt := tYes) rfl sc_law_long.nd (pil K (pv 1)) (blkOk_by (N := ["_law_many", "_law_names_here", "_law_atom_here", "_law_sheet", "_law_k", "_law_name"]) (sc := defScope s__law_long) (by decide +kernel)) (fun _ _ _ _ _ => (pg_name (i := 5) sc_law_long.nd rfl (Or.inl rfl))) (fun _ _ _ _ _ => pts_nil) (fun _ _ _ _ _ => (pe_methR (pv 3) T.c_Sheet T.M_whole G_m_whole (hr.mono (by omega)) passL (pa_cons (pv 5) pa_nil)))) (pa_cons (pe_lc (own := [("_law_name", 5)]) (g := gName 5) (tt := tYes) rfl sc_law_long.nd (pil K (pv 1)) (blkOk_by (N := ["_law_many", "_law_names_here", "_law_atom_here", "_law_sheet", "_law_k", "_law_name"]) (sc := defScope s__law_long) (by decide +kernel)) (fun _ _ _ _ _ => (pg_name (i := 5) sc_law_long.nd rfl (Or.inl rfl))) (fun _ _ _ _ _ => pts_nil) (fun _ _ _ _ _ => (pv 2))) pa_nil)))))))) (pss_one (ps_ret pe_bl)) pss_nil)
      (pss_cons (ps_if (PW.pt (pw_or (pt_cmpR op_ne (pe_callR G_law_do (hr.mono (by omega)) T.g_law_do (kp T.F_law_do) passL (pa_cons (pv 3) (pa_cons (pe_tup (pa_cons pe_str (pa_cons (pe_ix (ixl K) (pv 1) pe_int (fun _ _ => rfl)) (pa_cons (pe_tup (pa_cons pe_str (pa_cons (pe_tup (pa_cons pe_str (pa_cons (pe_ix (ixl K) (pv 1) (pe_op op_sub (pv 0) pe_int) (fun _ _ => rfl)) pa_nil))) pa_nil))) pa_nil)))) pa_nil))) pe_str (nomark _)) (pw_or1 (pt_cmpR (op_neD hr.units) (pe_methR (pv 3) T.c_Sheet T.M_users G_m_users (hr.mono (by omega)) passL (pa_cons (pe_ix (ixl K) (pv 1) pe_int (fun _ _ => rfl)) pa_nil)) (pe_slice (sll K) (pv 1) (po_some pe_int) (po_some pe_int)) (nomark _))))) (pss_one (ps_ret pe_bl)) pss_nil)
      (pss_cons (ps_expr (pe_methR (pv 3) T.c_Sheet T.M_put G_m_put (hr.mono (by omega)) passL (pa_cons (pe_ix (ixl K) (pv 1) pe_int (fun _ _ => rfl)) (pa_cons (pe_tup (pa_cons pe_str (pa_cons (pv 2) pa_nil))) pa_nil))))
      (pss_one (ps_ret (pe_callB (allq K rfl) rfl T.b_all (by decide +kernel) (pa_cons (pe_lc (own := [("_law_name", 5)]) (g := gName 5) (tt := tYes) rfl sc_law_long.nd (pil K (pv 1)) (blkOk_by (N := ["_law_many", "_law_names_here", "_law_atom_here", "_law_sheet", "_law_k", "_law_name"]) (sc := defScope s__law_long) (by decide +kernel)) (fun _ _ _ _ _ => (pg_name (i := 5) sc_law_long.nd rfl (Or.inl rfl))) (fun _ _ _ _ _ => pts_nil) (fun _ _ _ _ _ => (pe_callR G_law_same (hr.mono (by omega)) T.g_law_same (kp T.F_law_same) passL (pa_cons (pe_methR (pv 3) T.c_Sheet T.M_whole G_m_whole (hr.mono (by omega)) passL (pa_cons (pv 5) pa_nil)) (pa_cons (pe_tup (pa_cons pe_str (pa_cons (pv 2) pa_nil))) pa_nil))))) pa_nil)))))))))))))), ?_⟩
  refine ⟨_, rfl, (m : Int), rfl, by omega, by omega, fun ln nln => ?_⟩
  refine lc_range (n := (m : Int).toNat) (fun i H' => Same H H' ∧ H' ln = some (.lst ((nmA i).map V.str))) ⟨same_new nln _, upd_same⟩ ?_ ?_
  · rintro i H' hi ⟨s1, e1⟩
    refine ⟨rfl, ?_⟩
    have i13 : i < 13 := by omega
    have nk : NameOk (An i) := nmA_ok (Nat.le_refl 13) _ (List.mem_map.mpr ⟨i, List.mem_range.mpr i13, rfl⟩)
    have sz : ("a" : Str).length + (toString ((0 : Int) + (i : Int)) : Str).length ≤ 12 := by
      have := nk.le
      unfold An at this
      rw [Str.cps_append, Array.size_append] at this
      exact this
    refine ⟨_, rfl, _, rfl, ?_, _, _, rfl, rfl, big_line (by omega), _, e1, ?_, s1.put nln _, ?_⟩
    · exact Nat.lt_of_le_of_lt (Nat.log2_le_self _) (by omega)
    · rw [List.length_map, nmA_len]
      exact big_line' (by omega)
    · rw [upd_same]
      have e : nmA (i + 1) = nmA i ++ [An i] := by rw [nmA, List.range_succ, List.map_append]; rfl
      rw [e, List.map_append]
      rfl
  rintro H1 ⟨s1, e1⟩
  have em : (m : Int).toNat = m := by omega
  rw [em] at e1
  -- the atom
  refine ⟨_, rfl, by show 2 ≤ sizeLine; decide, fun la nla => ?_⟩
  have s2a : Same H1 (upd H1 la (.lst [.int m, .int 1])) := same_new nla _
  refine ⟨by show 3 ≤ sizeLine; decide, fun ta nta => ?_⟩
  have s2 : Same H1 (upd (upd H1 la (.lst [.int m, .int 1])) ta (.tup [.str "sign", .ref la, .str "<"])) := s2a.new nta _
  have hat : IsC (upd (upd H1 la (.lst [.int m, .int 1])) ta (.tup [.str "sign", .ref la, .str "<"])) (.ref ta) (.sg [m, 1] "<") := ⟨ta, la, rfl, upd_same, (same_new nta _) _ _ upd_same⟩
  have e2 := s2 _ _ e1
  generalize upd (upd H1 la (.lst [.int m, .int 1])) ta (.tup [.str "sign", .ref la, .str "<"]) = H2 at s2 hat e2
  have s02 := s1.trans s2
  have okat : okL (.sg [(m : Int), 1] "<") := ⟨poly2 (by decide) (by omega) (by omega) (by decide) (by decide) (by decide), .head _⟩
  have cat : COk okL 1 (.sg [(m : Int), 1] "<") := ⟨fun l hl => by rw [List.mem_singleton.mp hl]; exact okat, Nat.zero_le _, Nat.le_refl _⟩
  have sbA : SB (nmA m) 1 := sb1 (by rw [nmA_len]; exact m13)
  -- the sheet
  intro p dx np ndx ndp
  refine ⟨p, dx, rfl, upd_same, fun H3 t3 sh3 => ⟨rfl, ?_⟩⟩
  have s23 : Same H2 (mi [p] H3) := fun b o h => by
    have b1 : b ≠ p := ne_of_none h np
    have b2 : b ≠ dx := ne_of_none h ndx
    rw [mi_in (by simpa using b1)]
    exact t3 _ _ (by simpa using b1) (by rw [upd_ne b1, upd_ne b2]; exact h)
  have hat3 := hat.same s23
  have e3 := (mi_some (s23 _ _ e2)).1
  have s03 : Same H (mi [p] H3) := s02.trans s23
  have lnp : ln ∉ [p] := (mi_some (s23 _ _ e2)).2
  obtain ⟨dx3, st3, en3, xs3, k3, a3, es3, g3, _⟩ := id sh3
  refine ⟨_, rfl, p, dx3, _, rfl, g3, rfl, _, rfl, ln, _, 0, _, rfl, rfl, SqL.of e3, atS (nmA_at (k := 0) (by omega)) rfl, _, rfl, ?_⟩
  refine ⟨p, [], 0, An 0, .ref ta, .sg [m, 1] "<", nmA m, 1, rfl, sh3, by decide, Good.nil, sbA, List.mem_of_getElem? (nmA_at (k := 0) (by omega)), nmA_ok m13 _ (List.mem_of_getElem? (nmA_at (k := 0) (by omega))), hat3, cat, ?_⟩
  have p0 := f_put0 [(m : Int), 1] "<"
  unfold Res
  rw [p0]
  intro H4 t4 sh4
  have G1 : Good okL (nmA m) 1 (chain (.sg [(m : Int), 1] "<") (nmA 1)) := Good.put Good.nil (by rw [nmA_len]; omega) (List.mem_of_getElem? (nmA_at (k := 0) (by omega))) cat p0
  -- the chain
  refine ⟨_, rfl, (1 : Int), (m : Int), rfl, ⟨by decide, by decide, by omega, by omega⟩, for_range (lo := 1) (n := ((m : Int) - 1).toNat) (fun i σ H' => ∃ z, σ = [some (.int m), some (.ref ln), some (.ref ta), some (.ref p), z, none] ∧ Ta [p] H3 H' ∧ SheetAt K H' p (chain (.sg [(m : Int), 1] "<") (nmA (i + 1))) (i + 1) ∧ Good okL (nmA m) 1 (chain (.sg [(m : Int), 1] "<") (nmA (i + 1))))
    ⟨none, rfl, t4, sh4, G1⟩ ?_ ?_⟩
  · rintro i σ H' hi ⟨z, rfl, t5, sh5, G5⟩
    have e5 := t5 _ _ lnp e3
    obtain ⟨dx5, st5, en5, xs5, k5, a5, es5, g5, _⟩ := id sh5
    refine ⟨_, rfl, p, dx5, _, rfl, g5, rfl, _, rfl, _, rfl, ln, _, _, _, rfl, rfl, SqL.of e5, atS (nmA_at (k := i + 1) (by omega)) (by omega), ?_⟩
    refine ⟨_, rfl, _, rfl, _, _, rfl, rfl, ln, _, _, _, rfl, rfl, SqL.of e5, atS (nmA_at (k := i) (by omega)) (by omega), by show 2 ≤ sizeLine; decide, fun t nt => ?_⟩
    have s6 := same_new nt (.tup [.str "use", .str (An i)])
    have cus : COk okL 1 (.us (An i)) := ⟨fun l hl => by rw [List.mem_singleton.mp hl]; exact True.intro, Nat.zero_le _, Nat.le_refl _⟩
    refine ⟨p, _, i + 1, An (i + 1), .ref t, .us (An i), nmA m, 1, rfl, sh5.same s6, by omega, G5, sbA, List.mem_of_getElem? (nmA_at (k := i + 1) (by omega)), nmA_ok m13 _ (List.mem_of_getElem? (nmA_at (k := i + 1) (by omega))), ⟨t, rfl, mi_new sh5.av nt⟩, cus, ?_⟩
    have pk := f_put [(m : Int), 1] "<" i (by omega)
    unfold Res
    rw [pk]
    intro H7 t7 sh7
    exact ⟨_, rfl, (t5.trans (s6.ta _)).trans t7, sh7, G5.put (by rw [nmA_len]; omega) (List.mem_of_getElem? (nmA_at (k := i + 1) (by omega))) cus pk⟩
  rintro σ H5 ⟨z, rfl, t5, sh5, G5⟩
  have ei : ((m : Int) - 1).toNat + 1 = m := by omega
  rw [ei] at sh5 G5
  have e5 := t5 _ _ lnp e3
  obtain ⟨dx5, st5, en5, xs5, k5, a5, es5, g5, _⟩ := id sh5
  -- renaming
  refine ⟨_, rfl, p, dx5, _, rfl, g5, rfl, _, rfl, _, rfl, _, _, rfl, rfl, ⟨by decide, by decide⟩, ln, _, _, _, rfl, rfl, SqL.of e5, atS (nmA_at (k := m / 2) (by omega)) (by omega), ?_⟩
  refine ⟨p, _, m, An (m / 2), "mid", nmA m, 1, rfl, sh5, by omega, G5, sbA, names_ok _ List.mem_cons_self, ?_⟩
  have pr := f_ren [(m : Int), 1] "<" m m2 m13
  unfold Res
  rw [pr]
  intro H6 t6 sh6
  have G6 : Good okL (nmB m) 1 (chain (.sg [(m : Int), 1] "<") (nmB m)) := by
    have g : Good okL ("mid" :: nmA m) 1 (chain (.sg [(m : Int), 1] "<") (nmA m)) := G5.subS fun n hn => List.mem_cons_of_mem _ (G5.sub n hn)
    exact (g.ren (fun _ => True.intro) List.mem_cons_self pr).subS fun n hn => by rw [chain_nms] at hn; exact hn
  have sbB : SB (nmB m) 1 := sb1 (by rw [nmB_len]; exact m13)
  have e6 := t6 _ _ lnp e5
  have s36 : Same (mi [p] H3) (mi [p] H6) := (t5.trans t6).mi fun _ h => h
  refine ⟨_, rfl, _, rfl, _, _, rfl, rfl, ⟨by decide, by decide⟩, ln, _, _, m / 2, rfl, rfl, e6, ?_, ?_⟩
  · unfold ixN
    rw [List.length_map, nmA_len, if_pos (by omega), if_pos (by omega)]
    congr 1
  have es : ((nmA m).map V.str).set (m / 2) (.str "mid") = (nmB m).map V.str := by rw [nmB, List.map_set]
  rw [es]
  have An0 : nmA m ≠ [] := fun h => by have := nmA_len m; rw [h] at this; simp at this; omega
  have sh7 := sh6.names_set (zs := (nmB m).map V.str) e6 An0 (by rw [List.length_map, nmB_len, nmA_len])
  have mp : MapN H6 (upd H6 ln (.lst ((nmB m).map V.str))) := by
    cases hA : nmA m with
    | nil => exact absurd hA An0
    | cons x r =>
      rw [hA] at e6
      exact mapN_upd (n := x) (ns := r.map V.str) e6
  have hat7 : IsC (mi [p] (upd H6 ln (.lst ((nmB m).map V.str)))) (.ref ta) (.sg [(m : Int), 1] "<") := by
    refine IsC.mapN (fun b u e nn => ?_) (hat3.same s36)
    obtain ⟨f1, f2⟩ := mi_some e
    rw [mi_in f2]
    exact mp b u f1 nn
  have s07 : Same H (mi [p] (upd H6 ln (.lst ((nmB m).map V.str)))) := fun b u h => by
    have f := (s03.trans s36) _ _ h
    obtain ⟨f1, f2⟩ := mi_some f
    rw [mi_in f2, upd_ne (ne_of_none h nln)]
    exact f1
  have e7 : upd H6 ln (.lst ((nmB m).map V.str)) ln = some (.lst ((nmB m).map V.str)) := upd_same
  generalize upd H6 ln (.lst ((nmB m).map V.str)) = H7 at sh7 hat7 s07 e7
  have lay : ∀ s ∈ nmB m, PyData.strOk s = true := fun s hs => nameOk_lay (nmB_ok m13 s hs)
  have sd := shaped_strs lay
  have clen : (chain (.sg [(m : Int), 1] "<") (nmB m)).length = m := by
    have := congrArg List.length (chain_nms (.sg [(m : Int), 1] "<") (nmB m))
    rw [nms, List.length_map, nmB_len] at this
    exact this
  have hdB : (nmB m)[0]? = some ((nmB m).getD 0 "") := by rw [List.getD_eq_getElem?_getD, List.getElem?_eq_getElem (by rw [nmB_len]; omega)]; rfl
  have laB : (nmB m)[m - 1]? = some ((nmB m).getD (m - 1) "") := by rw [List.getD_eq_getElem?_getD, List.getElem?_eq_getElem (by rw [nmB_len]; omega)]; rfl
  have hd0 := List.mem_of_getElem? hdB
  obtain ⟨r, rt⟩ := rt_of G6 sbB
  have inB : ∀ x ∈ nmB m, ∃ c, cin (chain (.sg [(m : Int), 1] "<") (nmB m)) x = some c := fun x hx => cin_some.mp (by rw [chain_nms]; exact hx)
  have whB : ∀ x ∈ nmB m, wh (chain (.sg [(m : Int), 1] "<") (nmB m)) x = .sg [(m : Int), 1] "<" := fun x hx => by
    have h := f_whole [(m : Int), 1] "<" m m2 m13
    exact (List.map_inj_left.mp h) x hx
  obtain ⟨dx7, st7, en7, xs7, k7, a7, es7, g7, _⟩ := id sh7
  -- names
  refine ⟨_, rfl, p, dx7, _, rfl, g7, rfl, p, _, m + 1, rfl, sh7, by rw [clen]; omega, fun l8 H8 s8 n8 e8 => ?_⟩
  rw [chain_nms] at e8
  refine ⟨_, rfl, _, _, .lst (SqL.of e8) (dp_strs _), .lst (SqL.of (s8 _ _ e7)) (dp_strs _), sd, sd, _, rfl, ?_⟩
  rw [eqv_self sd]
  refine iteF ?_
  -- all wholes
  have eN8 := s8 _ _ e7
  refine ⟨_, rfl, ln, rfl, ⟨_, SqL.of eN8⟩, fun D nD => ?_⟩
  refine lc_list (K := K) (a := ln) (xs := (nmB m).map V.str) (fun i H' => Same H8 H' ∧ ∃ ws, H' D = some (.lst ws) ∧ Paired (fun x (_ : Str) => IsC H' x (.sg [(m : Int), 1] "<") ∧ ∃ a, x = .ref a) ws ((nmB m).take i))
    ⟨same_new nD _, [], upd_same, .nil⟩ (fun i H' _ h => SqL.of (h.1 _ _ eN8)) ?_ ?_
  · rintro i x H' hi ⟨s9, ws, eD, pr9⟩
    obtain ⟨u, hu, rfl⟩ := str_at hi
    have s79 := s8.trans s9
    have sh9 := sh7.same s79
    obtain ⟨dx9, st9, en9, xs9, k9, a9, es9, g9, _⟩ := id sh9
    have hu' := List.mem_of_getElem? hu
    refine ⟨rfl, _, rfl, p, dx9, _, rfl, g9, rfl, _, rfl, p, _, m + 1, u, r, nmB m, 1, rfl, sh9, rt, inB u hu', fun v H10 s10 hv => ?_⟩
    rw [whB u hu'] at hv
    have hvH := hv.same (mi_le _ _)
    have refs : ∀ z ∈ ws, ∃ a, z = .ref a := fun z hz => by
      obtain ⟨_, _, h⟩ := paired_mem pr9 z hz
      exact h
    have eD10 := s10 _ _ eD
    refine ⟨ws, eD10, ?_, (s9.trans s10).put nD _, _, upd_same, ?_⟩
    · have := paired_len pr9
      rw [List.length_take, nmB_len] at this
      exact big_line' (by omega)
    · rw [take_more hu]
      refine paired_app (L2.Paired.mapP pr9 fun a b h => ⟨sg_upd (h.1.same s10) eD10 refs, h.2⟩) (.cons ⟨sg_upd hvH eD10 refs, ?_⟩ .nil)
      obtain ⟨a0, _, e0, _⟩ := hvH.tup
      exact ⟨a0, e0⟩
  rintro H9 ⟨s9, ws, eD, pr9⟩
  rw [List.length_map, List.take_length] at pr9
  have s79 := s8.trans s9
  have eN9 := s9 _ _ eN8
  refine ⟨_, rfl, ln, rfl, ⟨_, SqL.of eN9⟩, fun D2 nD2 => ?_⟩
  refine lc_list (K := K) (a := ln) (xs := (nmB m).map V.str) (fun i H' => Same H9 H' ∧ H' D2 = some (.lst (((nmB m).take i).map fun _ => V.ref ta)))
    ⟨same_new nD2 _, upd_same⟩ (fun i H' _ h => SqL.of (h.1 _ _ eN9)) ?_ ?_
  · rintro i x H' hi ⟨s10, eD2⟩
    obtain ⟨u, hu, rfl⟩ := str_at hi
    refine ⟨rfl, _, rfl, _, eD2, ?_, s10.put nD2 _, ?_⟩
    · rw [List.length_map, List.length_take, nmB_len]
      exact big_line' (by omega)
    · rw [upd_same, take_more hu, List.map_append]
      rfl
  rintro H10 ⟨s10, eD2⟩
  rw [List.length_map, List.take_length] at eD2
  have s710 := s79.trans s10
  have hat10 : IsC H10 (.ref ta) (.sg [(m : Int), 1] "<") := (hat7.same (mi_le _ _)).same s710
  have ok1 : okC (.sg [(m : Int), 1] "<") := cat.ok
  refine ⟨_, _, rfl, .inr ⟨true, D, D2, ws, _, rfl, rfl, s10 _ _ eD, eD2, paired_to (fun _ => V.ref ta) (fun a b h => (sm_C (h.1.same s10) hat10 ok1).le (by show 0 + 5 ≤ 33; decide)) pr9, by rw [paired_len pr9, nmB_len]; omega⟩, fun H11 s11 => ⟨true, rfl, iteF ?_⟩⟩
  have s711 := s710.trans s11
  have sh11 := sh7.same s711
  have e11 := s711 _ _ e7
  -- a circle
  refine ⟨_, rfl, _, rfl, ln, _, 0, _, rfl, rfl, SqL.of e11, atS hdB rfl, ?_⟩
  refine ⟨_, rfl, _, rfl, _, _, rfl, rfl, ln, _, _, _, rfl, rfl, SqL.of e11, atS laB (by omega), by show 2 ≤ sizeLine; decide, fun t1 nt1 => ?_⟩
  have s12a := same_new nt1 (.tup [.str "use", .str ((nmB m).getD (m - 1) "")])
  refine ⟨by show 2 ≤ sizeLine; decide, fun t2 nt2 => ?_⟩
  have s12b := s12a.new nt2 (.tup [.str "not", .ref t1])
  refine ⟨by show 3 ≤ sizeLine; decide, fun t3' nt3 => ?_⟩
  have s12 := s12b.new nt3 (.tup [.str "put", .str ((nmB m).getD 0 ""), .ref t2])
  have sh12 := sh11.same s12
  have av11 := sh11.av
  have isd : IsD (mi [p] _) (.ref t3') (.put ((nmB m).getD 0 "") (.nt (.us ((nmB m).getD (m - 1) "")))) := ⟨t3', .ref t2, rfl, mi_new (av11.same s12b) nt3, t2, .ref t1, rfl, mi_upd nt3 _ _ (mi_new (av11.same s12a) nt2), t1, rfl, mi_upd nt3 _ _ (mi_upd nt2 _ _ (mi_new av11 nt1))⟩
  refine ⟨p, .ref t3', _, _, m + 1, nmB m, 1, rfl, sh12, by omega, G6, sbB, nmB_ok m13, isd, ⟨hd0, ⟨fun l hl => by rw [List.mem_singleton.mp hl]; exact True.intro, by show 0 + 1 ≤ 2; decide, Nat.le_refl _⟩⟩, ?_⟩
  rw [show stepR (chain (.sg [(m : Int), 1] "<") (nmB m)) (.put ((nmB m).getD 0 "") (.nt (.us ((nmB m).getD (m - 1) "")))) = .error .circ from f_circ [(m : Int), 1] "<" m m2 m13]
  intro H13 s13
  refine ⟨rfl, _, rfl, ite2 (fun z => ?_) (fun _ => ?_)⟩
  · exact absurd z (by decide +kernel)
  -- users
  have s713 := (s711.trans s12).trans s13
  have sh13 := sh7.same s713
  have e13 := s713 _ _ e7
  obtain ⟨dx13, st13, en13, xs13, k13, a13, es13, g13, _⟩ := id sh13
  refine ⟨_, rfl, p, dx13, _, rfl, g13, rfl, _, rfl, ln, _, 0, _, rfl, rfl, SqL.of e13, atS hdB rfl, p, _, m + 1, _, rfl, sh13, inB _ hd0, by rw [clen]; omega, fun y hy => ⟨(G6.cnd y hy).dep, Nat.le_trans (G6.cnd y hy).len (by decide)⟩, fun l14 H14 s14 n14 e14 => ?_⟩
  rw [f_users [(m : Int), 1] "<" m m2 m13] at e14
  have e14n := s14 _ _ e13
  refine ⟨_, rfl, 1, rfl, 2, rfl, ln, _, rfl, SqL.of e14n, fun l15 n15 => ?_⟩
  have ec : cutV ((nmB m).map V.str) (some 1) (some 2) = (((nmB m).drop 1).take 1).map V.str := by rw [cut12 (by rw [List.length_map, nmB_len]; exact m2), ← List.map_drop, ← List.map_take]
  rw [ec]
  have s15 := same_new n15 (.lst ((((nmB m).drop 1).take 1).map V.str))
  have sd2 : SeqAt.shaped (.list ((((nmB m).drop 1).take 1).map PyData.str)) = true := shaped_strs fun s hs => lay s (List.mem_of_mem_drop (List.mem_of_mem_take hs))
  refine ⟨_, _, .lst (SqL.of (s15 _ _ e14)) (dp_strs _), .lst (SqL.of upd_same) (dp_strs _), sd2, sd2, _, rfl, ?_⟩
  rw [eqv_self sd2]
  refine iteF ?_
  have s715 := (s713.trans s14).trans s15
  -- putting anew
  have sh15 := sh7.same s715
  have e15 := s715 _ _ e7
  obtain ⟨dx15, st15, en15, xs15, k15, a15, es15, g15, _⟩ := id sh15
  refine ⟨_, rfl, p, dx15, _, rfl, g15, rfl, _, rfl, ln, _, 0, _, rfl, rfl, SqL.of e15, atS hdB rfl, _, rfl, by show 2 ≤ sizeLine; decide, fun t4' nt4 => ?_⟩
  have s16 := same_new nt4 (.tup [.str "not", .ref ta])
  have cnt : COk okL 1 (.nt (.sg [(m : Int), 1] "<")) := ⟨cat.ok, by show 0 + 1 ≤ 2; decide, Nat.le_refl _⟩
  have pp := f_put2 [(m : Int), 1] "<" m m2 m13
  refine ⟨p, _, m + 1, _, .ref t4', .nt (.sg [(m : Int), 1] "<"), nmB m, 1, rfl, sh15.same s16, by omega, G6, sbB, hd0, nmB_ok m13 _ hd0, ⟨t4', .ref ta, rfl, mi_new sh15.av nt4, (hat7.same (mi_same s715)).same (mi_upd nt4)⟩, cnt, ?_⟩
  unfold Res
  rw [pp]
  intro H17 t17 sh17
  have G17 := G6.put (by rw [nmB_len]; omega) hd0 cnt pp
  obtain ⟨r2, rt2⟩ := rt_of G17 sbB
  have inB2 : ∀ x ∈ nmB m, ∃ c, cin (chain (.nt (.sg [(m : Int), 1] "<")) (nmB m)) x = some c := fun x hx => cin_some.mp (by rw [chain_nms]; exact hx)
  have whB2 : ∀ x ∈ nmB m, wh (chain (.nt (.sg [(m : Int), 1] "<")) (nmB m)) x = .nt (.sg [(m : Int), 1] "<") := fun x hx => by
    have h := f_whole2 [(m : Int), 1] "<" m m2 m13
    exact (List.map_inj_left.mp h) x hx
  have t717 : Ta [p] H7 H17 := ((s715.trans s16).ta _).trans t17
  have lnp7 : ln ∉ [p] := lnp
  have e17 := t717 _ _ lnp7 e7
  have hat17 : IsC (mi [p] H17) (.ref ta) (.sg [(m : Int), 1] "<") := hat7.same (t717.mi fun _ h => h)
  have s017 : Same H (mi [p] H17) := s07.trans (t717.mi fun _ h => h)
  refine ⟨_, rfl, ln, rfl, ⟨_, SqL.of e17⟩, fun D3 nD3 => ?_⟩
  refine lc_list (K := K) (a := ln) (xs := (nmB m).map V.str) (fun i H' => Same H17 H' ∧ ∃ bs : List Bool, H' D3 = some (.lst (bs.map V.bl)) ∧ bs.length = i ∧ ∀ b ∈ bs, b = true)
    ⟨same_new nD3 _, [], upd_same, rfl, fun _ h => by cases h⟩ (fun i H' _ h => SqL.of (h.1 _ _ e17)) ?_ ?_
  · rintro i x H' hi ⟨s18, bs, eD3, bl, ba⟩
    obtain ⟨u, hu, rfl⟩ := str_at hi
    have hu' := List.mem_of_getElem? hu
    have il : i < m := by have := (List.getElem?_eq_some_iff.mp hu).1; rw [nmB_len] at this; exact this
    have sh18 := sh17.same s18
    obtain ⟨dx18, st18, en18, xs18, k18, a18, es18, g18, _⟩ := id sh18
    refine ⟨rfl, _, rfl, p, dx18, _, rfl, g18, rfl, _, rfl, p, _, _, u, r2, nmB m, 1, rfl, sh18, rt2, inB2 u hu', fun v H19 s19 hv => ?_⟩
    rw [whB2 u hu'] at hv
    refine ⟨_, rfl, by show 2 ≤ sizeLine; decide, fun t20 nt20 => ?_⟩
    have s20 := same_new nt20 (.tup [.str "not", .ref ta])
    have h20 : IsC _ (.ref t20) (.nt (.sg [(m : Int), 1] "<")) := ⟨t20, .ref ta, rfl, upd_same, (((hat17.same (mi_le _ _)).same s18).same s19).same s20⟩
    refine ⟨v, .ref t20, rfl, (sm_C ((hv.same (mi_le _ _)).same s20) h20 cnt.ok).le (by show 0 + 1 + 5 ≤ 34; decide), fun H21 s21 => ?_⟩
    have s1821 := (s19.trans s20).trans s21
    refine ⟨_, s1821 _ _ eD3, by rw [List.length_map]; exact big_line' (by omega), (s18.trans s1821).put nD3 _, bs ++ [true], ?_, by rw [List.length_append, bl]; rfl, fun b hb => ?_⟩
    · rw [upd_same, List.map_append]
      rfl
    · rcases List.mem_append.mp hb with h | h
      · exact ba b h
      · exact List.mem_singleton.mp h
  · rintro H18 ⟨s18, bs, eD3, bl, ba⟩
    refine ⟨D3, bs, rfl, SqL.of eD3, ?_⟩
    have : bs.all id = true := List.all_eq_true.mpr fun b hb => ba b hb
    rw [this]
    exact q _ ((s017.trans (mi_le _ _)).trans s18)
end
end Sh
set_option Elab.async false
set_option linter.all false
set_option maxRecDepth 100000
set_option maxHeartbeats 4000000
namespace Sh
open PySem PySem.Spec PyProof.Rows L2 StX
section
variable {P : Program} {w : World} {K : PySem.W.Frag} {mg : Str → Option Value} {base : Heap}
/-! ### law -/
theorem good_step {S : List Str} {ps ps' : PsC} {dd : Deed} (G : Good okL S 4 ps) (hS : S.length ≤ 20) (dok : DeedOk S 4 dd) (h : stepR ps dd = .ok ps') : Good okL S 4 ps' := by
  cases dd with
  | put n c => exact G.put hS dok.1 dok.2 h
  | rem n => exact G.rem h
  | ren n o => exact G.ren (fun _ => True.intro) dok.2 h
theorem cut_drw {ds : List Int} (h : Drw ds) (lo hi : Option Int) : ∃ ds', cutV (ds.map V.int) lo hi = ds'.map V.int ∧ Drw ds' := by
  refine ⟨(ds.drop (HT.sIx (ds.map V.int).length 0 lo)).take (HT.sIx (ds.map V.int).length (ds.map V.int).length hi - HT.sIx (ds.map V.int).length 0 lo), ?_, fun x hx => h x (List.mem_of_mem_drop (List.mem_of_mem_take hx))⟩
  unfold cutV
  rw [List.map_take, List.map_drop]
def spLaw (K : PySem.W.Frag) : Sp := fun vs H Q _ => ∃ (a : Addr) (ns : List Int), vs = [.ref a] ∧ SqL K H a (ns.map V.int) ∧ ns.length ≤ 63 ∧ ∀ H', Q (.bl true) H'
theorem ta_back {d : Addr} {H H1 H2 : Hp} (n : H d = none) (s : Same H H1) (t : Ta [d] H1 H2) : Same H H2 := fun b o h => t b o (by simpa using ne_of_none h n) (s b o h)
theorem sheet_up {H : Hp} {p : Addr} {ps : PsC} {N : Nat} (h : SheetAt K H p ps N) : SheetAt K H p ps (N + 1) := by
  obtain ⟨dx, st, en, xs, k, a, es, h1, h2, h3, h4, h5, h6, h7, h8⟩ := h
  exact ⟨dx, st, en, xs, k, a, es, h1, h2, h3, h4, h5, h6, h7, Nat.le_succ_of_le h8⟩
theorem sc_law : FnScope ["_law_script", "_law_draws_here", "_law_names_here", "_law_sheet", "_law_pairs", "_law_k", "_law_deed_here", "_law_later", "_law_actual"] ["_law_script"] (defScope s_law) := ⟨rfl, rfl, rfl, by decide +kernel, rfl, by decide +kernel, by decide +kernel⟩
theorem ok_law (T : Txt w K mg) (U : Aux P K) (U2 : Aux2 K) {fd : FuncData} (F : FunD K "law" "law" (defArgs s_law) (defBody s_law) (defScope s_law) [] [] (He.ga K "law") fd) :
    FnOk P w K mg base (L2.CX P w) 40 (He.ga K "law") fd ["_law_script"] (spLaw K) := by
  have G_law_draws : Fn P w K mg base 1 (He.ga K "_law_draws") (spDraws (K := K)) := ok_draws T
  have G_law_names : Fn P w K mg base 1 (He.ga K "_law_names") spLNames := ok_lnames T
  have G_law_long : Fn P w K mg base 38 (He.ga K "_law_long") spLong := ok_long T U U2
  have G_m_init : Fn P w K mg base 1 (He.ma K (SC K) "__init__") (spInit (K := K)) := ok_init T
  have G_law_deed : Fn P w K mg base 6 (He.ga K "_law_deed") spDeed := ok_deed T
  have G_law_behind : Fn P w K mg base 32 (He.ga K "_law_behind") spBehind := ok_behind T
  have G_law_do := ok_do (base := base) T U U2
  have G_law_shows := ok_shows (base := base) T U
  refine FunD.ok F sc_law (fun vs H Q E h => ?_) (fun cdv A outer s H vs Q E hr h => ?_)
  · obtain ⟨a, ns, rfl, _⟩ := h
    rfl
  suffices z : ∃ t, PSs (cxOf (L2.CX P w) P w K mg base ["_law_script", "_law_draws_here", "_law_names_here", "_law_sheet", "_law_pairs", "_law_k", "_law_deed_here", "_law_later", "_law_actual"] "law" (defScope s_law) (He.ga K "law") cdv A outer s H E).nox (defBody s_law) t ∧ t { nx := fun _ H' => Q .non H', rt := Q } (start ["_law_script", "_law_draws_here", "_law_names_here", "_law_sheet", "_law_pairs", "_law_k", "_law_deed_here", "_law_later", "_law_actual"] vs) H by
    obtain ⟨t, d, q⟩ := z
    exact ⟨t, d.nox, q⟩
  obtain ⟨a, ns, rfl, ha, hn, q⟩ := h
  refine ⟨_, (pss_cons (ps_set (i := 1) sc_law.nd rfl (Or.inl rfl) (pe_callR G_law_draws (hr.mono (by omega)) T.g_law_draws (kp T.F_law_draws) passL (pa_cons (pv 0) (pa_cons pe_int pa_nil))))
      (pss_cons (ps_set (i := 2) sc_law.nd rfl (Or.inl rfl) (pe_callR G_law_names (hr.mono (by omega)) T.g_law_names (kp T.F_law_names) passL (pa_cons (pe_ix (ixl K) (pv 1) pe_int (fun _ _ => rfl)) (pa_cons (pe_ix (ixl K) (pv 1) pe_int (fun _ _ => rfl)) (pa_cons pe_int pa_nil)))))
      (pss_cons (ps_if (PW.pt (pw_and (pt_cmpR op_eq (pe_op op_mod (pe_callTy call_int1 rfl T.b_int (by decide +kernel) (pa_cons (pe_ix (ixl K) (pv 1) pe_int (fun _ _ => rfl)) pa_nil)) pe_int) pe_int (nomark _)) (pw_and1 (pt_not (pt_val (pe_callR G_law_long (hr.mono (by omega)) T.g_law_long (kp T.F_law_long) passL (pa_cons (pe_op op_add pe_int (pe_op op_mod (pe_callTy call_int1 rfl T.b_int (by decide +kernel) (pa_cons (pe_ix (ixl K) (pv 1) pe_int (fun _ _ => rfl)) pa_nil)) pe_int)) pa_nil))))))) (pss_one (ps_ret pe_bl)) pss_nil)
      (pss_cons (ps_par (i := 3) (j := 4) rfl sc_law.nd rfl rfl (by decide) rfl rfl (pa_cons (pe_makeR0 T.k_Sheet G_m_init (hr.mono (by omega)) T.g_Sheet passL) (pa_cons (pe_lst pa_nil) pa_nil)) (by rfl))
      (pss_cons (ps_for PassesOwn.never rfl (pi_range1 rfl T.b_range (pa_cons (pe_op op_mod (pe_callTy call_int1 rfl T.b_int (by decide +kernel) (pa_cons (pe_ix (ixl K) (pv 1) pe_int (fun _ _ => rfl)) pa_nil)) pe_int) pa_nil)) (pg_name (i := 5) sc_law.nd rfl (Or.inl rfl)) (pss_cons (ps_set (i := 6) sc_law.nd rfl (Or.inl rfl) (pe_callR G_law_deed (hr.mono (by omega)) T.g_law_deed (kp T.F_law_deed) passL (pa_cons (pv 4) (pa_cons (pv 2) (pa_cons (pe_slice (sll K) (pv 1) (po_some (pe_op op_add pe_int (pe_op op_mul pe_int (pv 5)))) (po_some (pe_op op_add pe_int (pe_op op_mul pe_int (pv 5))))) pa_nil)))))
      (pss_cons (ps_set (i := 7) sc_law.nd rfl (Or.inl rfl) (pe_callR G_law_behind (hr.mono (by omega)) T.g_law_behind (kp T.F_law_behind) passL (pa_cons (pv 4) (pa_cons (pv 6) pa_nil))))
      (pss_cons (ps_set (i := 8) sc_law.nd rfl (Or.inl rfl) (pe_callR G_law_do (hr.mono (by omega)) T.g_law_do (kp T.F_law_do) passL (pa_cons (pv 3) (pa_cons (pv 6) pa_nil))))
      (pss_cons (ps_if (pt_val (pe_callB (isiq K) rfl T.b_isinstance (by decide +kernel) (pa_cons (pv 7) (pa_cons (pe_bltn (x := "str") (v := .ty "str") (by rfl) T.b_str (by decide +kernel) rfl) pa_nil)))) (pss_one (ps_if (pt_cmpR op_ne (pv 8) (pv 7) (nomark _)) (pss_one (ps_ret pe_bl)) pss_nil)) (pss_cons (ps_if (pt_cmpR op_notN (pv 8) pe_non (nomark _)) (pss_one (ps_ret pe_bl)) pss_nil)
      (pss_one (ps_set (i := 4) sc_law.nd rfl (Or.inl rfl) (pv 7)))))
      (pss_one (ps_if (pt_not (pt_val (pe_callR G_law_shows (hr.mono (by omega)) T.g_law_shows (kp T.F_law_shows) passL (pa_cons (pv 3) (pa_cons (pv 4) (pa_cons (pv 2) pa_nil)))))) (pss_one (ps_ret pe_bl)) pss_nil)))))))
      (pss_one (ps_ret pe_bl))))))), ?_⟩
  refine ⟨_, rfl, a, ns, rfl, ha, by omega, fun dl ds H1 s1 n1 e1 dlen dr => ?_⟩
  have atd : ∀ k : Nat, k < 400 → ∃ x, atI (ds.map V.int) (k : Int) = some (.int x) ∧ 0 ≤ x ∧ x < 1000 := fun k hk => ⟨ds[k]'(by omega), at_ints (by omega), dr _ (List.getElem_mem _)⟩
  obtain ⟨x0, a0, b0⟩ := atd 0 (by decide)
  obtain ⟨x1, a1, b1⟩ := atd 1 (by decide)
  obtain ⟨x2, a2, b2⟩ := atd 2 (by decide)
  obtain ⟨x398, a398, b398⟩ := atd 398 (by decide)
  obtain ⟨x399, a399, b399⟩ := atd 399 (by decide)
  refine ⟨_, rfl, dl, _, 0, _, rfl, rfl, SqL.of e1, a0, _, rfl, dl, _, 1, _, rfl, rfl, SqL.of e1, a1, x0, x1, rfl, b0.1, b0.2, b1.1, b1.2, fun nl S H2 s2 n2 e2 slen sok => ?_⟩
  have sb : SB S 4 := ⟨by omega, by decide, by decide, by rw [slen]; decide⟩
  have e12 := s2 _ _ e1
  refine ⟨_, rfl, dl, _, 399, _, rfl, rfl, SqL.of e12, a399, .inl ⟨_, rfl, _, _, rfl, rfl, by show (0 : Int) < 5; decide, rfl, _, rfl, ?_⟩⟩
  by_cases g5 : x399 % 5 = 0
  case' pos =>
    refine ite2 (fun _ => ?_) (fun z => absurd (decide_eq_true (show V.int (x399 % 5) = V.int 0 by rw [g5])) z)
    have earg : [V.int (2 + x398 % 12)] = [V.int (((2 + x398 % 12).toNat : Nat) : Int)] := by rw [show (2 + x398 % 12) = (((2 + x398 % 12).toNat : Nat) : Int) by omega]; rfl
    refine ⟨_, rfl, dl, _, 398, _, rfl, rfl, SqL.of e12, a398, .inl ⟨_, rfl, _, _, rfl, rfl, by show (0 : Int) < 12; decide, _, _, rfl, rfl, (2 + x398 % 12).toNat, earg, by omega, by omega, fun H3 s3 => ⟨true, rfl, iteF ?_⟩⟩⟩
  case' neg =>
    refine ite2 (fun z => absurd (V.int.inj (of_decide_eq_true z)) g5) (fun _ => iteF ?_)
    obtain ⟨H3, eH3⟩ : ∃ x, x = H2 := ⟨_, rfl⟩
    have s3 : Same H2 H3 := by rw [eH3]; exact Same.refl _
    rw [← eH3]
  all_goals
    have e13 := s3 _ _ e12
    have e23 := s3 _ _ e2
    intro p dx np ndx ndp
    refine ⟨p, dx, rfl, upd_same, fun H4 t4 sh4 => ⟨rfl, Nat.zero_le _, fun pa npa => ⟨_, _, rfl, ?_⟩⟩⟩
    have s34 : Same H3 (mi [p] H4) := fun b o h => by
      have b1 : b ≠ p := ne_of_none h np
      have b2 : b ≠ dx := ne_of_none h ndx
      rw [mi_in (by simpa using b1)]
      exact t4 _ _ (by simpa using b1) (by rw [upd_ne b1, upd_ne b2]; exact h)
    have s45 := same_new npa (.lst [])
    have sh5 := sh4.same s45
    have e15 := s45 _ _ (mi_some (s34 _ _ e13)).1
    have e25 := s45 _ _ (mi_some (s34 _ _ e23)).1
    have dlp : dl ∉ [p] := (mi_some (s34 _ _ e13)).2
    have nlp : nl ∉ [p] := (mi_some (s34 _ _ e23)).2
    have ips5 : IsPs (mi [p] (upd H4 pa (.lst []))) pa [] := ⟨[], mi_new sh4.av npa, .nil⟩
    generalize upd H4 pa (.lst []) = H5 at sh5 e15 e25 ips5
    refine ⟨_, rfl, dl, _, 2, _, rfl, rfl, SqL.of e15, a2, .inl ⟨_, rfl, _, _, rfl, rfl, by show (0 : Int) < 13; decide, x2 % 13, rfl, by omega, by omega, ?_⟩⟩
    refine for_range (n := (x2 % 13).toNat) (fun i σ H' => ∃ pb ps z1 z2 z3 z4, σ = [some (.ref a), some (.ref dl), some (.ref nl), some (.ref p), some (.ref pb), z1, z2, z3, z4] ∧ Ta [p] H5 H' ∧ SheetAt K H' p ps i ∧ IsPs (mi [p] H') pb ps ∧ Good okL S 4 ps)
      ⟨pa, [], none, none, none, none, rfl, Ta.refl _ _, sh5, ips5, Good.nil⟩ ?_ ?_
    · rintro i σ H' hi ⟨pb, ps, z1, z2, z3, z4, rfl, t6, sh6, ip6, G⟩
      have e16 := t6 _ _ dlp e15
      have e26 := t6 _ _ nlp e25
      obtain ⟨ds', eds, dr'⟩ := cut_drw dr (some (3 + 30 * (0 + (i : Int)))) (some (33 + 30 * (0 + (i : Int))))
      refine ⟨_, rfl, _, rfl, _, rfl, _, rfl, _, _, rfl, rfl, .inl ⟨by decide, by decide⟩, _, _, rfl, rfl, _, rfl, _, rfl, _, _, rfl, rfl, .inl ⟨by decide, by decide⟩, _, _, rfl, rfl, _, rfl, dl, _, rfl, SqL.of e16, fun d nd => ?_⟩
      rw [eds]
      have s7 : Same H' (upd H' d (.lst (ds'.map V.int))) := same_new nd _
      have sh7 := sh6.same s7
      have nld : nl ≠ d := ne_of_none e26 nd
      refine ⟨[d, p], pb, nl, d, ds', S, ps, rfl, List.mem_cons_self, sh7.av.cons upd_same, upd_same, dr', nld, s7 _ _ e26, ip6.same (carry s7 nd), G, sb, by omega, fun x dd H8 t8 hdd dok => ?_⟩
      have s8 : Same H' H8 := ta_back nd s7 t8
      have sh8 := sh6.same s8
      have hdd1 : IsD (mi [p] H8) x dd := hdd.same (mi_sub _ fun _ => List.mem_cons_of_mem _)
      refine ⟨_, rfl, _, rfl, [p], pb, x, ps, dd, S, 4, rfl, sh8.av, ip6.same (mi_same s8), G, sb, hdd1, dok, ?_⟩
      unfold LRes
      cases hstep : stepR ps dd with
      | error e =>
        intro H9 s9
        have sh9 := sh8.same s9
        refine ⟨_, rfl, _, rfl, p, x, dd, ps, i, S, 4, rfl, sh9, by omega, G, sb, sok, hdd1.same (mi_same s9), dok, ?_⟩
        rw [hstep]
        intro H10 s10
        refine ⟨_, rfl, _, _, _, _, _, rfl, .ty _, .base (.str _), kit_ty (r := true) (by decide +kernel), _, rfl, iteT ?_⟩
        refine ⟨_, rfl, _, rfl, rfl, _, rfl, ?_⟩
        refine ite2 (fun z => ?_) (fun _ => ?_)
        · rw [decide_eq_true rfl] at z
          cases z
        have s810 := (s8.trans s9).trans s10
        have t10 := t6.trans (s810.ta _)
        have sh10 := sh6.same s810
        refine ⟨_, rfl, _, rfl, _, rfl, p, pb, nl, ps, i, S, 4, S, rfl, sh10, ip6.same (mi_same s810), G, sb, s810 _ _ e26, by omega, fun H11 s11 => ⟨true, rfl, iteF ?_⟩⟩
        have s611 := s810.trans s11
        exact ⟨_, _, _, _, _, _, rfl, t6.trans (s611.ta _), sheet_up (sh6.same s611), ip6.same (mi_same s611), G⟩
      | ok ps' =>
        intro l H9 s9 nl9 ipl
        have sh9 := sh8.same s9
        have G' := good_step G (by omega) dok hstep
        refine ⟨_, rfl, _, rfl, p, x, dd, ps, i, S, 4, rfl, sh9, by omega, G, sb, sok, hdd1.same (mi_same s9), dok, ?_⟩
        rw [hstep]
        intro H10 t10 sh10
        have ipl10 : IsPs (mi [p] H10) l ps' := ipl.same (t10.mi fun _ h => h)
        obtain ⟨ws, w1, _⟩ := id ipl10
        refine ⟨_, rfl, _, _, _, _, _, rfl, .ty _, .base (.lst (mi_some w1).1), kit_ty (r := false) (by decide +kernel), _, rfl, iteF ?_⟩
        refine ⟨_, rfl, rfl, _, rfl, iteF ?_⟩
        refine ⟨_, rfl, ?_⟩
        have t610 : Ta [p] H' H10 := ((s8.trans s9).ta _).trans t10
        have e2x := t610 _ _ nlp e26
        refine ⟨_, rfl, _, rfl, _, rfl, p, l, nl, ps', i + 1, S, 4, S, rfl, sh10, ipl10, G', sb, e2x, by omega, fun H11 s11 => ⟨true, rfl, iteF ?_⟩⟩
        exact ⟨_, _, _, _, _, _, rfl, (t6.trans t610).trans (s11.ta _), sh10.same s11, ipl10.same (mi_same s11), G'⟩
    · rintro σ H' ⟨pb, ps, z1, z2, z3, z4, rfl, t6, sh6, ip6, G⟩
      exact q _
end
end Sh
set_option Elab.async false
set_option linter.all false
set_option maxRecDepth 100000
set_option maxHeartbeats 4000000
namespace Sh
open PySem PySem.Spec PyProof.Rows L2
/-! ### the Hook, by the error classes' __init__ too -/
abbrev EW : Type := Option (Str × Str × Arguments × FuncBody × Scope × Addr × List Str × Addr)
def initAd (K : PySem.W.Frag) (x : Str) : Addr := match PySem.W.findIn K (.ref (He.ga K x)) "__init__" with
  | some (some (.ref f)) => f
  | _ => 0
def eW (K : PySem.W.Frag) (x : Str) : EW := match K.lookup (initAd K x) with
  | some ⟨_, _, .func fd, _⟩ => some (fd.name, fd.qualname, fd.params, fd.body, fd.scope, fd.globals, fd.closure.map (·.1), fd.builtins)
  | _ => none
def eVal (q : Str × Stmt) : EW := some ("__init__", q.1 ++ ".__init__", defArgs q.2, .stmts (defBody q.2), defScope q.2, mainGlobals, ["__class__"], builtinsNs)
def eF (K : PySem.W.Frag) (file x : Str) : Bool := match K.lookup (initAd K x) with
  | some ⟨_, _, .func fd, _⟩ => (match fd.defaults with
    | .none => true
    | _ => false) && (PySem.W.codeIn K fd.code fd.qualname && ((match fd.code with
    | .ref cda => (match K.lookup cda with
      | some ⟨_, _, .fields vs, _⟩ => (match (vs[2]? : Option Value) with
        | some (Value.str f _) => decide (f = file)
        | _ => false)
      | _ => false)
    | _ => false) && (match fd.closure with
    | [(_, cc)] => (match K.lookup cc with
      | some ⟨_, _, .cell (some (.ref D)), _⟩ => decide (D = He.ga K x)
      | _ => false)
    | _ => false)))
  | _ => false
def eB (K : PySem.W.Frag) (file x : Str) : Bool :=
  PySem.W.excInitIn K (He.ga K x) veMro "ValueError.__new__" && (PySem.W.keepIn K (.ref (He.ga K x)) && (decide (PySem.W.subIn K (.ref (He.ga K x)) (.type "BaseException") = some true) && (decide (PySem.W.typeIn K (.ref (He.ga K x)) = some (.type "type")) &&
    (decide (PySem.W.subIn K (.ref (He.ga K x)) (.type "ValueError") = some true) && (decide (PySem.W.mroIn K (He.ga K x) (.ref (He.ga K x)) = some true) && (He.eqO (PySem.W.nsIn K cStatics "thirdparty.any") (some none) &&
    (He.eqO (PySem.W.ks_superIn K (He.ga K x) (He.ga K x) "__init__") (some (some (.builtin "ValueError.__init__"))) && (He.eqO (PySem.W.findIn K (.ref (He.ga K x)) "__init__") (some (some (.ref (initAd K x)))) &&
    (decide (PySem.W.typeIn K (.ref (initAd K x)) = some (.type "function")) && eF K file x)))))))))
def xB (K : PySem.W.Frag) (x : Str) : Bool :=
  He.eqO (PySem.W.findIn K (.ref (He.ga K x)) "__getattribute__") (some (some (.builtin "BaseException.__getattribute__"))) && (He.eqO (PySem.W.findIn K (.ref (He.ga K x)) "__getattr__") (some none) && (decide (PySem.W.subIn K (.ref (He.ga K x)) (.type "BaseException") = some true) &&
    (PySem.W.hasDictIn K (He.ga K x) && (He.eqO (PySem.W.findIn K (.ref (He.ga K x)) "__class__") (some (some (.builtin "object.__class__"))) && (He.eqO (PySem.W.specialIn K (.builtin "object.__class__") "__get__") (some (some (.builtin "getset_descriptor.__get__"))) &&
    (decide (PySem.W.takesIn K (.builtin "object.__class__") = some true) && decide (PySem.W.mroIn K (He.ga K x) (.type "object") = some true)))))))
def errs : List Err := [.deep, .size, .unk, .circ, .inuse, .badname]
theorem errs_all (e : Err) : e ∈ errs := by cases e <;> simp [errs]
def kitB6 (K : PySem.W.Frag) : Bool := errs.all fun e => errs.all fun e' => decide (PySem.W.kitOne K (.ref (He.ga K (errN e))) (.ref (He.ga K (errN e'))) = some (decide (e = e')))
def exmB6 (K : PySem.W.Frag) : Bool := errs.all fun e => decide (PySem.W.exmOne K (.ref (He.ga K (errN e))) (.ref (He.ga K "WhereError")) = some true)
theorem xB_ok {K : PySem.W.Frag} {x : Str} (h : xB K x = true) : ExcC K (He.ga K x) := by
  obtain ⟨h1, h⟩ := He.ba h
  obtain ⟨h2, h⟩ := He.ba h
  obtain ⟨h3, h⟩ := He.ba h
  obtain ⟨h4, h⟩ := He.ba h
  obtain ⟨h5, h⟩ := He.ba h
  obtain ⟨h6, h⟩ := He.ba h
  obtain ⟨h7, h8⟩ := He.ba h
  exact ⟨He.eqO_ok h1, He.eqO_ok h2, of_decide_eq_true h3, h4, He.eqO_ok h5, He.eqO_ok h6, of_decide_eq_true h7, of_decide_eq_true h8⟩
theorem eF_ok {K : PySem.W.Frag} {file x : Str} {st : Stmt} (e : eW K x = eVal (x, st)) (h : eF K file x = true) : ∃ (oc : Value) (od : Option Addr) (kV doc pm : Value) (an : Option Addr) (cda cc : Addr) (ct : Value) (osl : Array (Option Value)),
    K.lookup (initAd K x) = some ⟨oc, od, .func (PySem.W.ksFn "__init__" (x ++ ".__init__") (defArgs st) (defBody st) (defScope st) .none kV doc pm an (.ref cda) ct cc), osl⟩ ∧ PySem.W.codeIn K (.ref cda) (x ++ ".__init__") = true ∧
    (∃ ccl cdd vs ccs tf, K.lookup cda = some ⟨ccl, cdd, .fields vs, ccs⟩ ∧ vs[2]? = some (.str file tf)) ∧ ∃ cl cld csl, K.lookup cc = some ⟨cl, cld, .cell (some (.ref (He.ga K x))), csl⟩ := by
  unfold eW at e
  unfold eF at h
  cases q : K.lookup (initAd K x) with
  | none => rw [q] at h; cases h
  | some o =>
    obtain ⟨oc, od, dt, osl⟩ := o
    rw [q] at h e
    cases dt with
    | func fd =>
      obtain ⟨n1, n2, n3, n4, n5, n6, n7, n8, n9, n10, n11, n12, n13, n14, n15⟩ := fd
      have e2 : (some (n1, n2, n3, n4, n5, n6, n7.map (·.1), n15) : EW) = (some ("__init__", x ++ ".__init__", defArgs st, .stmts (defBody st), defScope st, mainGlobals, ["__class__"], builtinsNs) : EW) := e
      simp only [Option.some.injEq, Prod.mk.injEq] at e2
      obtain ⟨h1, h2, h3, h4, h5, h6, h7, h8⟩ := e2
      subst h1 h2 h3 h4 h5 h6 h8
      obtain ⟨k1, k2⟩ := He.ba h
      obtain ⟨k3, k4⟩ := He.ba k2
      obtain ⟨k5, k6⟩ := He.ba k4
      dsimp only at k1 k3 k5 k6 h7
      cases n8 with
      | none =>
        cases n13 with
        | ref cda =>
          cases n7 with
          | nil => cases k6
          | cons y r =>
            cases r with
            | cons z r => cases k6
            | nil =>
              obtain ⟨nm, cc⟩ := y
              have hnm : nm = ("__class__" : Str) := by
                have : [nm] = [("__class__" : Str)] := h7
                cases this
                rfl
              subst hnm
              refine ⟨oc, od, n9, n10, n11, n12, cda, cc, n14, osl, rfl, k3, ?_, ?_⟩
              · dsimp only at k5
                cases q2 : K.lookup cda with
                | none => rw [q2] at k5; cases k5
                | some o2 =>
                  obtain ⟨c1, c2, c3, c4⟩ := o2
                  rw [q2] at k5
                  cases c3 with
                  | fields vs =>
                    dsimp only at k5
                    cases q3 : vs[2]? with
                    | none => rw [q3] at k5; cases k5
                    | some u =>
                      rw [q3] at k5
                      cases u with
                      | str f t =>
                        have ef : f = file := of_decide_eq_true k5
                        subst ef
                        exact ⟨c1, c2, vs, c4, t, rfl, q3⟩
                      | _ => cases k5
                  | _ => cases k5
              · dsimp only at k6
                cases q2 : K.lookup cc with
                | none => rw [q2] at k6; cases k6
                | some o2 =>
                  obtain ⟨c1, c2, c3, c4⟩ := o2
                  rw [q2] at k6
                  cases c3 with
                  | cell u =>
                    cases u with
                    | none => cases k6
                    | some u =>
                      cases u with
                      | ref D =>
                        have ed : D = He.ga K x := of_decide_eq_true k6
                        subst ed
                        exact ⟨c1, c2, c4, rfl⟩
                      | _ => cases k6
                  | _ => cases k6
        | _ => cases k5
      | _ => cases k1
    | _ => cases h
theorem eB_ok {P : Program} {K : PySem.W.Frag} {file x : Str} {st : Stmt} (e : eW K x = eVal (x, st)) (hf : P.main.file = file) (h : eB K file x = true)
    (hs : ∃ txt k p p0 p1 p2 p3 p4 p5, defArgs st = superArgs p ∧ defBody st = superBody txt k p0 p1 p2 p3 p4 p5 ∧ defScope st = superScope ∧ (p2.endLine == p4.line) = true) : ErrC P K (He.ga K x) := by
  obtain ⟨h1, h⟩ := He.ba h
  obtain ⟨h2, h⟩ := He.ba h
  obtain ⟨h3, h⟩ := He.ba h
  obtain ⟨h4, h⟩ := He.ba h
  obtain ⟨h5, h⟩ := He.ba h
  obtain ⟨h6, h⟩ := He.ba h
  obtain ⟨h7, h⟩ := He.ba h
  obtain ⟨h8, h⟩ := He.ba h
  obtain ⟨h9, h⟩ := He.ba h
  obtain ⟨h10, h11⟩ := He.ba h
  obtain ⟨oc, od, kV, doc, pm, an, cda, cc, ct, osl, lk, cd, ⟨ccl, cdd, vs, ccs, tf, l1, l2⟩, cl, cld, csl, l3⟩ := eF_ok e h11
  obtain ⟨txt, k, p, p0, p1, p2, p3, p4, p5, d1, d2, d3, d4⟩ := hs
  rw [d1, d2, d3] at lk
  refine ⟨h1, h2, of_decide_eq_true h3, of_decide_eq_true h4, of_decide_eq_true h5, of_decide_eq_true h6, He.eqO_ok h7, He.eqO_ok h8, initAd K x, cda, cc, _, oc, od, kV, doc, pm, an, ct, osl, txt, k, p, p0, p1, p2, p3, p4, p5, ccl, cdd, vs, ccs, file, tf, cl, cld, csl, d4, He.eqO_ok h9, of_decide_eq_true h10, lk, cd, l1, l2, ?_, l3⟩
  rw [hf]
  exact beq_self_eq_true _
section
variable (n : Nat) (fa : List He.Fa) (fn : List He.DefD) (ts : List He.Tab) (ex : PySem.W.Frag → Bool) (es : List (Str × Stmt))
abbrev AlY : Type := He.AlT × Bool × List EW
/-- what is looked at: the kit's part, and the statics -/
def frY (g : Addr → Option Obj) : PySem.W.Frag := He.frT g (cStatics :: He.asD g n)
def obsY (g : Addr → Option Obj) : AlY := (He.obsT fa fn ts (frY n g), ex (frY n g), es.map fun q => eW (frY n g) q.1)
def valY (w : World) : AlY := (He.valT fn ts w, true, es.map eVal)
structure SaysY (w : World) (K : PySem.W.Frag) : Prop where
  t : He.SaysT fa fn ts w K
  more : ex K = true
  e : es.map (fun q => eW K q.1) = es.map eVal
def hookY : PySem.W.Hook where
  α := AlY
  obs := fun s => obsY n fa fn ts ex es s.heap.get?
  val := fun w => valY fn ts es w
  says := fun w h => ∃ K : PySem.W.Frag, K.In h ∧ SaysY fa fn ts ex es w K
  of := fun _ _ e => ⟨_, He.frT_in, congrArg (fun z : AlY => z.1) e, congrArg (fun z : AlY => z.2.1) e, congrArg (fun z : AlY => z.2.2) e⟩
  keeps := fun _ _ _ ⟨K, hK, c⟩ k => ⟨K, PySem.W.Frag.In.keeps hK k, c⟩
theorem obsY_eq {s : Shared} {g : Addr → Option Obj} (h : ∀ a, g a = s.heap.get? a) : obsY n fa fn ts ex es g = (hookY n fa fn ts ex es).obs s := by
  have e : g = s.heap.get? := funext h
  rw [e] <;> rfl
end
end Sh
set_option Elab.async false
set_option linter.all false
set_option maxRecDepth 100000
set_option maxHeartbeats 0
namespace Sh
open PySem PySem.Spec PyProof.Rows L2
def dd (n : Str) (s : Stmt) : He.DefD := ⟨(n, none), n, n, defArgs s, defBody s, defScope s, [], []⟩
def dm (n q : Str) (s : Stmt) : He.DefD := ⟨("Sheet", some n), n, q, defArgs s, defBody s, defScope s, [], []⟩
def fn0 : List He.DefD := [dd "is_whole" s_is_whole, dd "check_polynomial" s_check_polynomial, dd "check_row" s_check_row, dd "check_block" s_check_block, ⟨("check_part", none), "check_part", "check_part", defArgs s_check_part, defBody s_check_part, defScope s_check_part, [], [("has_uses", .bl false)]⟩, dd "check_formula" s_check_formula, dd "is_atom" s_is_atom, dd "atoms_of" s_atoms_of, dd "copy_of" s_copy_of, dd "depth_of" s_depth_of, dd "size_of" s_size_of, dd "is_name" s_is_name, dd "leaves_of" s_leaves_of, dd "used_in" s_used_in, dd "filled" s_filled, dd "copy_condition" s_copy_condition, dd "check_condition" s_check_condition, dd "condition_in" s_condition_in, dd "whole_in" s_whole_in, dd "leads_to" s_leads_to, dd "put_in" s_put_in, dd "_law_draws" s__law_draws, dd "_law_take" s__law_take, dd "_law_names" s__law_names, dd "_law_atom" s__law_atom, dd "_law_condition" s__law_condition, dd "_law_leaves" s__law_leaves, dd "_law_used" s__law_used, dd "_law_depth" s__law_depth, dd "_law_found" s__law_found]
def fn1 : List He.DefD := [dd "_law_filled" s__law_filled, dd "_law_whole" s__law_whole, dd "_law_reached" s__law_reached, dd "_law_sizes_due" s__law_sizes_due, dd "_law_put" s__law_put, dd "_law_behind" s__law_behind, dd "_law_deed" s__law_deed, dd "_law_class" s__law_class, dd "_law_do" s__law_do, dd "_law_same" s__law_same, dd "_law_shows" s__law_shows, dd "_law_long" s__law_long, dd "law" s_law, dm "__init__" "Sheet.__init__" m_init, dm "_pairs" "Sheet._pairs" m_pairs, dm "_condition_of" "Sheet._condition_of" m_condition_of, dm "_enter" "Sheet._enter" m_enter, dm "put" "Sheet.put" m_put, dm "remove" "Sheet.remove" m_remove, dm "rename" "Sheet.rename" m_rename, dm "names" "Sheet.names" m_names, dm "condition" "Sheet.condition" m_condition, dm "whole" "Sheet.whole" m_whole, dm "users" "Sheet.users" m_users, dm "__len__" "Sheet.__len__" m_len, dm "__contains__" "Sheet.__contains__" m_contains]
def fn : List He.DefD := fn0 ++ fn1
def fa0 : List He.Fa := [.glo "is_whole", .glo "check_polynomial", .glo "check_row", .glo "check_block", .glo "check_part", .glo "check_formula", .glo "is_atom", .glo "atoms_of", .glo "copy_of", .glo "depth_of", .glo "size_of", .glo "is_name", .glo "leaves_of", .glo "used_in", .glo "filled", .glo "copy_condition", .glo "check_condition", .glo "condition_in", .glo "whole_in", .glo "leads_to", .glo "put_in", .glo "_law_draws", .glo "_law_take", .glo "_law_names", .glo "_law_atom", .glo "_law_condition", .glo "_law_leaves", .glo "_law_used", .glo "_law_depth", .glo "_law_found"]
def fa1 : List He.Fa := [.glo "_law_filled", .glo "_law_whole", .glo "_law_reached", .glo "_law_sizes_due", .glo "_law_put", .glo "_law_behind", .glo "_law_deed", .glo "_law_class", .glo "_law_do", .glo "_law_same", .glo "_law_shows", .glo "_law_long", .glo "law", .glo "WhereError", .glo "BadSize", .glo "BadNumber", .glo "BadForm", .glo "BadSign", .glo "TooDeep", .glo "BadName", .glo "UnknownName", .glo "Circle", .glo "InUse", .glo "Sheet", .glo "LENGTHS", .glo "OPPOSITE", .glo "ROW_SIGNS", .free "len", .free "isinstance", .free "int"]
def fa2 : List He.Fa := [.free "str", .free "bool", .free "list", .free "tuple", .free "range", .free "any", .free "all", .free "max", .free "super", .int "DEEPEST" 6, .int "MOST_SIGNS" 6, .int "MOST_BLOCKS" 3, .str "LETTERS" "abcdefghijklmnopqrstuvwxyz", .str "DIGITS" "0123456789", .cls "Sheet", .mkr "Sheet", .noat "Sheet" "_states", .noat "Sheet" "_now", .noat "Sheet" "_entries", .meth "Sheet" "__init__", .meth "Sheet" "_pairs", .meth "Sheet" "_condition_of", .meth "Sheet" "_enter", .meth "Sheet" "put", .meth "Sheet" "remove", .meth "Sheet" "rename", .meth "Sheet" "names", .meth "Sheet" "condition", .meth "Sheet" "whole", .meth "Sheet" "users"]
def fa3 : List He.Fa := [.meth "Sheet" "__len__", .meth "Sheet" "__contains__"]
def fa : List He.Fa := fa0 ++ fa1 ++ fa2 ++ fa3
def ts : List He.Tab := [(fun K => He.ga K "LENGTHS", ["sign", "some", "not", "and", "or"]), (fun K => He.ga K "OPPOSITE", ["<", ">=", "<=", ">", "=", "!="])]
def exc6 : List (Str × Stmt) := [("TooDeep", inClass (top 7) 0), ("BadSize", inClass (top 3) 0), ("UnknownName", inClass (top 9) 0), ("Circle", inClass (top 10) 0), ("InUse", inClass (top 11) 0), ("BadName", inClass (top 8) 0)]
def ex (K : PySem.W.Frag) : Bool := (He.valsB K (He.ga K "LENGTHS") [("sign", .int 3), ("some", .int 3), ("not", .int 2), ("and", .int 3), ("or", .int 3)] && (He.valsB K (He.ga K "OPPOSITE") [("<", .str ">="), (">=", .str "<"), ("<=", .str ">"), (">", .str "<="), ("=", .str "!="), ("!=", .str "=")] && He.tupB K "ROW_SIGNS" [.str "<", .str "<=", .str "="])) && ((exc6.all (fun q => eB K "/claim/cut.py" q.1) && errs.all (fun e => xB K (errN e))) && (kitB6 K && exmB6 K))
def nm0 : List Str := ["_wall", "WhereError", "BadSize", "BadNumber", "BadForm", "BadSign", "TooDeep", "BadName", "UnknownName", "Circle", "InUse", "is_whole", "check_polynomial", "LENGTHS", "OPPOSITE", "ROW_SIGNS", "DEEPEST", "MOST_SIGNS", "MOST_BLOCKS", "check_row", "check_block", "check_part", "check_formula", "is_atom", "atoms_of", "copy_of", "depth_of", "size_of", "LETTERS", "DIGITS"]
def nm1 : List Str := ["is_name", "leaves_of", "used_in", "filled", "copy_condition", "check_condition", "condition_in", "whole_in", "leads_to", "put_in", "Sheet", "_law_draws", "_law_take", "_law_names", "_law_atom", "_law_condition", "_law_leaves", "_law_used", "_law_depth", "_law_found", "_law_filled", "_law_whole", "_law_reached", "_law_sizes_due", "_law_put", "_law_behind", "_law_deed", "_law_class", "_law_do", "_law_same"]
def nm2 : List Str := ["_law_shows", "_law_long"]
def nm : List Str := nm0 ++ nm1 ++ nm2
abbrev R : PySem.W.OpenRow := PySem.W.OpenLaw.row PySem.Challenge.rw_wheretrue_k83_whole_walks_of_a_sheet
abbrev hk : PySem.W.Hook := hookY 5 fa fn ts ex exc6
def ob (s : PySem.W.SharedT) : AlY := obsY 5 fa fn ts ex exc6 (HandSHeadRun.getT s)
theorem ob_eq (s : PySem.W.SharedT) : ob s = hk.obs s.abs := obsY_eq 5 fa fn ts ex exc6 (HandSHeadRun.getT_eq s)
theorem run_f (w : World) : HandSHeadRun.RunEq R (PySem.W.view R.prog [68]) hk ob 20000 nm (w.withFollow "special-get-raises" false) := by
  intro os
  kernel_rfl
theorem run_t (w : World) : HandSHeadRun.RunEq R (PySem.W.view R.prog [68]) hk ob 20000 nm (w.withFollow "special-get-raises" true) := by
  intro os
  kernel_rfl
theorem run (w : World) : HandSHeadRun.RunEq R (PySem.W.view R.prog [68]) hk ob 20000 nm w :=
  PySem.W.byRow2 "special-get-raises" (P := fun w => HandSHeadRun.RunEq R (PySem.W.view R.prog [68]) hk ob 20000 nm w) run_f run_t w
end Sh
set_option Elab.async false
set_option linter.all false
set_option maxRecDepth 100000
set_option maxHeartbeats 4000000
namespace Sh
open PySem PySem.Spec PyProof.Rows L2
section
variable {w : World} {K : PySem.W.Frag} {h : Heap} {mg : Str → Option Value}
theorem txt_of (X : K.In h) (G : h.Ns mainGlobals mg) (y : SaysY fa fn ts ex exc6 w K) : Txt w K mg := by
  have t := y.t
  have c := He.SaysT.d t
  obtain ⟨v, _⟩ := He.ba y.more
  obtain ⟨v1, v⟩ := He.ba v
  obtain ⟨v2, v3⟩ := He.ba v
  exact ⟨He.glo_ok X G (c.fact 0 (f := .glo "is_whole") rfl),
    c.def_ 0 (d := dd "is_whole" s_is_whole) rfl,
    He.glo_ok X G (c.fact 1 (f := .glo "check_polynomial") rfl),
    c.def_ 1 (d := dd "check_polynomial" s_check_polynomial) rfl,
    He.glo_ok X G (c.fact 2 (f := .glo "check_row") rfl),
    c.def_ 2 (d := dd "check_row" s_check_row) rfl,
    He.glo_ok X G (c.fact 3 (f := .glo "check_block") rfl),
    c.def_ 3 (d := dd "check_block" s_check_block) rfl,
    He.glo_ok X G (c.fact 4 (f := .glo "check_part") rfl),
    c.def_ 4 (d := ⟨("check_part", none), "check_part", "check_part", defArgs s_check_part, defBody s_check_part, defScope s_check_part, [], [("has_uses", .bl false)]⟩) rfl,
    He.glo_ok X G (c.fact 5 (f := .glo "check_formula") rfl),
    c.def_ 5 (d := dd "check_formula" s_check_formula) rfl,
    He.glo_ok X G (c.fact 6 (f := .glo "is_atom") rfl),
    c.def_ 6 (d := dd "is_atom" s_is_atom) rfl,
    He.glo_ok X G (c.fact 7 (f := .glo "atoms_of") rfl),
    c.def_ 7 (d := dd "atoms_of" s_atoms_of) rfl,
    He.glo_ok X G (c.fact 8 (f := .glo "copy_of") rfl),
    c.def_ 8 (d := dd "copy_of" s_copy_of) rfl,
    He.glo_ok X G (c.fact 9 (f := .glo "depth_of") rfl),
    c.def_ 9 (d := dd "depth_of" s_depth_of) rfl,
    He.glo_ok X G (c.fact 10 (f := .glo "size_of") rfl),
    c.def_ 10 (d := dd "size_of" s_size_of) rfl,
    He.glo_ok X G (c.fact 11 (f := .glo "is_name") rfl),
    c.def_ 11 (d := dd "is_name" s_is_name) rfl,
    He.glo_ok X G (c.fact 12 (f := .glo "leaves_of") rfl),
    c.def_ 12 (d := dd "leaves_of" s_leaves_of) rfl,
    He.glo_ok X G (c.fact 13 (f := .glo "used_in") rfl),
    c.def_ 13 (d := dd "used_in" s_used_in) rfl,
    He.glo_ok X G (c.fact 14 (f := .glo "filled") rfl),
    c.def_ 14 (d := dd "filled" s_filled) rfl,
    He.glo_ok X G (c.fact 15 (f := .glo "copy_condition") rfl),
    c.def_ 15 (d := dd "copy_condition" s_copy_condition) rfl,
    He.glo_ok X G (c.fact 16 (f := .glo "check_condition") rfl),
    c.def_ 16 (d := dd "check_condition" s_check_condition) rfl,
    He.glo_ok X G (c.fact 17 (f := .glo "condition_in") rfl),
    c.def_ 17 (d := dd "condition_in" s_condition_in) rfl,
    He.glo_ok X G (c.fact 18 (f := .glo "whole_in") rfl),
    c.def_ 18 (d := dd "whole_in" s_whole_in) rfl,
    He.glo_ok X G (c.fact 19 (f := .glo "leads_to") rfl),
    c.def_ 19 (d := dd "leads_to" s_leads_to) rfl,
    He.glo_ok X G (c.fact 20 (f := .glo "put_in") rfl),
    c.def_ 20 (d := dd "put_in" s_put_in) rfl,
    He.glo_ok X G (c.fact 21 (f := .glo "_law_draws") rfl),
    c.def_ 21 (d := dd "_law_draws" s__law_draws) rfl,
    He.glo_ok X G (c.fact 22 (f := .glo "_law_take") rfl),
    c.def_ 22 (d := dd "_law_take" s__law_take) rfl,
    He.glo_ok X G (c.fact 23 (f := .glo "_law_names") rfl),
    c.def_ 23 (d := dd "_law_names" s__law_names) rfl,
    He.glo_ok X G (c.fact 24 (f := .glo "_law_atom") rfl),
    c.def_ 24 (d := dd "_law_atom" s__law_atom) rfl,
    He.glo_ok X G (c.fact 25 (f := .glo "_law_condition") rfl),
    c.def_ 25 (d := dd "_law_condition" s__law_condition) rfl,
    He.glo_ok X G (c.fact 26 (f := .glo "_law_leaves") rfl),
    c.def_ 26 (d := dd "_law_leaves" s__law_leaves) rfl,
    He.glo_ok X G (c.fact 27 (f := .glo "_law_used") rfl),
    c.def_ 27 (d := dd "_law_used" s__law_used) rfl,
    He.glo_ok X G (c.fact 28 (f := .glo "_law_depth") rfl),
    c.def_ 28 (d := dd "_law_depth" s__law_depth) rfl,
    He.glo_ok X G (c.fact 29 (f := .glo "_law_found") rfl),
    c.def_ 29 (d := dd "_law_found" s__law_found) rfl,
    He.glo_ok X G (c.fact 30 (f := .glo "_law_filled") rfl),
    c.def_ 30 (d := dd "_law_filled" s__law_filled) rfl,
    He.glo_ok X G (c.fact 31 (f := .glo "_law_whole") rfl),
    c.def_ 31 (d := dd "_law_whole" s__law_whole) rfl,
    He.glo_ok X G (c.fact 32 (f := .glo "_law_reached") rfl),
    c.def_ 32 (d := dd "_law_reached" s__law_reached) rfl,
    He.glo_ok X G (c.fact 33 (f := .glo "_law_sizes_due") rfl),
    c.def_ 33 (d := dd "_law_sizes_due" s__law_sizes_due) rfl,
    He.glo_ok X G (c.fact 34 (f := .glo "_law_put") rfl),
    c.def_ 34 (d := dd "_law_put" s__law_put) rfl,
    He.glo_ok X G (c.fact 35 (f := .glo "_law_behind") rfl),
    c.def_ 35 (d := dd "_law_behind" s__law_behind) rfl,
    He.glo_ok X G (c.fact 36 (f := .glo "_law_deed") rfl),
    c.def_ 36 (d := dd "_law_deed" s__law_deed) rfl,
    He.glo_ok X G (c.fact 37 (f := .glo "_law_class") rfl),
    c.def_ 37 (d := dd "_law_class" s__law_class) rfl,
    He.glo_ok X G (c.fact 38 (f := .glo "_law_do") rfl),
    c.def_ 38 (d := dd "_law_do" s__law_do) rfl,
    He.glo_ok X G (c.fact 39 (f := .glo "_law_same") rfl),
    c.def_ 39 (d := dd "_law_same" s__law_same) rfl,
    He.glo_ok X G (c.fact 40 (f := .glo "_law_shows") rfl),
    c.def_ 40 (d := dd "_law_shows" s__law_shows) rfl,
    He.glo_ok X G (c.fact 41 (f := .glo "_law_long") rfl),
    c.def_ 41 (d := dd "_law_long" s__law_long) rfl,
    He.glo_ok X G (c.fact 42 (f := .glo "law") rfl),
    c.def_ 42 (d := dd "law" s_law) rfl,
    He.meth_ok (c.fact 79 (f := .meth "Sheet" "__init__") rfl),
    c.def_ 43 (d := dm "__init__" "Sheet.__init__" m_init) rfl,
    He.meth_ok (c.fact 80 (f := .meth "Sheet" "_pairs") rfl),
    c.def_ 44 (d := dm "_pairs" "Sheet._pairs" m_pairs) rfl,
    He.meth_ok (c.fact 81 (f := .meth "Sheet" "_condition_of") rfl),
    c.def_ 45 (d := dm "_condition_of" "Sheet._condition_of" m_condition_of) rfl,
    He.meth_ok (c.fact 82 (f := .meth "Sheet" "_enter") rfl),
    c.def_ 46 (d := dm "_enter" "Sheet._enter" m_enter) rfl,
    He.meth_ok (c.fact 83 (f := .meth "Sheet" "put") rfl),
    c.def_ 47 (d := dm "put" "Sheet.put" m_put) rfl,
    He.meth_ok (c.fact 84 (f := .meth "Sheet" "remove") rfl),
    c.def_ 48 (d := dm "remove" "Sheet.remove" m_remove) rfl,
    He.meth_ok (c.fact 85 (f := .meth "Sheet" "rename") rfl),
    c.def_ 49 (d := dm "rename" "Sheet.rename" m_rename) rfl,
    He.meth_ok (c.fact 86 (f := .meth "Sheet" "names") rfl),
    c.def_ 50 (d := dm "names" "Sheet.names" m_names) rfl,
    He.meth_ok (c.fact 87 (f := .meth "Sheet" "condition") rfl),
    c.def_ 51 (d := dm "condition" "Sheet.condition" m_condition) rfl,
    He.meth_ok (c.fact 88 (f := .meth "Sheet" "whole") rfl),
    c.def_ 52 (d := dm "whole" "Sheet.whole" m_whole) rfl,
    He.meth_ok (c.fact 89 (f := .meth "Sheet" "users") rfl),
    c.def_ 53 (d := dm "users" "Sheet.users" m_users) rfl,
    He.meth_ok (c.fact 90 (f := .meth "Sheet" "__len__") rfl),
    c.def_ 54 (d := dm "__len__" "Sheet.__len__" m_len) rfl,
    He.meth_ok (c.fact 91 (f := .meth "Sheet" "__contains__") rfl),
    c.def_ 55 (d := dm "__contains__" "Sheet.__contains__" m_contains) rfl,
    He.glo_ok X G (c.fact 43 (f := .glo "WhereError") rfl),
    He.glo_ok X G (c.fact 44 (f := .glo "BadSize") rfl),
    He.glo_ok X G (c.fact 45 (f := .glo "BadNumber") rfl),
    He.glo_ok X G (c.fact 46 (f := .glo "BadForm") rfl),
    He.glo_ok X G (c.fact 47 (f := .glo "BadSign") rfl),
    He.glo_ok X G (c.fact 48 (f := .glo "TooDeep") rfl),
    He.glo_ok X G (c.fact 49 (f := .glo "BadName") rfl),
    He.glo_ok X G (c.fact 50 (f := .glo "UnknownName") rfl),
    He.glo_ok X G (c.fact 51 (f := .glo "Circle") rfl),
    He.glo_ok X G (c.fact 52 (f := .glo "InUse") rfl),
    He.glo_ok X G (c.fact 53 (f := .glo "Sheet") rfl),
    He.glo_ok X G (c.fact 54 (f := .glo "LENGTHS") rfl),
    He.glo_ok X G (c.fact 55 (f := .glo "OPPOSITE") rfl),
    He.glo_ok X G (c.fact 56 (f := .glo "ROW_SIGNS") rfl),
    He.free_ok X G (c.fact 57 (f := .free "len") rfl),
    He.free_ok X G (c.fact 58 (f := .free "isinstance") rfl),
    He.free_ok X G (c.fact 59 (f := .free "int") rfl),
    He.free_ok X G (c.fact 60 (f := .free "str") rfl),
    He.free_ok X G (c.fact 61 (f := .free "bool") rfl),
    He.free_ok X G (c.fact 62 (f := .free "list") rfl),
    He.free_ok X G (c.fact 63 (f := .free "tuple") rfl),
    He.free_ok X G (c.fact 64 (f := .free "range") rfl),
    He.free_ok X G (c.fact 65 (f := .free "any") rfl),
    He.free_ok X G (c.fact 66 (f := .free "all") rfl),
    He.free_ok X G (c.fact 67 (f := .free "max") rfl),
    He.free_ok X G (c.fact 68 (f := .free "super") rfl),
    He.int_ok X G (c.fact 69 (f := .int "DEEPEST" 6) rfl),
    He.int_ok X G (c.fact 70 (f := .int "MOST_SIGNS" 6) rfl),
    He.int_ok X G (c.fact 71 (f := .int "MOST_BLOCKS" 3) rfl),
    He.str_ok X G (c.fact 72 (f := .str "LETTERS" "abcdefghijklmnopqrstuvwxyz") rfl),
    He.str_ok X G (c.fact 73 (f := .str "DIGITS" "0123456789") rfl),
    He.cls_ok (c.fact 74 (f := .cls "Sheet") rfl),
    He.mkr_ok (c.fact 75 (f := .mkr "Sheet") rfl),
    He.noat_ok (c.fact 76 (f := .noat "Sheet" "_states") rfl),
    He.noat_ok (c.fact 77 (f := .noat "Sheet" "_now") rfl),
    He.noat_ok (c.fact 78 (f := .noat "Sheet" "_entries") rfl),
    t.tab 0 rfl,
    t.tab 1 rfl,
    v1,
    v2,
    v3⟩

theorem aux_of {P : Program} (hf : P.main.file = "/claim/cut.py") (htop : (P.main.scope.names.lookup ("super" : Str)).isSome = false) (y : SaysY fa fn ts ex exc6 w K) : Aux P K := by
  obtain ⟨_, v⟩ := He.ba y.more
  obtain ⟨v, _⟩ := He.ba v
  obtain ⟨v1, _⟩ := He.ba v
  have b6 : ∀ (i : Nat) {q : Str × Stmt}, exc6[i]? = some q → eB K "/claim/cut.py" q.1 = true := fun i q hq => List.all_eq_true.mp v1 q (List.mem_of_getElem? hq)
  have e6 : ∀ (i : Nat) {q : Str × Stmt}, exc6[i]? = some q → eW K q.1 = eVal q := fun i q hq => by
    have e2 : (exc6.map fun q => eW K q.1)[i]? = (exc6.map eVal)[i]? := by rw [y.e]
    rw [List.getElem?_map, List.getElem?_map, hq] at e2
    exact Option.some.inj e2
  exact ⟨eB_ok (st := inClass (top 3) 0) (e6 1 rfl) hf (b6 1 rfl) ⟨_, _, _, _, _, _, _, _, _, rfl, rfl, rfl, rfl⟩, eB_ok (st := inClass (top 7) 0) (e6 0 rfl) hf (b6 0 rfl) ⟨_, _, _, _, _, _, _, _, _, rfl, rfl, rfl, rfl⟩, eB_ok (st := inClass (top 8) 0) (e6 5 rfl) hf (b6 5 rfl) ⟨_, _, _, _, _, _, _, _, _, rfl, rfl, rfl, rfl⟩, eB_ok (st := inClass (top 9) 0) (e6 2 rfl) hf (b6 2 rfl) ⟨_, _, _, _, _, _, _, _, _, rfl, rfl, rfl, rfl⟩, eB_ok (st := inClass (top 10) 0) (e6 3 rfl) hf (b6 3 rfl) ⟨_, _, _, _, _, _, _, _, _, rfl, rfl, rfl, rfl⟩, eB_ok (st := inClass (top 11) 0) (e6 4 rfl) hf (b6 4 rfl) ⟨_, _, _, _, _, _, _, _, _, rfl, rfl, rfl, rfl⟩, htop⟩
theorem aux2_of (y : SaysY fa fn ts ex exc6 w K) : Aux2 K := by
  obtain ⟨_, v⟩ := He.ba y.more
  obtain ⟨v, u⟩ := He.ba v
  obtain ⟨_, v2⟩ := He.ba v
  obtain ⟨u1, u2⟩ := He.ba u
  refine ⟨fun e => xB_ok (List.all_eq_true.mp v2 e (errs_all e)), fun e e' => ?_, fun e => ?_⟩
  · exact of_decide_eq_true (List.all_eq_true.mp (List.all_eq_true.mp u1 e (errs_all e)) e' (errs_all e'))
  · exact of_decide_eq_true (List.all_eq_true.mp u2 e (errs_all e))
end
theorem walk_ofW {l : PySem.W.OpenLaw} {n k : Nat} {q : Program} {loose : List Str} {XP : (Str → Option Value) → Heap → Prop} {YP : World → Heap → Prop} {d : DefRec} {CX : World → CXT} {x : Str}
    (hn : l.most = some n) (hn2 : n ≤ sizeLine) (hdf : d.params.defaults = []) (hr : Room k callerA)
    (F : ∀ (w : World) (mg : Str → Option Value) (fa : Addr) (h : Heap), YP w h → h.Ns mainGlobals mg → mg d.name = some (.ref fa) →
      ∃ (K : PySem.W.Frag) (fd : FuncData) (sp : Sp), K.In h ∧ (∀ (s : Shared) (u : Value), BindsTo s fd ⟨[u], []⟩ [(x, u)]) ∧
        (∀ (H : Hp) (a : Addr) (ns : List Int), ns.length ≤ n → Only H → SqL K H a (ns.map V.int) → sp [.ref a] H (fun v _ => v = .bl true) fun _ _ _ => False) ∧
        ∀ base : Heap, K.In base → base.Ns mainGlobals mg → FnOk l.prog w K mg base (CX w) k fa fd [x] sp)
    (hCX : ∀ (w : World) (H : Hp) (s : Shared) (e : Value) (s' : Shared), CX w [] H s (fun _ _ _ => False) e s' → False) :
    PySem.W.WalkO q loose XP YP l.row.toRowW d [] (fun f vs => PySem.call f vs) := by
  refine Att.attach_call hn hdf fun w s₀ s₁ mg mb fa o pm cd doc a vs ns G Y ho hd hcd hmg hobj hints hlen hg => ?_
  obtain ⟨K, fd, sp, KX, hb, hsp, hF⟩ := F w mg fa _ Y G.T.g hmg
  exact law_call KX G.T.g G.T.b G.T.builtins G.T.nolimit hg hobj hints (Nat.le_trans hlen hn2) hr hF hb (fun H hO hS => hsp H a ns hlen hO hS) fun H e s' => hCX w H s₁ e s'
end Sh
open PySem PySem.W PySem.Calls PyProof.Rows

theorem PySem.Challenge.cw_wheretrue_k83_whole_walks_of_a_sheet_holds : PySem.Challenge.rw_wheretrue_k83_whole_walks_of_a_sheet.Holds := by
  w_on; o_law
  refine HandSHeadRun.head_any (r := OpenLaw.row PySem.Challenge.rw_wheretrue_k83_whole_walks_of_a_sheet) (q := view (OpenLaw.row PySem.Challenge.rw_wheretrue_k83_whole_walks_of_a_sheet).prog [68]) (H := Sh.hk) (ob := Sh.ob) (M := 20000) (loose := Sh.nm) (d := HandSHeadRun.topDef (OpenLaw.row PySem.Challenge.rw_wheretrue_k83_whole_walks_of_a_sheet).prog 68) (kwd := []) Sh.ob_eq
    (by kernel_rfl) (fun s => by kernel_rfl) Sh.run (by kernel_rfl) (by kernel_rfl) (by kernel_rfl) (by rfl) (by first | assumption | decide +kernel) (by decide +kernel) ⟨rfl, rfl, rfl, rfl, rfl, by decide +kernel⟩ ?hw ?hc
  case hw => w_witness2
  case hc =>
    refine Sh.walk_ofW (l := PySem.Challenge.rw_wheretrue_k83_whole_walks_of_a_sheet) (n := 63) (k := 40) (x := "_law_script") (CX := fun w => L2.CX (PySem.Challenge.rw_wheretrue_k83_whole_walks_of_a_sheet).prog w) rfl (by decide) (by kernel_rfl) ⟨rfl, by decide, by decide⟩ ?F ?X
    case X =>
      intro w H s e s' h
      obtain ⟨_, _, _, _, _, _, _, _, _, _, _, _, z⟩ := h
      exact z.elim
    intro w mg fa h Y G hmg0
    obtain ⟨K, KX, c⟩ := Y
    have hmg : mg ("law" : PySem.Str) = some (.ref fa) := by
      have e : (HandSHeadRun.topDef (OpenLaw.row PySem.Challenge.rw_wheretrue_k83_whole_walks_of_a_sheet).prog 68).name = ("law" : PySem.Str) := by kernel_rfl
      rw [← e]
      exact hmg0
    have T := Sh.txt_of KX G c
    have U := Sh.aux_of (P := (PySem.Challenge.rw_wheretrue_k83_whole_walks_of_a_sheet).prog) (by kernel_rfl) (by kernel_rfl) c
    have U2 := Sh.aux2_of c
    have e := hmg.symm.trans T.g_law
    cases e
    obtain ⟨fd, F⟩ := T.F_law
    have hb := L2.FunD.bindsA (ps := ["_law_script"]) F fun _ _ _ _ _ _ us hl => match us, hl with | [_], _ => rfl
    exact ⟨K, fd, Sh.spLaw K, KX, fun s u => hb s [u] rfl, fun H a ns hl _ hS => ⟨a, ns, rfl, hS, hl, fun _ => rfl⟩, fun base _ _ => Sh.ok_law T U U2 F⟩
