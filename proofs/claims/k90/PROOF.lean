import PyProof.Rows.All
import Wide.All
import OpenK.AllK
import Wide.FinOn
import HandS.ForMost
import HandS.Deep
import HandS.Conv
import HandS.Evl
import KE.KDictKeyed
import KE.KDictDisplayH
import KE.SortData
import HandS.IsInst
import HandS.TupAny
import HandS.Defaults
import KE.KStateDown
import Lean
import HandS.Exc
import PySem.Challenge.RW_tapeproof_k90_whole_never
import HandS.Head0
import HandS.Head1
import HandS.Head2
import HandS.HeadEnd
import HandS.HeadHook1
import HandS.HeadHook2
import HandS.HeadHook3
import HandS.HeadHook4
import HandS.Zip
import HandS.RevRange
import HandS.SortInts
import HandS.TupMul
section
set_option linter.all false
set_option autoImplicit false
/-! The plain law: machines, runs, papers; no program in sight. -/
namespace TP

/-- an entry: what is written, whether it goes right, the next state -/
structure Ent where
  w : Nat
  r : Bool
  n : Nat
  deriving DecidableEq
abbrev Tbl := List (List (Option Ent))
/-- a shot: the state, the place, the marks -/
structure Sh where
  st : Nat
  pl : Int
  mks : List (Int × Nat)
  deriving DecidableEq

def look : List (Int × Nat) → Int → Nat
  | [], _ => 0
  | (q, s) :: r, p => if q = p then s else look r p
def setM : List (Int × Nat) → Int → Nat → List (Int × Nat)
  | [], p, w => if w = 0 then [] else [(p, w)]
  | (q, s) :: r, p, w => if q < p then (q, s) :: setM r p w else if q = p then (if w = 0 then r else (p, w) :: r) else (if w = 0 then (q, s) :: r else (p, w) :: (q, s) :: r)
/-- marks rise strictly, none is a blank -/
def Srt : List (Int × Nat) → Prop
  | [] => True
  | (q, s) :: r => s ≠ 0 ∧ (∀ x ∈ r, q < x.1) ∧ Srt r

theorem look_out : ∀ {mk : List (Int × Nat)} {p : Int}, (∀ x ∈ mk, x.1 ≠ p) → look mk p = 0
  | [], _, _ => rfl
  | (q, s) :: r, p, h => by
    rw [look, if_neg (h (q, s) List.mem_cons_self)]
    exact look_out fun x hx => h x (List.mem_cons_of_mem _ hx)
theorem look_above {mk : List (Int × Nat)} {q p : Int} (h : ∀ x ∈ mk, q < x.1) (hp : p ≤ q) : look mk p = 0 := look_out fun x hx e => by have := h x hx; omega
theorem setM_mem : ∀ {mk : List (Int × Nat)} {p : Int} {w : Nat} {x : Int × Nat}, x ∈ setM mk p w → x ∈ mk ∨ x.1 = p
  | [], p, w, x, h => by
    unfold setM at h
    split at h
    · cases h
    · exact .inr (by rw [List.mem_singleton.mp h])
  | (q, s) :: r, p, w, x, h => by
    unfold setM at h
    split at h
    · rcases List.mem_cons.mp h with e | h
      · exact .inl (by rw [e]; exact List.mem_cons_self)
      · rcases setM_mem h with h | h
        · exact .inl (List.mem_cons_of_mem _ h)
        · exact .inr h
    · split at h
      · split at h
        · exact .inl (List.mem_cons_of_mem _ h)
        · rcases List.mem_cons.mp h with e | h
          · exact .inr (by rw [e])
          · exact .inl (List.mem_cons_of_mem _ h)
      · split at h
        · exact .inl h
        · rcases List.mem_cons.mp h with e | h
          · exact .inr (by rw [e])
          · exact .inl h
theorem setM_srt : ∀ {mk : List (Int × Nat)} {p : Int} {w : Nat}, Srt mk → Srt (setM mk p w)
  | [], p, w, _ => by
    unfold setM
    split
    · trivial
    · exact ⟨by assumption, fun x hx => (nomatch hx), trivial⟩
  | (q, s) :: r, p, w, h => by
    obtain ⟨h1, h2, h3⟩ := id h
    unfold setM
    split
    · refine ⟨h1, fun x hx => ?_, setM_srt h3⟩
      rcases setM_mem hx with hx | hx
      · exact h2 x hx
      · omega
    · split
      · split
        · exact h3
        · rename_i e _
          exact ⟨by assumption, fun x hx => by have := h2 x hx; omega, h3⟩
      · split
        · exact h
        · refine ⟨by assumption, fun x hx => ?_, h⟩
          rcases List.mem_cons.mp hx with e | hx
          · rw [e]; show p < q; omega
          · have := h2 x hx; omega
theorem look_setM : ∀ {mk : List (Int × Nat)} {p : Int} {w : Nat} (q : Int), Srt mk → look (setM mk p w) q = if p = q then w else look mk q
  | [], p, w, q, _ => by
    unfold setM
    split
    · rename_i e
      rw [e]; simp [look]
    · simp [look]
  | (a, s) :: r, p, w, q, h => by
    obtain ⟨h1, h2, h3⟩ := h
    unfold setM
    split
    · rename_i hap
      rw [look, look_setM q h3, look]
      split
      · rw [if_neg (by omega)]
      · rfl
    · split
      · rename_i hap
        split
        · rename_i hw
          rw [hw, look]
          by_cases e : p = q
          · rw [if_pos e]
            exact look_above h2 (by omega)
          · rw [if_neg e, if_neg (by omega)]
        · rw [look, look]
          by_cases e : p = q
          · rw [if_pos e, if_pos e]
          · rw [if_neg e, if_neg e, if_neg (by omega)]
      · split
        · rename_i hw
          rw [hw]
          by_cases e : p = q
          · rw [if_pos e, look, if_neg (by omega)]
            exact look_above h2 (by omega)
          · rw [if_neg e]
        · rw [look]
theorem look_nz : ∀ {mk : List (Int × Nat)} {p : Int}, Srt mk → (look mk p ≠ 0 ↔ p ∈ mk.map (·.1))
  | [], p, _ => by simp [look]
  | (a, s) :: r, p, h => by
    obtain ⟨h1, h2, h3⟩ := h
    have ih := look_nz (p := p) h3
    rw [look]
    by_cases e : a = p
    · rw [if_pos e]
      simp [h1, e]
    · rw [if_neg e, ih]
      simp only [List.map_cons, List.mem_cons]
      constructor
      · exact .inr
      · rintro (z | z)
        · exact absurd z.symm e
        · exact z
theorem srt_keys : ∀ {mk : List (Int × Nat)}, Srt mk → (mk.map (·.1)).Pairwise (· < ·)
  | [], _ => .nil
  | (a, s) :: r, h => by
    obtain ⟨h1, h2, h3⟩ := h
    rw [List.map_cons]
    refine .cons (fun x hx => ?_) (srt_keys h3)
    obtain ⟨y, hy, e⟩ := List.mem_map.mp hx
    rw [← e]; exact h2 y hy
theorem look_self : ∀ {mk : List (Int × Nat)}, Srt mk → ∀ x ∈ mk, look mk x.1 = x.2
  | [], _, x, hx => by cases hx
  | (a, s) :: r, h, x, hx => by
    obtain ⟨h1, h2, h3⟩ := h
    rcases List.mem_cons.mp hx with e | hx
    · rw [e, look, if_pos rfl]
    · rw [look, if_neg (by have := h2 x hx; omega)]
      exact look_self h3 x hx
/-- marks are their places with what stands there -/
theorem mk_of_keys : ∀ {mk : List (Int × Nat)}, Srt mk → (mk.map (·.1)).map (fun p => (p, look mk p)) = mk := fun {mk} h => by
  rw [List.map_map]
  have : ∀ l : List (Int × Nat), (∀ x ∈ l, look mk x.1 = x.2) → l.map ((fun p => (p, look mk p)) ∘ (·.1)) = l := by
    intro l
    induction l with
    | nil => intro _; rfl
    | cons x l ih =>
      intro hl
      rw [List.map_cons, ih fun y hy => hl y (List.mem_cons_of_mem _ hy)]
      show (x.1, look mk x.1) :: l = x :: l
      rw [hl x List.mem_cons_self]
  exact this mk (look_self h)
theorem strict_ext : ∀ {l l' : List Int}, l.Pairwise (· < ·) → l'.Pairwise (· < ·) → (∀ x, x ∈ l ↔ x ∈ l') → l = l'
  | [], [], _, _, _ => rfl
  | [], y :: l', _, _, h => by have := (h y).mpr List.mem_cons_self; cases this
  | x :: l, [], _, _, h => by have := (h x).mp List.mem_cons_self; cases this
  | x :: l, y :: l', h1, h2, h => by
    have a1 := List.pairwise_cons.mp h1
    have a2 := List.pairwise_cons.mp h2
    have e : x = y := by
      have hx := (h x).mp List.mem_cons_self
      have hy := (h y).mpr List.mem_cons_self
      rcases List.mem_cons.mp hx with e | hx
      · exact e
      · rcases List.mem_cons.mp hy with e | hy
        · exact e.symm
        · have := a2.1 x hx; have := a1.1 y hy; omega
    subst e
    rw [strict_ext a1.2 a2.2 fun z => ?_]
    constructor
    · intro hz
      rcases List.mem_cons.mp ((h z).mp (List.mem_cons_of_mem _ hz)) with e | hz'
      · have := a1.1 z hz; omega
      · exact hz'
    · intro hz
      rcases List.mem_cons.mp ((h z).mpr (List.mem_cons_of_mem _ hz)) with e | hz'
      · have := a2.1 z hz; omega
      · exact hz'
/-- the sorted keys of a table that stands for the marks -/
theorem keys_sorted {mk : List (Int × Nat)} {ks ks' : List Int} (h : Srt mk) (nd : ks.Nodup) (hm : ∀ p, p ∈ ks ↔ look mk p ≠ 0) (hp : ks'.Perm ks) (hs : ks'.Pairwise (· ≤ ·)) : ks' = mk.map (·.1) := by
  have nd' : ks'.Nodup := hp.nodup_iff.mpr nd
  refine strict_ext ?_ (srt_keys h) fun x => ?_
  · refine (hs.and nd').imp ?_
    rintro a b ⟨h1, h2⟩
    have h2 : a ≠ b := h2
    omega
  · rw [hp.mem_iff, hm, look_nz h]

/-! ### runs -/
def entry (T : Tbl) (q s : Nat) : Option Ent := ((T[q]?).bind (·[s]?)).join
def step (T : Tbl) (s : Sh) : Option Sh := (entry T s.st (look s.mks s.pl)).map fun e => ⟨e.n, if e.r then s.pl + 1 else s.pl - 1, setM s.mks s.pl e.w⟩
def first : Sh := ⟨0, 0, []⟩
/-- the shot behind so many steps, or as many as are done; how many -/
def go (T : Tbl) : Nat → Sh → Sh × Nat
  | 0, s => (s, 0)
  | n + 1, s => match step T s with
    | none => (s, 0)
    | some s' => ((go T n s').1, (go T n s').2 + 1)
/-- the shot behind just so many steps -/
def runF (T : Tbl) (s : Sh) : Nat → Option Sh
  | 0 => some s
  | n + 1 => (runF T s n).bind (step T)
abbrev runs (T : Tbl) : Nat → Option Sh := runF T first
/-- the shots from the first on -/
def tr (T : Tbl) : Nat → Sh → List Sh
  | 0, s => [s]
  | n + 1, s => s :: match step T s with
    | none => []
    | some s' => tr T n s'
theorem runF_add (T : Tbl) (s : Sh) (a : Nat) : ∀ b, runF T s (a + b) = (runF T s a).bind fun t => runF T t b
  | 0 => by
    show runF T s a = _
    cases runF T s a <;> rfl
  | b + 1 => by
    show (runF T s (a + b)).bind (step T) = _
    rw [runF_add T s a b]
    cases runF T s a <;> rfl
theorem runF_succ' (T : Tbl) (s : Sh) (n : Nat) : runF T s (n + 1) = (step T s).bind fun t => runF T t n := by
  rw [Nat.add_comm, runF_add]
  show ((some s).bind (step T)).bind _ = _
  rfl
theorem runF_le {T : Tbl} {s t : Sh} {n m : Nat} (h : runF T s n = some t) (hm : m ≤ n) : ∃ u, runF T s m = some u := by
  obtain ⟨d, rfl⟩ := Nat.exists_eq_add_of_le hm
  rw [runF_add] at h
  cases e : runF T s m with
  | none => rw [e] at h; cases h
  | some u => exact ⟨u, rfl⟩
theorem go_of_run (T : Tbl) : ∀ (n : Nat) (s t : Sh), runF T s n = some t → go T n s = (t, n)
  | 0, s, t, h => by
    have h : some s = some t := h
    cases h; rfl
  | n + 1, s, t, h => by
    rw [runF_succ'] at h
    unfold go
    cases e : step T s with
    | none => rw [e] at h; cases h
    | some u =>
      rw [e] at h
      have ih := go_of_run T n u t h
      simp only [ih]
theorem go_le (T : Tbl) : ∀ (n : Nat) (s : Sh), (go T n s).2 ≤ n
  | 0, s => Nat.le_refl _
  | n + 1, s => by
    unfold go
    cases e : step T s with
    | none => exact Nat.zero_le _
    | some u =>
      have := go_le T n u
      simp only
      omega
/-- what go tells is a run, and where it is short the machine stops there -/
theorem go_run (T : Tbl) : ∀ (n : Nat) (s : Sh), runF T s (go T n s).2 = some (go T n s).1 ∧ ((go T n s).2 < n → step T (go T n s).1 = none)
  | 0, s => ⟨rfl, fun h => absurd h (Nat.not_lt_zero _)⟩
  | n + 1, s => by
    unfold go
    cases e : step T s with
    | none => exact ⟨rfl, fun _ => e⟩
    | some u =>
      have ih := go_run T n u
      simp only
      refine ⟨?_, fun h => ih.2 (by omega)⟩
      rw [runF_succ', e]
      exact ih.1
theorem go_full {T : Tbl} {n : Nat} {s : Sh} (h : (go T n s).2 = n) : runF T s n = some (go T n s).1 := by
  have := (go_run T n s).1
  rw [h] at this
  exact this
theorem go_none {T : Tbl} {n : Nat} {s : Sh} (e : step T s = none) : go T (n + 1) s = (s, 0) := by unfold go; rw [e]
theorem go_some {T : Tbl} {n : Nat} {s u : Sh} (e : step T s = some u) : go T (n + 1) s = ((go T n u).1, (go T n u).2 + 1) := by rw [go, e]
theorem tr_none {T : Tbl} {n : Nat} {s : Sh} (e : step T s = none) : tr T (n + 1) s = [s] := by unfold tr; rw [e]
theorem tr_some {T : Tbl} {n : Nat} {s u : Sh} (e : step T s = some u) : tr T (n + 1) s = s :: tr T n u := by rw [tr, e]
/-- one more step of go -/
theorem go_snoc (T : Tbl) : ∀ (n : Nat) (s : Sh), go T (n + 1) s = if (go T n s).2 = n then (match step T (go T n s).1 with | none => go T n s | some u => (u, n + 1)) else go T n s
  | 0, s => by
    simp only [go]
    cases step T s <;> rfl
  | n + 1, s => by
    cases e : step T s with
    | none =>
      rw [go_none e, go_none e, if_neg (by simp)]
    | some u =>
      rw [go_some e, go_some e, go_snoc T n u]
      by_cases h : (go T n u).2 = n
      · rw [if_pos h, if_pos (by simp [h])]
        cases e2 : step T (go T n u).1 <;> simp
      · rw [if_neg h, if_neg (by simp [h])]
theorem tr_len (T : Tbl) : ∀ (n : Nat) (s : Sh), (tr T n s).length = (go T n s).2 + 1
  | 0, s => rfl
  | n + 1, s => by
    unfold tr go
    cases e : step T s with
    | none => rfl
    | some u => simp only [List.length_cons, tr_len T n u]
theorem tr_get (T : Tbl) : ∀ (n : Nat) (s : Sh) (i : Nat), i < (tr T n s).length → (tr T n s)[i]? = runF T s i
  | 0, s, i, h => by
    have : i = 0 := by simp [tr] at h; exact h
    subst this; rfl
  | n + 1, s, 0, h => by
    unfold tr; rfl
  | n + 1, s, i + 1, h => by
    unfold tr at h ⊢
    rw [runF_succ']
    cases e : step T s with
    | none => rw [e] at h; simp at h
    | some u =>
      rw [e] at h
      simp only [List.length_cons] at h
      simp only [List.getElem?_cons_succ, Option.bind_some]
      exact tr_get T n u i (by omega)
theorem tr_snoc (T : Tbl) : ∀ (n : Nat) (s : Sh), tr T (n + 1) s = tr T n s ++ (if (go T n s).2 = n then (match step T (go T n s).1 with | none => [] | some u => [u]) else [])
  | 0, s => by
    simp only [tr, go]
    cases step T s <;> rfl
  | n + 1, s => by
    cases e : step T s with
    | none =>
      rw [tr_none e, tr_none e, go_none e, if_neg (by simp)]
      rfl
    | some u =>
      rw [tr_some e, tr_some e, go_some e, tr_snoc T n u]
      by_cases h : (go T n u).2 = n
      · rw [if_pos h, if_pos (by simp [h])]
        rfl
      · rw [if_neg h, if_neg (by simp [h])]
        rfl

theorem step_srt {T : Tbl} {s t : Sh} (hs : Srt s.mks) (h : step T s = some t) : Srt t.mks := by
  unfold step at h
  cases e : entry T s.st (look s.mks s.pl) with
  | none => rw [e] at h; cases h
  | some en =>
    rw [e] at h
    have h := Option.some.inj h
    subst h
    exact setM_srt hs
theorem runF_srt {T : Tbl} {s : Sh} (hs : Srt s.mks) : ∀ {n : Nat} {t : Sh}, runF T s n = some t → Srt t.mks
  | 0, t, h => by
    have h : some s = some t := h
    cases h; exact hs
  | n + 1, t, h => by
    have h : (runF T s n).bind (step T) = some t := h
    cases e : runF T s n with
    | none => rw [e] at h; cases h
    | some u => rw [e] at h; exact step_srt (runF_srt hs e) h
theorem runs_srt {T : Tbl} {n : Nat} {t : Sh} (h : runs T n = some t) : Srt t.mks := runF_srt (s := first) trivial h
theorem setM_len : ∀ (mk : List (Int × Nat)) (p : Int) (w : Nat), (setM mk p w).length ≤ mk.length + 1
  | [], p, w => by unfold setM; split <;> simp
  | (q, s) :: r, p, w => by
    unfold setM
    have := setM_len r p w
    split
    · simp only [List.length_cons]; omega
    · split <;> split <;> simp only [List.length_cons] <;> omega
theorem step_len {T : Tbl} {s t : Sh} (h : step T s = some t) : t.mks.length ≤ s.mks.length + 1 := by
  unfold step at h
  cases e : entry T s.st (look s.mks s.pl) with
  | none => rw [e] at h; cases h
  | some en =>
    rw [e] at h
    have h := Option.some.inj h
    subst h
    exact setM_len _ _ _
theorem runs_len {T : Tbl} : ∀ {n : Nat} {t : Sh}, runs T n = some t → t.mks.length ≤ n
  | 0, t, h => by
    have h : some first = some t := h
    cases h; exact Nat.le_refl _
  | n + 1, t, h => by
    have h : (runF T first n).bind (step T) = some t := h
    cases e : runF T first n with
    | none => rw [e] at h; cases h
    | some u =>
      rw [e] at h
      have h1 := runs_len (n := n) e
      have h2 := step_len h
      omega

/-! ### coming round -/
theorem same_shift {T : Tbl} {f l : Nat} {s : Sh} (h1 : runs T f = some s) (h2 : runs T l = some s) (k : Nat) : runs T (f + k) = runs T (l + k) := by
  show runF T first (f + k) = runF T first (l + k)
  rw [runF_add, runF_add]
  show (runs T f).bind _ = (runs T l).bind _
  rw [h1, h2]
theorem same_never {T : Tbl} {f l : Nat} {s : Sh} (h1 : runs T f = some s) (h2 : runs T l = some s) (hl : f < l) : ∀ n, ∃ t, runs T n = some t := by
  intro n
  induction n using Nat.strongRecOn with
  | ind n ih =>
    by_cases h : n ≤ l
    · exact runF_le h2 h
    · obtain ⟨d, rfl⟩ := Nat.exists_eq_add_of_le (show l ≤ n by omega)
      rw [← same_shift h1 h2]
      exact ih (f + d) (by omega)

/-! ### coming round elsewhere -/
def cellsFrom (s : Sh) (edge way : Int) : List (Int × Nat) := (s.mks.filter fun a => decide (0 ≤ (a.1 - s.pl - edge) * way)).map fun a => (a.1 - s.pl, a.2)
def isShifted (a b : Sh) (low high : Int) : Bool :=
  if a.st ≠ b.st ∨ a.pl = b.pl then false
  else if a.pl < b.pl then decide (cellsFrom a (-low) 1 = cellsFrom b (-low) 1)
  else decide (cellsFrom a high (-1) = cellsFrom b high (-1))
theorem look_cells : ∀ (mk : List (Int × Nat)) (pl edge way y : Int), look ((mk.filter fun a => decide (0 ≤ (a.1 - pl - edge) * way)).map fun a => (a.1 - pl, a.2)) y = if 0 ≤ (y - edge) * way then look mk (y + pl) else 0
  | [], pl, edge, way, y => by simp [look]
  | (q, s) :: r, pl, edge, way, y => by
    have ih := look_cells r pl edge way y
    rw [List.filter_cons]
    by_cases hq : q - pl = y
    · have e : q = y + pl := by omega
      subst e
      have e2 : y + pl - pl = y := by omega
      simp only [e2]
      by_cases hc : 0 ≤ (y - edge) * way
      · rw [if_pos (by simpa using hc), if_pos hc, List.map_cons, look, look]
        simp [e2]
      · rw [if_neg (by simpa using hc), ih, if_neg hc, if_neg hc]
    · have hq2 : ¬ q = y + pl := by omega
      by_cases hc : 0 ≤ (q - pl - edge) * way
      · rw [if_pos (by simpa using hc), List.map_cons, look, if_neg hq, ih, look, if_neg hq2]
      · rw [if_neg (by simpa using hc), ih, look, if_neg hq2]

/-- one row is the other, shifted by dr, in the region R of the first one's places -/
structure Sim (R : Int → Prop) (dr : Int) (s t : Sh) : Prop where
  st : s.st = t.st
  pl : t.pl = s.pl + dr
  row : ∀ x, R x → look t.mks (x + dr) = look s.mks x
theorem Sim.step {T : Tbl} {R : Int → Prop} {dr : Int} {s t s' : Sh} (hs : Srt s.mks) (ht : Srt t.mks) (m : Sim R dr s t) (hR : R s.pl) (h : step T s = some s') : ∃ t', TP.step T t = some t' ∧ Sim R dr s' t' := by
  unfold TP.step at h ⊢
  have e1 : look t.mks t.pl = look s.mks s.pl := by rw [m.pl]; exact m.row _ hR
  rw [← m.st, e1]
  cases e : entry T s.st (look s.mks s.pl) with
  | none => rw [e] at h; cases h
  | some en =>
    rw [e] at h
    have h := Option.some.inj h
    subst h
    refine ⟨_, rfl, rfl, ?_, fun x hx => ?_⟩
    · show (if en.r = true then t.pl + 1 else t.pl - 1) = (if en.r = true then s.pl + 1 else s.pl - 1) + dr
      rw [m.pl]
      split <;> omega
    · show look (setM t.mks t.pl en.w) (x + dr) = look (setM s.mks s.pl en.w) x
      rw [look_setM _ ht, look_setM _ hs, m.pl, m.row x hx]
      by_cases e : s.pl = x
      · rw [if_pos e, if_pos (by omega)]
      · rw [if_neg e, if_neg (by omega)]
theorem shift_all {T : Tbl} {R : Int → Prop} {dr : Int} {f l : Nat} {a b : Sh} (hf : runs T f = some a) (hl : runs T l = some b) (lt : f < l) (m : Sim R dr a b) (up : ∀ x, R x → R (x + dr))
    (hin : ∀ j u, f ≤ j → j ≤ l → runs T j = some u → R u.pl) :
    ∀ k, ∃ s t, runs T (f + k) = some s ∧ runs T (l + k) = some t ∧ Sim R dr s t ∧ R s.pl := by
  intro k
  induction k using Nat.strongRecOn with
  | ind k ih =>
    cases k with
    | zero => exact ⟨a, b, hf, hl, m, hin f a (Nat.le_refl _) (by omega) hf⟩
    | succ k =>
      obtain ⟨s, t, h1, h2, m1, r1⟩ := ih k (Nat.lt_succ_self _)
      obtain ⟨s', hs'⟩ : ∃ s', runs T (f + (k + 1)) = some s' := by
        by_cases h : f + (k + 1) ≤ l
        · exact runF_le hl h
        · obtain ⟨d, hd⟩ := Nat.exists_eq_add_of_le (show l ≤ f + (k + 1) by omega)
          obtain ⟨_, t2, _, q, _, _⟩ := ih d (by omega)
          exact ⟨t2, by rw [hd]; exact q⟩
      have rs : R s'.pl := by
        by_cases h : f + (k + 1) ≤ l
        · exact hin _ _ (by omega) h hs'
        · obtain ⟨d, hd⟩ := Nat.exists_eq_add_of_le (show l ≤ f + (k + 1) by omega)
          obtain ⟨s2, t2, _, q, m2, r2⟩ := ih d (by omega)
          rw [hd] at hs'
          have e : some t2 = some s' := q.symm.trans hs'
          cases e
          rw [m2.pl]
          exact up _ r2
      have st : step T s = some s' := by
        have q : (runF T first (f + k)).bind (step T) = some s' := hs'
        have h1' : runF T first (f + k) = some s := h1
        rw [h1'] at q
        exact q
      obtain ⟨t', ht', m'⟩ := m1.step (runs_srt h1) (runs_srt h2) r1 st
      refine ⟨s', t', hs', ?_, m', rs⟩
      show (runF T first (l + k)).bind (step T) = some t'
      have h2' : runF T first (l + k) = some t := h2
      rw [h2']
      exact ht'

/-- low is how far to the left of its place at f the machine comes up to l -/
def IsLow (ps : Nat → Int) (f l : Nat) (low : Int) : Prop := (∀ j, f ≤ j → j ≤ l → ps f - ps j ≤ low) ∧ ∃ j, f ≤ j ∧ j ≤ l ∧ low = ps f - ps j
theorem IsLow.uniq {ps : Nat → Int} {f l : Nat} {a b : Int} (x : IsLow ps f l a) (y : IsLow ps f l b) : a = b := by
  obtain ⟨x1, j, j1, j2, rfl⟩ := x
  obtain ⟨y1, i, i1, i2, rfl⟩ := y
  have := x1 i i1 i2
  have := y1 j j1 j2
  omega
theorem IsLow.zero (ps : Nat → Int) (f : Nat) : IsLow ps f f 0 := ⟨fun j h1 h2 => by (have : j = f := by omega); (subst this); omega, f, by omega, by omega, by omega⟩
theorem IsLow.next {ps : Nat → Int} {f l : Nat} {a : Int} (x : IsLow ps f l a) (h : f ≤ l) : IsLow ps f (l + 1) (if ps f - ps (l + 1) > a then ps f - ps (l + 1) else a) := by
  obtain ⟨x1, j, j1, j2, e⟩ := x
  split
  · refine ⟨fun i i1 i2 => ?_, l + 1, by omega, by omega, rfl⟩
    by_cases q : i ≤ l
    · have := x1 i i1 q; omega
    · have : i = l + 1 := by omega
      subst this; omega
  · refine ⟨fun i i1 i2 => ?_, j, j1, by omega, e⟩
    by_cases q : i ≤ l
    · exact x1 i i1 q
    · have : i = l + 1 := by omega
      subst this; omega
/-- m is the least of the places from f to l -/
def IsMin (ps : Nat → Int) (f l : Nat) (m : Int) : Prop := (∀ j, f ≤ j → j ≤ l → m ≤ ps j) ∧ ∃ j, f ≤ j ∧ j ≤ l ∧ m = ps j
theorem IsMin.one (ps : Nat → Int) (l : Nat) : IsMin ps l l (ps l) := ⟨fun j h1 h2 => by (have : j = l := by omega); (subst this); omega, l, by omega, by omega, rfl⟩
theorem IsMin.down {ps : Nat → Int} {f l : Nat} {m : Int} (x : IsMin ps (f + 1) l m) (h : f ≤ l) : IsMin ps f l (if ps f < m then ps f else m) := by
  obtain ⟨x1, j, j1, j2, e⟩ := x
  split
  · refine ⟨fun i i1 i2 => ?_, f, by omega, by omega, rfl⟩
    by_cases q : i = f
    · subst q; omega
    · have := x1 i (by omega) i2; omega
  · refine ⟨fun i i1 i2 => ?_, j, by omega, j2, e⟩
    by_cases q : i = f
    · subst q; omega
    · exact x1 i (by omega) i2
theorem IsMin.low {ps : Nat → Int} {f l : Nat} {m : Int} (x : IsMin ps f l m) : IsLow ps f l (ps f - m) := by
  obtain ⟨x1, j, j1, j2, e⟩ := x
  exact ⟨fun i i1 i2 => by have := x1 i i1 i2; omega, j, j1, j2, by omega⟩
/-- highs are lows of the mirrored places -/
abbrev neg (ps : Nat → Int) : Nat → Int := fun j => - ps j

theorem isShifted_sim {a b : Sh} {low high : Int} (h : isShifted a b low high = true) :
    a.st = b.st ∧ ((a.pl < b.pl ∧ ∀ x, a.pl - low ≤ x → look b.mks (x + (b.pl - a.pl)) = look a.mks x) ∨ (b.pl < a.pl ∧ ∀ x, x ≤ a.pl + high → look b.mks (x + (b.pl - a.pl)) = look a.mks x)) := by
  unfold isShifted at h
  split at h
  · cases h
  · rename_i hn
    have hst : a.st = b.st := Decidable.byContradiction fun e => hn (.inl e)
    have hpl : a.pl ≠ b.pl := fun e => hn (.inr e)
    refine ⟨hst, ?_⟩
    split at h
    · rename_i hlt
      refine .inl ⟨hlt, fun x hx => ?_⟩
      have e := congrArg (fun z => look z (x - a.pl)) (of_decide_eq_true h)
      simp only [cellsFrom, look_cells] at e
      rw [if_pos (by omega), if_pos (by omega)] at e
      rw [show x - a.pl + a.pl = x by omega] at e
      rw [e]
      congr 1
      omega
    · rename_i hlt
      refine .inr ⟨by omega, fun x hx => ?_⟩
      have e := congrArg (fun z => look z (x - a.pl)) (of_decide_eq_true h)
      simp only [cellsFrom, look_cells] at e
      rw [if_pos (by omega), if_pos (by omega)] at e
      rw [show x - a.pl + a.pl = x by omega] at e
      rw [e]
      congr 1
      omega
/-- the place behind j steps -/
def place (T : Tbl) (j : Nat) : Int := match runs T j with
  | some s => s.pl
  | none => 0
theorem place_of {T : Tbl} {j : Nat} {s : Sh} (h : runs T j = some s) : place T j = s.pl := by unfold place; rw [h]
/-- a paper of coming round elsewhere -/
structure ShiftOk (T : Tbl) (f l : Nat) : Prop where
  lt : f < l
  ex : ∃ a b low high, runs T f = some a ∧ runs T l = some b ∧ IsLow (place T) f l low ∧ IsLow (neg (place T)) f l high ∧ isShifted a b low high = true
theorem ShiftOk.all {T : Tbl} {f l : Nat} (h : ShiftOk T f l) : ∃ dr, dr ≠ 0 ∧ place T l - place T f = dr ∧ ∀ k, ∃ s t, runs T (f + k) = some s ∧ runs T (l + k) = some t ∧ s.st = t.st ∧ t.pl = s.pl + dr := by
  obtain ⟨lt, a, b, low, high, ha, hb, hlow, hhigh, hs⟩ := h
  obtain ⟨hst, hd⟩ := isShifted_sim hs
  refine ⟨b.pl - a.pl, ?_, by rw [place_of ha, place_of hb], ?_⟩
  · rcases hd with hd | hd <;> omega
  · have key : ∀ R : Int → Prop, (∀ x, R x → look b.mks (x + (b.pl - a.pl)) = look a.mks x) → (∀ x, R x → R (x + (b.pl - a.pl))) → (∀ j u, f ≤ j → j ≤ l → runs T j = some u → R u.pl) →
        ∀ k, ∃ s t, runs T (f + k) = some s ∧ runs T (l + k) = some t ∧ s.st = t.st ∧ t.pl = s.pl + (b.pl - a.pl) := by
      intro R h1 h2 h3 k
      obtain ⟨s, t, q1, q2, m, _⟩ := shift_all (R := R) (dr := b.pl - a.pl) ha hb lt ⟨hst, by omega, h1⟩ h2 h3 k
      exact ⟨s, t, q1, q2, m.st, m.pl⟩
    rcases hd with ⟨hd, hr⟩ | ⟨hd, hr⟩
    · refine key (fun x => a.pl - low ≤ x) hr (fun x hx => by omega) fun j u j1 j2 hu => ?_
      have := hlow.1 j j1 j2
      rw [place_of ha, place_of hu] at this
      omega
    · refine key (fun x => x ≤ a.pl + high) hr (fun x hx => by omega) fun j u j1 j2 hu => ?_
      have h := hhigh.1 j j1 j2
      simp only [neg] at h
      rw [place_of ha, place_of hu] at h
      omega
theorem ShiftOk.never {T : Tbl} {f l : Nat} (h : ShiftOk T f l) (n : Nat) : ∃ t, runs T n = some t := by
  obtain ⟨_, _, _, k⟩ := h.all
  obtain ⟨s, t, _, h2, _⟩ := k n
  exact runF_le h2 (by omega)

/-! ### walls -/
abbrev Gram := List Nat
abbrev Cxt := Gram × Nat × Nat × Gram
def behindR (e : Ent) (c : Cxt) (g : Gram) : Cxt := (e.w :: c.1.dropLast, e.n, c.2.2.2.headD 0, g)
def behindL (e : Ent) (c : Cxt) (g : Gram) : Cxt := (g, e.n, c.1.headD 0, e.w :: c.2.2.2.dropLast)
def GramOk (w c : Nat) (g : Gram) : Prop := g.length = w ∧ ∀ x ∈ g, x < c
def CtxOk (w S c : Nat) (x : Cxt) : Prop := GramOk w c x.1 ∧ x.2.1 < S ∧ x.2.2.1 < c ∧ GramOk w c x.2.2.2
def blank (w : Nat) : Gram := List.replicate w 0
structure Closed (T : Tbl) (L R : List Gram) (C : List Cxt) (x : Cxt) : Prop where
  ex : ∃ e, entry T x.2.1 x.2.2.1 = some e ∧ (e.r = true → x.1 ∈ L ∧ ∀ g ∈ R, g.dropLast = x.2.2.2.tail → behindR e x g ∈ C) ∧ (e.r = false → x.2.2.2 ∈ R ∧ ∀ g ∈ L, g.dropLast = x.1.tail → behindL e x g ∈ C)
structure WallOk (T : Tbl) (S c w : Nat) (L R : List Gram) (C : List Cxt) : Prop where
  pos : 1 ≤ w
  bL : blank w ∈ L
  bR : blank w ∈ R
  bC : (blank w, 0, 0, blank w) ∈ C
  cl : ∀ x ∈ C, Closed T L R C x
  okL : ∀ g ∈ L, GramOk w c g
  okR : ∀ g ∈ R, GramOk w c g
  okC : ∀ x ∈ C, CtxOk w S c x
def gramL (s : Sh) (w j : Nat) : Gram := (List.range w).map fun i => look s.mks (s.pl - 1 - ((j + i : Nat) : Int))
def gramR (s : Sh) (w j : Nat) : Gram := (List.range w).map fun i => look s.mks (s.pl + 1 + ((j + i : Nat) : Int))
def ctx (s : Sh) (w : Nat) : Cxt := (gramL s w 0, s.st, look s.mks s.pl, gramR s w 0)
theorem range_cons (w : Nat) : List.range (w + 1) = 0 :: (List.range w).map (· + 1) := List.range_succ_eq_map
theorem map_drop {f : Nat → Nat} {w : Nat} : ((List.range (w + 1)).map f).dropLast = (List.range w).map f := by
  rw [List.range_succ, List.map_append, List.map_cons, List.map_nil, List.dropLast_concat]
theorem map_tail {f : Nat → Nat} {w : Nat} : ((List.range (w + 1)).map f).tail = (List.range w).map fun i => f (i + 1) := by
  rw [range_cons, List.map_cons, List.tail_cons, List.map_map]
  rfl
theorem map_head {f : Nat → Nat} {w : Nat} : ((List.range (w + 1)).map f).headD 0 = f 0 := by
  rw [range_cons, List.map_cons]; rfl
structure Fenced (T : Tbl) (w : Nat) (L R : List Gram) (C : List Cxt) (s : Sh) : Prop where
  c : ctx s w ∈ C
  l : ∀ j, gramL s w (j + 1) ∈ L
  r : ∀ j, gramR s w (j + 1) ∈ R
theorem fence_first {T : Tbl} {S c w : Nat} {L R : List Gram} {C : List Cxt} (h : WallOk T S c w L R C) : Fenced T w L R C first := by
  have e : ∀ j, gramL first w j = blank w ∧ gramR first w j = blank w := by
    intro j
    constructor
    · unfold gramL blank first
      simp only [look]
      rw [List.map_const']
      simp
    · unfold gramR blank first
      simp only [look]
      rw [List.map_const']
      simp
  refine ⟨?_, fun j => by rw [(e _).1]; exact h.bL, fun j => by rw [(e _).2]; exact h.bR⟩
  unfold ctx
  rw [(e 0).1, (e 0).2]
  exact h.bC
theorem fence_step {T : Tbl} {S c w : Nat} {L R : List Gram} {C : List Cxt} (h : WallOk T S c w L R C) {s : Sh} (hs : Srt s.mks) (f : Fenced T w L R C s) : ∃ t, step T s = some t ∧ Fenced T w L R C t := by
  obtain ⟨e, he, hr, hl⟩ := (h.cl _ f.c).ex
  obtain ⟨v, hv⟩ : ∃ v, w = v + 1 := ⟨w - 1, by have := h.pos; omega⟩
  subst hv
  have he' : entry T s.st (look s.mks s.pl) = some e := he
  unfold step
  rw [he']
  refine ⟨_, rfl, ?_⟩
  have lk : ∀ p, look (setM s.mks s.pl e.w) p = if s.pl = p then e.w else look s.mks p := fun p => look_setM p hs
  cases hb : e.r with
  | true =>
    obtain ⟨h1, h2⟩ := hr hb
    have eL0 : gramL ⟨e.n, s.pl + 1, setM s.mks s.pl e.w⟩ (v + 1) 0 = e.w :: (gramL s (v + 1) 0).dropLast := by
      unfold gramL
      rw [map_drop, range_cons, List.map_cons, List.map_map]
      congr 1
      · rw [lk, if_pos (by simp)]
      · refine List.map_congr_left fun i _ => ?_
        show look (setM s.mks s.pl e.w) (s.pl + 1 - 1 - ((0 + (i + 1) : Nat) : Int)) = look s.mks (s.pl - 1 - ((0 + i : Nat) : Int))
        rw [lk, if_neg (by omega)]
        congr 1
        omega
    have eL : ∀ j, gramL ⟨e.n, s.pl + 1, setM s.mks s.pl e.w⟩ (v + 1) (j + 1) = gramL s (v + 1) j := by
      intro j
      refine List.map_congr_left fun i _ => ?_
      rw [lk, if_neg (by simp only; omega)]
      congr 1
      simp only
      omega
    have eR : ∀ j, gramR ⟨e.n, s.pl + 1, setM s.mks s.pl e.w⟩ (v + 1) j = gramR s (v + 1) (j + 1) := by
      intro j
      refine List.map_congr_left fun i _ => ?_
      rw [lk, if_neg (by simp only; omega)]
      congr 1
      simp only
      omega
    simp only [hb, if_true]
    refine ⟨?_, fun j => ?_, fun j => by rw [eR]; exact f.r _⟩
    · have q := h2 (gramR s (v + 1) 1) (f.r 0) (by
        show (gramR s (v + 1) 1).dropLast = (gramR s (v + 1) 0).tail
        unfold gramR
        rw [map_drop, map_tail]
        refine List.map_congr_left fun i _ => ?_
        congr 1
        omega)
      have q2 : ctx ⟨e.n, s.pl + 1, setM s.mks s.pl e.w⟩ (v + 1) = behindR e (ctx s (v + 1)) (gramR s (v + 1) 1) := by
        show (gramL ⟨e.n, s.pl + 1, setM s.mks s.pl e.w⟩ (v + 1) 0, e.n, look (setM s.mks s.pl e.w) (s.pl + 1), gramR ⟨e.n, s.pl + 1, setM s.mks s.pl e.w⟩ (v + 1) 0) = (e.w :: (gramL s (v + 1) 0).dropLast, e.n, (gramR s (v + 1) 0).headD 0, gramR s (v + 1) 1)
        rw [eL0, eR, lk, if_neg (by omega)]
        unfold gramR
        rw [map_head]
        simp
      rw [q2]
      exact q
    · cases j with
      | zero => rw [eL]; exact h1
      | succ j => rw [eL]; exact f.l j
  | false =>
    obtain ⟨h1, h2⟩ := hl hb
    have eR0 : gramR ⟨e.n, s.pl - 1, setM s.mks s.pl e.w⟩ (v + 1) 0 = e.w :: (gramR s (v + 1) 0).dropLast := by
      unfold gramR
      rw [map_drop, range_cons, List.map_cons, List.map_map]
      congr 1
      · rw [lk, if_pos (by simp)]
      · refine List.map_congr_left fun i _ => ?_
        show look (setM s.mks s.pl e.w) (s.pl - 1 + 1 + ((0 + (i + 1) : Nat) : Int)) = look s.mks (s.pl + 1 + ((0 + i : Nat) : Int))
        rw [lk, if_neg (by omega)]
        congr 1
        omega
    have eR : ∀ j, gramR ⟨e.n, s.pl - 1, setM s.mks s.pl e.w⟩ (v + 1) (j + 1) = gramR s (v + 1) j := by
      intro j
      refine List.map_congr_left fun i _ => ?_
      rw [lk, if_neg (by simp only; omega)]
      congr 1
      simp only
      omega
    have eL : ∀ j, gramL ⟨e.n, s.pl - 1, setM s.mks s.pl e.w⟩ (v + 1) j = gramL s (v + 1) (j + 1) := by
      intro j
      refine List.map_congr_left fun i _ => ?_
      rw [lk, if_neg (by simp only; omega)]
      congr 1
      simp only
      omega
    simp only [hb, Bool.false_eq_true, if_false]
    refine ⟨?_, fun j => by rw [eL]; exact f.l _, fun j => ?_⟩
    · have q := h2 (gramL s (v + 1) 1) (f.l 0) (by
        show (gramL s (v + 1) 1).dropLast = (gramL s (v + 1) 0).tail
        unfold gramL
        rw [map_drop, map_tail]
        refine List.map_congr_left fun i _ => ?_
        congr 1
        omega)
      have q2 : ctx ⟨e.n, s.pl - 1, setM s.mks s.pl e.w⟩ (v + 1) = behindL e (ctx s (v + 1)) (gramL s (v + 1) 1) := by
        show (gramL ⟨e.n, s.pl - 1, setM s.mks s.pl e.w⟩ (v + 1) 0, e.n, look (setM s.mks s.pl e.w) (s.pl - 1), gramR ⟨e.n, s.pl - 1, setM s.mks s.pl e.w⟩ (v + 1) 0) = (gramL s (v + 1) 1, e.n, (gramL s (v + 1) 0).headD 0, e.w :: (gramR s (v + 1) 0).dropLast)
        rw [eR0, eL, lk, if_neg (by omega)]
        unfold gramL
        rw [map_head]
        simp
      rw [q2]
      exact q
    · cases j with
      | zero => rw [eR]; exact h1
      | succ j => rw [eR]; exact f.r j
theorem fence_all {T : Tbl} {S c w : Nat} {L R : List Gram} {C : List Cxt} (h : WallOk T S c w L R C) : ∀ n, ∃ s, runs T n = some s ∧ Fenced T w L R C s
  | 0 => ⟨first, rfl, fence_first h⟩
  | n + 1 => by
    obtain ⟨s, hs, f⟩ := fence_all h n
    obtain ⟨t, ht, ft⟩ := fence_step h (runs_srt hs) f
    refine ⟨t, ?_, ft⟩
    show (runF T first n).bind (step T) = some t
    have hs' : runF T first n = some s := hs
    rw [hs']
    exact ht

/-! ### tables -/
structure TblOk (T : Tbl) (S c : Nat) : Prop where
  s1 : 1 ≤ S
  c1 : 1 ≤ c
  len : T.length = S
  row : ∀ r ∈ T, r.length = c
  ok : ∀ r ∈ T, ∀ e ∈ r, ∀ x, e = some x → x.w < c ∧ x.n < S
theorem TblOk.at_ {T : Tbl} {S c q s : Nat} (h : TblOk T S c) (hq : q < S) (hs : s < c) : ∃ r o, T[q]? = some r ∧ r[s]? = some o ∧ entry T q s = o ∧ ∀ x, o = some x → x.w < c ∧ x.n < S := by
  have h1 : q < T.length := by rw [h.len]; exact hq
  have e1 : T[q]? = some T[q] := List.getElem?_eq_getElem h1
  have hr := List.getElem_mem h1
  have h2 : s < T[q].length := by rw [h.row _ hr]; exact hs
  have e2 : T[q][s]? = some T[q][s] := List.getElem?_eq_getElem h2
  refine ⟨_, _, e1, e2, ?_, fun x hx => h.ok _ hr _ (List.getElem_mem h2) x hx⟩
  unfold entry
  rw [e1]
  show (T[q][s]?).join = _
  rw [e2]
  rfl
/-- shots of a machine: the state and the signs are its own -/
def ShOk (S c : Nat) (s : Sh) : Prop := s.st < S ∧ ∀ x ∈ s.mks, x.2 < c
theorem ShOk.look {S c : Nat} {s : Sh} (h : ShOk S c s) (hc : 1 ≤ c) (p : Int) : look s.mks p < c := by
  have : ∀ mk : List (Int × Nat), (∀ x ∈ mk, x.2 < c) → TP.look mk p < c := by
    intro mk
    induction mk with
    | nil => intro _; show 0 < c; omega
    | cons x r ih =>
      intro hm
      obtain ⟨a, b⟩ := x
      rw [TP.look]
      split
      · exact hm (a, b) List.mem_cons_self
      · exact ih fun y hy => hm y (List.mem_cons_of_mem _ hy)
  exact this s.mks h.2
theorem setM_all : ∀ {mk : List (Int × Nat)} {p : Int} {w c : Nat}, (∀ x ∈ mk, x.2 < c) → w < c → ∀ x ∈ setM mk p w, x.2 < c
  | [], p, w, c, _, hw, x, hx => by
    unfold setM at hx
    split at hx
    · cases hx
    · rw [List.mem_singleton.mp hx]; exact hw
  | (q, s) :: r, p, w, c, h, hw, x, hx => by
    have h1 := h (q, s) List.mem_cons_self
    have h2 : ∀ x ∈ r, x.2 < c := fun y hy => h y (List.mem_cons_of_mem _ hy)
    unfold setM at hx
    split at hx
    · rcases List.mem_cons.mp hx with e | hx
      · rw [e]; exact h1
      · exact setM_all h2 hw x hx
    · split at hx
      · split at hx
        · exact h2 x hx
        · rcases List.mem_cons.mp hx with e | hx
          · rw [e]; exact hw
          · exact h2 x hx
      · split at hx
        · exact h x hx
        · rcases List.mem_cons.mp hx with e | hx
          · rw [e]; exact hw
          · exact h x hx
theorem step_ok {T : Tbl} {S c : Nat} {s t : Sh} (hT : TblOk T S c) (h : ShOk S c s) (e : step T s = some t) : ShOk S c t := by
  obtain ⟨r, o, _, _, e3, hx⟩ := hT.at_ h.1 (h.look hT.c1 s.pl)
  unfold step at e
  rw [e3] at e
  cases o with
  | none => cases e
  | some x =>
    have e := Option.some.inj e
    subst e
    obtain ⟨h1, h2⟩ := hx x rfl
    exact ⟨h2, setM_all h.2 h1⟩
theorem runs_ok {T : Tbl} {S c : Nat} (hT : TblOk T S c) : ∀ {n : Nat} {t : Sh}, runs T n = some t → ShOk S c t
  | 0, t, h => by
    have h : some first = some t := h
    cases h
    exact ⟨hT.s1, fun x hx => nomatch hx⟩
  | n + 1, t, h => by
    have h : (runF T first n).bind (step T) = some t := h
    cases e : runF T first n with
    | none => rw [e] at h; cases h
    | some u => rw [e] at h; exact step_ok hT (runs_ok hT e) h
end TP
end
section
set_option Elab.async false
set_option linter.all false
set_option maxRecDepth 100000
set_option maxHeartbeats 4000000
/-! Dicts whose keys are nested tuples (shots, grams, contexts), over the layer; sorted lists of data. -/
namespace ND
open PySem PySem.Spec PyProof.Rows L2

/-! ### what keeps data as it is: lists and tuples stay -/
def KeepS (H H' : Hp) : Prop := ∀ b u, ((∃ xs, u = HO.lst xs) ∨ ∃ xs, u = HO.tup xs) → Rd H b u → Rd H' b u
theorem KeepS.refl (H : Hp) : KeepS H H := fun _ _ _ h => h
theorem KeepS.trans {H H1 H2 : Hp} (a : KeepS H H1) (b : KeepS H1 H2) : KeepS H H2 := fun c u h r => b c u h (a c u h r)
theorem KeepS.of_ex {H H' : Hp} (e : Evl.Ex H H') : KeepS H H' := fun _ _ _ r => Evl.ex_rd e r
/-- no list, no tuple -/
def NoSeq : Option HO → Prop
  | some (.lst _) => False
  | some (.tup _) => False
  | some (.frz _ _) => False
  | _ => True
theorem KeepS.upd {H : Hp} {d : Addr} {o : HO} (h : NoSeq (H d)) : KeepS H (L2.upd H d o) := fun b u hu r => by
  have hb : b ≠ d := by
    rintro rfl
    rcases r with r | ⟨q, r⟩
    · rw [r] at h
      rcases hu with ⟨xs, rfl⟩ | ⟨xs, rfl⟩ <;> exact h
    · rw [r] at h; exact h
  rcases r with r | ⟨q, r⟩
  · exact .inl (by rw [upd_ne hb]; exact r)
  · exact .inr ⟨q, by rw [upd_ne hb]; exact r⟩
theorem KeepS.l {K : PySem.W.Frag} {H H' : Hp} {a : Addr} {xs : List V} (k : KeepS H H') (h : SqL K H a xs) : SqL K H' a xs := by
  rcases h with h | h
  · exact .inl (k _ _ (.inl ⟨_, rfl⟩) h)
  · exact .inr h
theorem KeepS.t {K : PySem.W.Frag} {H H' : Hp} {a : Addr} {xs : List V} (k : KeepS H H') (h : SqT K H a xs) : SqT K H' a xs := by
  rcases h with h | h
  · exact .inl (k _ _ (.inr ⟨_, rfl⟩) h)
  · exact .inr h
end ND
namespace L2
open PySem PySem.Spec PyProof.Rows ND
mutual
theorem Dp.keep {K : PySem.W.Frag} {H H' : Hp} (k : KeepS H H') : ∀ (d : PyData) (v : V), Dp K H v d → Dp K H' v d
  | .none, _, h => by cases h; exact .non
  | .bool _, _, h => by cases h; exact .bl _
  | .int _, _, h => by cases h; exact .int _
  | .str _, _, h => by cases h; exact .str _
  | .list ds, _, h => by
    cases h with
    | lst hs ha => exact .lst (k.l hs) (DpAll.keep k ds _ ha)
  | .tuple ds, _, h => by
    cases h with
    | tup hs ha => exact .tup (k.t hs) (DpAll.keep k ds _ ha)
  | .dict _, _, h => by cases h
theorem DpAll.keep {K : PySem.W.Frag} {H H' : Hp} (k : KeepS H H') : ∀ (ds : List PyData) (vs : List V), DpAll K H vs ds → DpAll K H' vs ds
  | [], _, h => by cases h; exact .nil
  | d :: ds, _, h => by
    cases h with
    | cons h1 h2 => exact .cons (Dp.keep k d _ h1) (DpAll.keep k ds _ h2)
end
theorem DpAll.length {K : PySem.W.Frag} {H : Hp} : ∀ {vs : List V} {ds : List PyData}, DpAll K H vs ds → vs.length = ds.length
  | [], _, h => by cases h; rfl
  | _ :: vs, _, h => by
    cases h with
    | cons _ h2 => rw [List.length_cons, List.length_cons, DpAll.length h2]
theorem DpAll.get {K : PySem.W.Frag} {H : Hp} : ∀ {vs : List V} {ds : List PyData} {i : Nat} {d : PyData}, DpAll K H vs ds → ds[i]? = some d → ∃ v, vs[i]? = some v ∧ Dp K H v d
  | _, [], i, d, _, e => by simp at e
  | _, x :: ds, 0, d, h, e => by
    cases h with
    | cons h1 h2 =>
      cases (show some x = some d from e)
      exact ⟨_, rfl, h1⟩
  | _, x :: ds, i + 1, d, h, e => by
    cases h with
    | cons h1 h2 =>
      obtain ⟨v, h3, h4⟩ := DpAll.get (i := i) (d := d) h2 (by simpa using e)
      exact ⟨v, by simpa using h3, h4⟩
theorem DpAll.getV {K : PySem.W.Frag} {H : Hp} : ∀ {vs : List V} {ds : List PyData} {i : Nat} {v : V}, DpAll K H vs ds → vs[i]? = some v → ∃ d, ds[i]? = some d ∧ Dp K H v d
  | [], _, i, d, _, e => by simp at e
  | x :: vs, _, 0, v, h, e => by
    cases h with
    | cons h1 h2 =>
      cases (show some x = some v from e)
      exact ⟨_, rfl, h1⟩
  | x :: vs, _, i + 1, v, h, e => by
    cases h with
    | cons h1 h2 =>
      obtain ⟨d, h3, h4⟩ := DpAll.getV (i := i) (v := v) h2 (by simpa using e)
      exact ⟨d, by simpa using h3, h4⟩
theorem DpAll.snoc {K : PySem.W.Frag} {H : Hp} : ∀ {vs : List V} {ds : List PyData} {v : V} {d : PyData}, DpAll K H vs ds → Dp K H v d → DpAll K H (vs ++ [v]) (ds ++ [d])
  | [], _, _, _, h, q => by cases h; exact .cons q .nil
  | _ :: _, _, _, _, h, q => by
    cases h with
    | cons h1 h2 => exact .cons h1 (DpAll.snoc h2 q)
theorem DpAll.append {K : PySem.W.Frag} {H : Hp} : ∀ {vs ws : List V} {ds es : List PyData}, DpAll K H vs ds → DpAll K H ws es → DpAll K H (vs ++ ws) (ds ++ es)
  | [], _, _, _, h, q => by cases h; exact q
  | _ :: _, _, _, _, h, q => by
    cases h with
    | cons h1 h2 => exact .cons h1 (DpAll.append h2 q)
theorem DpAll.of_at {K : PySem.W.Frag} {H : Hp} : ∀ {vs : List V} {ds : List PyData}, vs.length = ds.length → (∀ (i : Nat) (v : V) (d : PyData), vs[i]? = some v → ds[i]? = some d → Dp K H v d) → DpAll K H vs ds
  | [], [], _, _ => .nil
  | [], _ :: _, h, _ => by simp at h
  | _ :: _, [], h, _ => by simp at h
  | v :: vs, d :: ds, h, f => .cons (f 0 v d rfl rfl) (DpAll.of_at (by simpa using h) fun i w e h1 h2 => f (i + 1) w e (by simpa using h1) (by simpa using h2))
theorem DpAll.ints {K : PySem.W.Frag} {H : Hp} : ∀ ns : List Int, DpAll K H (ns.map V.int) (ns.map PyData.int)
  | [] => .nil
  | _ :: ns => .cons (.int _) (DpAll.ints ns)

end L2
namespace ND
open PySem PySem.Spec PyProof.Rows L2
/-! ### data as nested keys -/
section
variable {X : Cx} {pins : List (Addr × Obj)} {σ : L2.St} {H : Hp} {s : Shared}
mutual
theorem nested_of (I : Inv X pins σ H s) : ∀ (k : NestedKey) (v : V) (u : Value), Dp X.K H v k.data → RelV v u → NestedIs s.heap k u
  | .none, _, _, h, r => by cases h; cases r; exact .none
  | .num i, _, _, h, r => by
    cases h
    obtain ⟨t, rfl⟩ := r
    exact .int _ _
  | .text x, _, _, h, r => by
    cases h
    obtain ⟨t, rfl⟩ := r
    exact .text _ _
  | .tup ks, _, _, h, r => by
    have h' : Dp X.K H _ (.tuple (NestedKey.datas ks)) := h
    cases h' with
    | tup hs ha =>
      cases r
      obtain ⟨its, rv, ⟨o, ho, hc, n, hd⟩, _⟩ := I.tuple hs
      exact .tup ho hc hd (by simpa using nested_all I ks _ its ha rv)
theorem nested_all (I : Inv X pins σ H s) : ∀ (ks : List NestedKey) (vs : List V) (us : List Value), DpAll X.K H vs (NestedKey.datas ks) → Vals vs us → NestedAll s.heap ks us
  | [], _, _, h, r => by cases h; cases r; exact .nil
  | k :: ks, _, _, h, r => by
    have h' : DpAll X.K H _ (k.data :: NestedKey.datas ks) := h
    cases h' with
    | cons h1 h2 =>
      cases r with
      | cons r1 r2 => exact .cons (nested_of I k _ _ h1 r1) (nested_all I ks _ _ h2 r2)
end
end

/-! ### a dict with nested keys -/
abbrev Ent3 := NestedKey × Addr × Value
section
variable (P : Program) (w : World)
def raw (d : Addr) (xs : List Ent3) (ep : Nat) : HO := .ext fun h => ∃ o es, h.get? d = some o ∧ o.ExactDict ∧ o.data = .dict es ep ∧ es.toList = xs.map (entryOfKey (nestedKind P w))
/-- at d stands a dict with the pairs kvs (its entries xs, its epoch ep) -/
structure IsN (K : PySem.W.Frag) (H : Hp) (d : Addr) (kvs : List (NestedKey × V)) (xs : List Ent3) (ep : Nat) : Prop where
  at_ : H d = some (raw P w d xs ep)
  sm : (d == sysModules) = false
  nd : (xs.map (·.1)).Nodup
  sz : kvs.length ≤ sizeLine
  rel : Paired (fun (p : NestedKey × V) (x : Ent3) => p.1 = x.1 ∧ RelV p.2 x.2.2) kvs xs
  key : ∀ x ∈ xs, Dp K H (.ref x.2.1) x.1.data ∧ x.1.depth ≤ 8
def DN (K : PySem.W.Frag) (H : Hp) (d : Addr) (kvs : List (NestedKey × V)) : Prop := ∃ xs ep, IsN P w K H d kvs xs ep
end
section
variable {P : Program} {w : World} {K : PySem.W.Frag} {H H' : Hp} {d : Addr} {kvs : List (NestedKey × V)} {xs : List Ent3} {ep : Nat}
theorem IsN.keep (h : IsN P w K H d kvs xs ep) (k : KeepS H H') (hd : H' d = H d) : IsN P w K H' d kvs xs ep :=
  ⟨by rw [hd]; exact h.at_, h.sm, h.nd, h.sz, h.rel, fun x hx => ⟨Dp.keep k _ _ (h.key x hx).1, (h.key x hx).2⟩⟩
theorem IsN.ex (h : IsN P w K H d kvs xs ep) (e : Evl.Ex H H') : IsN P w K H' d kvs xs ep :=
  h.keep (.of_ex e) (by rw [h.at_]; exact e _ _ h.at_)
theorem DN.keep (h : DN P w K H d kvs) (k : KeepS H H') (hd : H' d = H d) : DN P w K H' d kvs := let ⟨xs, ep, q⟩ := h; ⟨xs, ep, q.keep k hd⟩
theorem DN.ex (h : DN P w K H d kvs) (e : Evl.Ex H H') : DN P w K H' d kvs := let ⟨xs, ep, q⟩ := h; ⟨xs, ep, q.ex e⟩
theorem DN.there (h : DN P w K H d kvs) : ∃ φ, H d = some (.ext φ) := let ⟨_, _, q⟩ := h; ⟨_, q.at_⟩
theorem DN.noSeq (h : DN P w K H d kvs) : NoSeq (H d) := by
  obtain ⟨φ, e⟩ := h.there
  rw [e]; exact True.intro
theorem IsN.keys (h : IsN P w K H d kvs xs ep) : kvs.map (·.1) = xs.map (·.1) := by
  have r := h.rel
  clear h
  induction r with
  | nil => rfl
  | cons p t ih => rw [List.map_cons, List.map_cons, ih, p.1]
theorem DN.nodup (h : DN P w K H d kvs) : (kvs.map (·.1)).Nodup := by
  obtain ⟨xs, ep, q⟩ := h
  rw [q.keys]; exact q.nd
theorem DN.sz (h : DN P w K H d kvs) : kvs.length ≤ sizeLine := let ⟨_, _, q⟩ := h; q.sz
end
section
variable {X : Cx} {pins : List (Addr × Obj)} {σ : L2.St} {H : Hp} {s : Shared} {d : Addr} {kvs : List (NestedKey × V)} {xs : List Ent3} {ep : Nat}
theorem IsN.rawAt (I : Inv X pins σ H s) (h : IsN X.prog X.w X.K H d kvs xs ep) : ∃ o es, s.heap.get? d = some o ∧ o.ExactDict ∧ o.data = .dict es ep ∧ es.toList = xs.map (entryOfKey (nestedKind X.prog X.w)) :=
  (show ObjOk X.prog X.w H s.heap d (raw X.prog X.w d xs ep) from I.hok d _ h.at_).1
theorem IsN.dict (I : Inv X pins σ H s) (h : IsN X.prog X.w X.K H d kvs xs ep) : s.heap.DictOfH (nestedKind X.prog X.w) d xs := by
  obtain ⟨o, es, h1, h2, h3, h4⟩ := h.rawAt I
  exact ⟨o, es, ep, h1, h2, h3, h4, fun x hx => ⟨nested_of I _ _ _ (h.key x hx).1 rfl, (h.key x hx).2⟩, h.nd⟩
theorem rel_val (h : Paired (fun (p : NestedKey × V) (x : Ent3) => p.1 = x.1 ∧ RelV p.2 x.2.2) kvs xs) (k : NestedKey) : RelO (valV kvs k) ((atKey xs k).map (·.2)) := by
  induction h with
  | nil => exact True.intro
  | @cons p q ps qs h t ih =>
    obtain ⟨h1, h2⟩ := h
    by_cases e : p.1 = k
    · have e' : q.1 = k := h1.symm.trans e
      have b : atKey (q :: qs) k = some q.2 := by simp [atKey, List.find?_cons, e']
      rw [valV_pos e, b]; exact h2
    · have e' : ¬ q.1 = k := fun z => e (h1.trans z)
      have b : atKey (q :: qs) k = atKey qs k := by simp [atKey, List.find?_cons, e']
      rw [valV_neg e, b]; exact ih
theorem rel_repl (h : Paired (fun (p : NestedKey × V) (x : Ent3) => p.1 = x.1 ∧ RelV p.2 x.2.2) kvs xs) (k : NestedKey) {y : V} {u : Value} (ry : RelV y u) :
    Paired (fun (p : NestedKey × V) (x : Ent3) => p.1 = x.1 ∧ RelV p.2 x.2.2) (kvs.map fun kv => if kv.1 = k then (kv.1, y) else kv) (xs.map (putAt k u)) := by
  induction h with
  | nil => exact .nil
  | @cons p q ps qs h t ih =>
    rw [List.map_cons, List.map_cons]
    refine .cons ?_ ih
    obtain ⟨h1, h3⟩ := h
    unfold putAt
    by_cases e : p.1 = k
    · rw [if_pos e, if_pos (h1.symm.trans e)]; exact ⟨h1, ry⟩
    · rw [if_neg e, if_neg (fun z => e (h1.trans z))]; exact ⟨h1, h3⟩
theorem rel_put (h : Paired (fun (p : NestedKey × V) (x : Ent3) => p.1 = x.1 ∧ RelV p.2 x.2.2) kvs xs) (k : NestedKey) (b : Addr) {y : V} {u : Value} (ry : RelV y u) :
    Paired (fun (p : NestedKey × V) (x : Ent3) => p.1 = x.1 ∧ RelV p.2 x.2.2) (putK kvs k y) (storedH xs k b u) := by
  have e : (kvs.any fun kv => decide (kv.1 = k)) = (atKey xs k).isSome := by
    rw [valV_any, (rel_val h k).isSome_eq, Option.isSome_map]
  unfold putK storedH
  rw [e]
  by_cases q : (atKey xs k).isSome = true
  · rw [if_pos q, if_pos q]; exact rel_repl h k ry
  · rw [if_neg q, if_neg q]; exact Paired.snoc h ⟨rfl, ry⟩
theorem mem_putAt {k : NestedKey} {u : Value} {x : Ent3} (h : x ∈ xs.map (putAt k u)) : ∃ y ∈ xs, x.1 = y.1 ∧ x.2.1 = y.2.1 := by
  obtain ⟨y, hy, rfl⟩ := List.mem_map.mp h
  refine ⟨y, hy, ?_⟩
  unfold putAt
  split <;> exact ⟨rfl, rfl⟩
theorem mem_stored {k : NestedKey} {b : Addr} {u : Value} {x : Ent3} (h : x ∈ storedH xs k b u) : (∃ y ∈ xs, x.1 = y.1 ∧ x.2.1 = y.2.1) ∨ (x.1 = k ∧ x.2.1 = b) := by
  unfold storedH at h
  split at h
  · exact .inl (mem_putAt h)
  · rcases List.mem_append.mp h with h | h
    · exact .inl ⟨x, h, rfl, rfl⟩
    · rw [List.mem_singleton.mp h]; exact .inr ⟨rfl, rfl⟩

/-- room for asking == and hashes of keys -/
abbrev RoomN (A : Around) : Prop := A.units + 64 < cLine
theorem RoomN.k {P : Program} {w : World} {A : Around} (h : RoomN A) : (nestedKind P w).room A.in1 := by
  show A.in1.units + 8 < cLine
  rw [Around.in1_units]
  have h : A.units + 64 < cLine := h
  omega
theorem RoomN.k0 {P : Program} {w : World} {A : Around} (h : RoomN A) : (nestedKind P w).room A := by
  show A.units + 8 < cLine
  have h : A.units + 64 < cLine := h
  omega

/-- y is the key k, a tuple -/
def KeyV (K : PySem.W.Frag) (H : Hp) (y : V) (k : NestedKey) : Prop := Dp K H y k.data ∧ k.depth ≤ 8 ∧ ∃ b, y = .ref b
theorem KeyV.mk {K : PySem.W.Frag} {H : Hp} {y : V} {ks : List NestedKey} (h : Dp K H y (NestedKey.tup ks).data) (hd : (NestedKey.tup ks).depth ≤ 8) : KeyV K H y (.tup ks) := by
  refine ⟨h, hd, ?_⟩
  have h' : Dp K H y (.tuple (NestedKey.datas ks)) := h
  cases h' with
  | tup hs ha => exact ⟨_, rfl⟩
theorem KeyV.keep {K : PySem.W.Frag} {H H' : Hp} {y : V} {k : NestedKey} (h : KeyV K H y k) (q : KeepS H H') : KeyV K H' y k := ⟨Dp.keep q _ _ h.1, h.2⟩
theorem KeyV.is {y : V} {k : NestedKey} {u : Value} (I : Inv X pins σ H s) (h : KeyV X.K H y k) (r : RelV y u) : ∃ b, u = .ref b ∧ (nestedKind X.prog X.w).is s.heap k b := by
  obtain ⟨h1, h2, b, rfl⟩ := h
  cases r
  exact ⟨b, rfl, nested_of I _ _ _ h1 rfl, h2⟩

theorem n_in {A : Around} {E : Value → Shared → Prop} {y : V} {u : Value} {k : NestedKey} {Q : Value → Shared → Prop} (hu : RoomN A) (I : Inv X pins σ H s) (h : DN X.prog X.w X.K H d kvs) (hk : KeyV X.K H y k) (r : RelV y u)
    (q : ∀ s', Inv X pins σ H s' → Q (.bool (valV kvs k).isSome) s') : wpAny (model X.prog X.w) A (compareOp .In u (.ref d)) Q E s := by
  obtain ⟨xs, ep, hn⟩ := h
  obtain ⟨b, rfl, his⟩ := hk.is I r
  refine wpAny_in_heap (RoomN.k hu) his hn.sm (hn.dict I) ?_
  have e := (rel_val hn.rel k).isSome_eq
  rw [Option.isSome_map] at e
  rw [← e]
  exact q _ (I.tok _)
theorem n_notIn {A : Around} {E : Value → Shared → Prop} {y : V} {u : Value} {k : NestedKey} {Q : Value → Shared → Prop} (hu : RoomN A) (I : Inv X pins σ H s) (h : DN X.prog X.w X.K H d kvs) (hk : KeyV X.K H y k) (r : RelV y u)
    (q : ∀ s', Inv X pins σ H s' → Q (.bool (!(valV kvs k).isSome)) s') : wpAny (model X.prog X.w) A (compareOp .NotIn u (.ref d)) Q E s := by
  obtain ⟨xs, ep, hn⟩ := h
  obtain ⟨b, rfl, his⟩ := hk.is I r
  refine wpAny_notIn_heap (RoomN.k hu) his hn.sm (hn.dict I) ?_
  have e := (rel_val hn.rel k).isSome_eq
  rw [Option.isSome_map] at e
  rw [← e]
  exact q _ (I.tok _)
theorem n_getItem {A : Around} {E : Value → Shared → Prop} {y v : V} {u : Value} {k : NestedKey} {Q : Value → Shared → Prop} (hu : RoomN A) (I : Inv X pins σ H s) (h : DN X.prog X.w X.K H d kvs) (hk : KeyV X.K H y k) (r : RelV y u)
    (hv : valV kvs k = some v) (q : ∀ w' s', Inv X pins σ H s' → RelV v w' → Q w' s') : wpAny (model X.prog X.w) A (getItem (.ref d) u) Q E s := by
  obtain ⟨xs, ep, hn⟩ := h
  obtain ⟨b, rfl, his⟩ := hk.is I r
  obtain ⟨w', hw, rw'⟩ := RelO.some_of (v := v) (o := (atKey xs k).map (·.2)) (by rw [← hv]; exact rel_val hn.rel k)
  obtain ⟨p, hp, hp2⟩ := Option.map_eq_some_iff.mp hw
  refine wpAny_getItem_heap (RoomN.k hu) his (hn.dict I) hp ?_
  rw [hp2]
  exact q w' _ (I.tok _) rw'
theorem raw_ok {P : Program} {w : World} {H' : Hp} {h : Heap} {o : Obj} {es : Array DictEntry} (h1 : h.get? d = some o) (h2 : o.ExactDict) (h3 : o.data = .dict es ep) (h4 : es.toList = xs.map (entryOfKey (nestedKind P w))) :
    ObjOk P w H' h d (raw P w d xs ep) := ⟨⟨o, es, h1, h2, h3, h4⟩, ⟨o, h1⟩, fun _ _ ⟨o, es, a1, a2⟩ k => ⟨o, es, k o a1, a2⟩⟩
theorem n_setItem {A : Around} {E : Value → Shared → Prop} {y v : V} {u r : Value} {k : NestedKey} {Q : Unit → Shared → Prop} (hu : RoomN A) (I : Inv X pins σ H s) (h : DN X.prog X.w X.K H d kvs) (hk : KeyV X.K H y k) (ry : RelV y u) (rv : RelV v r)
    (hz : kvs.length < sizeLine) (q : ∀ o s', DN X.prog X.w X.K (upd H d o) d (putK kvs k v) → Inv X pins σ (upd H d o) s' → Q () s') : wpAny (model X.prog X.w) A (setItem (.ref d) u r) Q E s := by
  obtain ⟨xs, ep, hn⟩ := h
  obtain ⟨b, rfl, his⟩ := hk.is I ry
  have hl : kvs.length = xs.length := Paired.length hn.rel
  refine wpAny_setItem_heap (hsz := by omega) (RoomN.k hu) his (hn.dict I) fun h' hm hs => ?_
  obtain ⟨o, es, ep', e1, e2, e3, e4, _, e6⟩ := hm
  have ns : NoSeq (H d) := by rw [hn.at_]; exact True.intro
  have kp : KeepS H (upd H d (raw X.prog X.w d (storedH xs k b r) ep')) := KeepS.upd ns
  refine q _ _ ⟨storedH xs k b r, ep', upd_same, hn.sm, e6, ?_, rel_put hn.rel k b rv, fun x hx => ?_⟩ (I.write (x := d) (e := d) (by rw [hn.at_]; exact True.intro) (.inl rfl) (fun c z hc e => (hs.2 c hc).trans e) ⟨o, e1⟩ (raw_ok e1 e2 e3 e4))
  · have := length_putK kvs k v
    omega
  · rcases mem_stored hx with ⟨z, hz', f1, f2⟩ | ⟨f1, f2⟩
    · rw [f1, f2]
      exact ⟨Dp.keep kp _ _ (hn.key z hz').1, (hn.key z hz').2⟩
    · rw [f1, f2]
      obtain ⟨g1, g2, b', e⟩ := hk
      subst e
      cases (show Value.ref b = Value.ref b' from ry)
      exact ⟨Dp.keep kp _ _ g1, g2⟩
theorem n_len {A : Around} {E : Value → Shared → Prop} {Q : Value → Shared → Prop} (I : Inv X pins σ H s) (h : DN X.prog X.w X.K H d kvs) (q : ∀ t s', Inv X pins σ H s' → Q (.int kvs.length t) s') : wpAny (model X.prog X.w) A (call (.builtin "len") [.ref d]) Q E s := by
  obtain ⟨xs, ep, hn⟩ := h
  have hz := hn.sz
  have hl : kvs.length = xs.length := Paired.length hn.rel
  have hm : s.heap.DictKeyed (nestedKind X.prog X.w) d (pairsH xs) := ⟨xs, hn.dict I, rfl⟩
  have hp : (pairsH xs).length = kvs.length := by rw [pairsH_length, hl]
  refine PyProof.Rows.call_len_slot (n := (pairsH xs).length) hm.typeIs PySem.F.slot_dict_len (fun Q' hq => len_keyed hn.sm hm hq) (by omega) (by rw [hp]; rw [sizeLine_eq] at hz; omega) ?_
  rw [hp]
  exact q _ _ (I.tok _)
end

/-! ### rules -/
section
variable (P : Program) (w : World) (K : PySem.W.Frag)
def tNIn (ty td : TE) : TE := fun σ H Q => ty σ H fun y H1 => td σ H1 fun x H2 => ∃ d kvs k, x = .ref d ∧ DN P w K H2 d kvs ∧ KeyV K H2 y k ∧ Q (.bl (valV kvs k).isSome) H2
def tNNotIn (ty td : TE) : TE := fun σ H Q => ty σ H fun y H1 => td σ H1 fun x H2 => ∃ d kvs k, x = .ref d ∧ DN P w K H2 d kvs ∧ KeyV K H2 y k ∧ Q (.bl (!(valV kvs k).isSome)) H2
def tNGet (td ty : TE) : TE := fun σ H Q => td σ H fun x H1 => ty σ H1 fun y H2 => ∃ d kvs k v, x = .ref d ∧ DN P w K H2 d kvs ∧ KeyV K H2 y k ∧ valV kvs k = some v ∧ Q v H2
def sNPut (td ty tv : TE) : TS := fun D σ H => tv σ H fun v H1 => td σ H1 fun x H2 => ty σ H2 fun y H3 => ∃ d kvs k, x = .ref d ∧ DN P w K H3 d kvs ∧ KeyV K H3 y k ∧ kvs.length < sizeLine ∧
  ∀ o, DN P w K (upd H3 d o) d (putK kvs k v) → D.nx σ (upd H3 d o)
def rLenN : List V → Hp → VK → Prop := fun xs H Q => ∃ d kvs, xs = [.ref d] ∧ DN P w K H d kvs ∧ Q (.int kvs.length) H
def rListN : List V → Hp → VK → Prop := fun xs H Q => ∃ d kvs, xs = [.ref d] ∧ DN P w K H d kvs ∧ ∀ p vs, H p = none → DpAll K H vs (kvs.map fun kv => kv.1.data) → Q (.ref p) (upd H p (.lst vs))
/-- {k: v} -/
def tDisp1 (tk tv : TE) : TE := fun σ H Q => ∀ p, H p = none → DN P w K (upd H p (raw P w p [] 0)) p [] → tk σ (upd H p (raw P w p [] 0)) fun y H1 => tv σ H1 fun v H2 => ∃ y' v', [(y, v)] = [(y', v')] ∧ H2 p = some (raw P w p [] 0) ∧ ∃ k, KeyV K H2 y' k ∧
  ∀ o, DN P w K (upd H2 p o) p [(k, v')] → Q (.ref p) (upd H2 p o)
/-- {} -/
def tNNew : TE := fun σ H Q => ∀ p o, H p = none → DN P w K (upd H p o) p [] → Q (.ref p) (upd H p o)
/-- the keys of a dict, one after another, while it stands -/
def Itn (d : Addr) (xs : List Ent3) (ep : Nat) : It :=
  ⟨fun i H => H d = some (raw P w d xs ep) ∧ (d == sysModules) = false ∧ i < xs.length, fun i H x H' => H' = H ∧ ∃ z, xs[i]? = some z ∧ x = .ref z.2.1, fun i H => H d = some (raw P w d xs ep) ∧ (d == sysModules) = false ∧ xs.length ≤ i⟩
def iN (td : TE) : TI := fun σ H R => td σ H fun v H1 => ∃ d kvs xs ep, v = .ref d ∧ IsN P w K H1 d kvs xs ep ∧ R (Itn P w d xs ep) H1
end
section
variable {X : Cx} {o i value : Expr} {pos pos' : Pos} {td ty tv : TE}
theorem pc_nin (hu : RoomN X.A) (hi : PE X i ty) (ho : PE X o td) : PC X .In i o (tNIn X.prog X.w X.K ty td) := by
  refine ⟨fun pins s σ H Q I h => ?_⟩
  refine thn (hi.run pins s σ H _ I h) fun iv s1 ⟨y, H1, I1, ry, q1⟩ => thn (ho.run pins s1 σ H1 _ I1 q1) fun u s2 ⟨x, H2, I2, rx, d, kvs, k, ex, hd, hk, q2⟩ => ?_
  subst ex
  obtain rfl : u = Value.ref d := rx
  exact n_in hu I2 hd hk ry fun s3 I3 => ⟨.bl (valV kvs k).isSome, H2, I3, rfl, q2⟩
theorem pc_nnotin (hu : RoomN X.A) (hi : PE X i ty) (ho : PE X o td) : PC X .NotIn i o (tNNotIn X.prog X.w X.K ty td) := by
  refine ⟨fun pins s σ H Q I h => ?_⟩
  refine thn (hi.run pins s σ H _ I h) fun iv s1 ⟨y, H1, I1, ry, q1⟩ => thn (ho.run pins s1 σ H1 _ I1 q1) fun u s2 ⟨x, H2, I2, rx, d, kvs, k, ex, hd, hk, q2⟩ => ?_
  subst ex
  obtain rfl : u = Value.ref d := rx
  exact n_notIn hu I2 hd hk ry fun s3 I3 => ⟨.bl (!(valV kvs k).isSome), H2, I3, rfl, q2⟩
theorem pe_nget (hu : RoomN X.A) (ho : PE X o td) (hi : PE X i ty) (hs : NoSl i) : PE X (.Subscript o i pos) (tNGet X.prog X.w X.K td ty) := by
  refine ⟨fun pins s σ H Q I h => ?_⟩
  refine subD_of PySem.F.slot_dict_getitem.lookup hs (thn (ho.run pins s σ H _ I h) fun u s1 ⟨x, H1, I1, rx, q1⟩ => thn (hi.run pins s1 σ H1 _ I1 q1) fun iv s2 ⟨y, H2, I2, ry, d, kvs, k, v, ex, hd, hk, hv, q2⟩ => ?_)
  subst ex
  obtain rfl : u = Value.ref d := rx
  refine ⟨?_, n_getItem hu I2 hd hk ry hv fun w' s3 I3 rw' => ⟨v, H2, I3, rw', q2⟩⟩
  obtain ⟨xs, ep, hn⟩ := hd
  exact (hn.dict I2).typeIs
theorem ps_nput (hu : RoomN X.A) (ho : PE X o td) (hi : PE X i ty) (hv : PE X value tv) (hs : swapsWith value (some (.Subscript o i pos')) pos.line X.env = pure false) :
    PS X (.Assign [.Subscript o i pos'] value pos) (sNPut X.prog X.w X.K td ty tv) := by
  refine ⟨fun pins s σ H D I h => ?_⟩
  refine wpAny_Assign_Subscript (thn (hv.run pins s σ H _ I h) fun r s1 ⟨v, H1, I1, rv, q1⟩ => thn (ho.run pins s1 σ H1 _ I1 q1) fun u s2 ⟨x, H2, I2, rx, q2⟩ => thn (hi.run pins s2 σ H2 _ I2 q2) fun iv s3 ⟨y, H3, I3, ry, d, kvs, k, ex, hd, hk, hz, q3⟩ => ?_) hs
  subst ex
  obtain rfl : u = Value.ref d := rx
  exact n_setItem hu I3 hd hk ry rv hz fun o s4 hd' I4 => ⟨σ, _, I4, q3 o hd'⟩
theorem call_lenN : CallR X (.builtin "len") (rLenN X.prog X.w X.K) := by
  intro pins s σ H xs us Q I r h
  obtain ⟨d, kvs, rfl, hd, q⟩ := h
  obtain ⟨u, rfl, ru⟩ := vals1 r
  cases ru
  exact n_len I hd fun t s' I' => ⟨.int kvs.length, H, I', ⟨t, rfl⟩, q⟩
theorem entries_at {P : Program} {w : World} {es : Array DictEntry} {xs : List Ent3} (he : es.toList = xs.map (entryOfKey (nestedKind P w))) {j : Nat} {en : DictEntry} (h : es[j]? = some en) : ∃ z, xs[j]? = some z ∧ en.key = .ref z.2.1 := by
  have e := entry_at he j
  rw [h] at e
  cases hx : xs[j]? with
  | none =>
    rw [hx] at e
    exact nomatch (show some en = none from e)
  | some z =>
    rw [hx] at e
    have e2 : en = entryOfKey (nestedKind P w) z := Option.some.inj e
    exact ⟨z, rfl, by rw [e2]; rfl⟩
theorem call_listN (hc : X.calm = true) : CallR X (.type "list") (rListN X.prog X.w X.K) := by
  intro pins s σ H us0 us Q I r h
  obtain ⟨d, kvs, rfl, ⟨xs, ep, hn⟩, q⟩ := h
  obtain ⟨u, rfl, rx⟩ := r.one
  cases rx
  obtain ⟨o, es, ho, hx, hdt, he⟩ := hn.rawAt I
  have l1 : es.size = xs.length := size_of_entries he
  have l2 : kvs.length = xs.length := Paired.length hn.rel
  have hz := hn.sz
  refine PySem.W.kdl_call (kdl_raw hn.sm hx hdt) (I.ok.hd hc) ho (by omega) fun h' tk acc' c' kp e it => ?_
  have ea : acc'.toList = xs.map fun x => Value.ref x.2.1 := by
    have hl : acc'.toList.length = xs.length := by rw [Array.length_toList, it.1]; exact l1
    apply List.ext_getElem?
    intro j
    rw [List.getElem?_map]
    cases hj : acc'.toList[j]? with
    | none =>
      have h1 := List.getElem?_eq_none_iff.mp hj
      rw [List.getElem?_eq_none (by omega)]
      all_goals rfl
    | some v =>
      obtain ⟨en, hen, hv⟩ := it.2 j v (by rw [← Array.getElem?_toList]; exact hj)
      obtain ⟨z, hz1, hz2⟩ := entries_at he hen
      rw [hz1, hv, hz2]
      all_goals rfl
  have eb : acc'.toList = (xs.map fun x => x.2.1).map Value.ref := by rw [ea, List.map_map]; all_goals rfl
  have rv : Vals ((xs.map fun x => x.2.1).map V.ref) acc'.toList := by rw [eb]; exact vals_refs _
  have hz : ((xs.map fun x => x.2.1).map V.ref).length ≤ sizeLine := by rw [List.length_map, List.length_map]; omega
  refine ⟨.ref s.heap.objs.size, _, I.laid (t' := tk) (o := .lst ((xs.map fun x => x.2.1).map V.ref)) kp (Nat.le_refl _) ?_, rfl, q _ _ (I.hok.fresh (Nat.le_refl _)) ?_⟩
  · exact ⟨hz, acc'.toList, c', rv, by rw [Array.toArray_toList]; exact e⟩
  · have ek : (kvs.map fun kv => kv.1.data) = xs.map fun x => x.1.data := by
      have := congrArg (List.map NestedKey.data) hn.keys
      rw [List.map_map, List.map_map] at this
      exact this
    rw [ek, List.map_map]
    have : ∀ l : List Ent3, (∀ x ∈ l, Dp X.K H (.ref x.2.1) x.1.data) → DpAll X.K H (l.map (V.ref ∘ fun x => x.2.1)) (l.map fun x => x.1.data) := by
      intro l
      induction l with
      | nil => intro _; exact .nil
      | cons x l ih => intro hl; exact .cons (hl x List.mem_cons_self) (ih fun y hy => hl y (List.mem_cons_of_mem _ hy))
    exact this xs fun x hx => (hn.key x hx).1
theorem raw_empty {P : Program} {w : World} {H : Hp} (h : Heap) : ObjOk P w H (h.push { cls := .type "dict", data := .dict #[] }) h.objs.size (raw P w h.objs.size [] 0) :=
  raw_ok (o := { cls := .type "dict", data := .dict #[] }) (es := #[]) (Heap.get?_push_size _ rfl) ⟨rfl, rfl, rfl⟩ rfl rfl
theorem isN_empty {P : Program} {w : World} {K : PySem.W.Frag} {H : Hp} {d : Addr} (hd : (d == sysModules) = false) : IsN P w K (upd H d (raw P w d [] 0)) d [] [] 0 :=
  ⟨upd_same, hd, List.nodup_nil, Nat.zero_le _, .nil, fun _ hx => nomatch hx⟩
theorem pe_nnew : PE X (.Dict [] [] pos) (tNNew X.prog X.w X.K) := ⟨fun pins s σ H Q I h =>
  wpAny_Dict_empty ⟨.ref s.heap.objs.size, _, I.laid (a := s.heap.objs.size) (o := raw X.prog X.w s.heap.objs.size [] 0) (t' := s.toks) (fun _ _ q => Heap.get?_push_of_some _ q) (Nat.le_refl _) (raw_empty s.heap), rfl,
    h _ _ (I.hok.fresh (Nat.le_refl _)) ⟨_, _, isN_empty (beq_eq_false_iff_ne.mpr (Ne.symm (Nat.ne_of_lt I.big)))⟩⟩⟩
/-- a display of one pair, the key's own tuple told -/
theorem disp_one {P : Program} {w : World} {A : Around} {E : Value → Shared → Prop} {s : Shared} {env : Env} {k v : Expr} {pos : Pos} {Q : Value → Shared → Prop} (hu : (nestedKind P w).room A)
    (h : wpAny (model P w) A (evalPairs (pairTrees [some k] [v] env pos)) (fun vs s1 => ∃ ps, CarriesH (nestedKind P w) s1.heap vs ps ∧ s1.heap.DictOfH (nestedKind P w) s.heap.objs.size [] ∧
      ∀ h' tk, h'.DictOfH (nestedKind P w) s.heap.objs.size (storedAllH [] ps) → Heap.SameBut s.heap.objs.size s1.heap h' → Q (.ref s.heap.objs.size) { s1 with heap := h', toks := tk }) E
      { s with heap := s.heap.push { cls := .type "dict", data := .dict #[] } }) : wpAny (model P w) A (eval (.Dict [some k] [v] pos) env) Q E s := by
  rw [arm_eval_Dict, show (evalEachOpt [some k] env).zip ((evalEach [v] env).map fun v => do let x ← v; standAt pos; pure x) = (pairTrees [some k] [v] env pos).map (fun p => (some p.1, p.2)) from rfl, dictDisplay_pairs (pairTrees [some k] [v] env pos) (List.cons_ne_nil _ _) (by show 1 < 17; decide)]
  refine wpAny_bind (wpAny_standAt (wpAny_bind (wpAny_subDictH (knd := nestedKind P w) (Q := fun d s' => wpAny (model P w) A (pure (Value.ref d)) Q E s') hu (by show 1 ≤ 15; decide) ?_)))
  exact thn h fun vs s1 ⟨ps, a, b, c⟩ => ⟨ps, a, b, fun h' tk x y => wpAny_pure (c h' tk x y)⟩
theorem pe_disp1 {k v : Expr} {tk tv : TE} (hu : RoomN X.A) (hk : PE X k tk) (hv : PE X v tv) : PE X (.Dict [some k] [v] pos) (tDisp1 X.prog X.w X.K tk tv) := by
  refine ⟨fun pins s σ H Q I h => ?_⟩
  have hn := I.hok.fresh (Nat.le_refl s.heap.objs.size)
  have sm : (s.heap.objs.size == sysModules) = false := beq_eq_false_iff_ne.mpr (Ne.symm (Nat.ne_of_lt I.big))
  have I1 := I.laid (a := s.heap.objs.size) (o := raw X.prog X.w s.heap.objs.size [] 0) (h' := s.heap.push { cls := .type "dict", data := .dict #[] }) (t' := s.toks) (fun _ _ q => Heap.get?_push_of_some _ q) (Nat.le_refl _) (raw_empty s.heap)
  have hpp : PPs X pos [some k] [v] [(tk, tv)] := pps_cons hk hv pps_nil
  have hq := h _ hn ⟨_, _, isN_empty sm⟩
  refine disp_one (RoomN.k0 hu) ?_
  refine thn (hpp.run pins _ σ _ (fun ps H2 => ∃ y v, ps = [(y, v)] ∧ H2 s.heap.objs.size = some (raw X.prog X.w s.heap.objs.size [] 0) ∧ ∃ k, KeyV X.K H2 y k ∧ ∀ o, DN X.prog X.w X.K (upd H2 s.heap.objs.size o) s.heap.objs.size [(k, v)] → Q (.ref s.heap.objs.size) (upd H2 s.heap.objs.size o)) I1 ?_) fun ws s2 h2 => ?_
  · exact hq
  · obtain ⟨ps, H2, I2, rel, y, v, rfl, e, k, hkey, q⟩ := h2
    cases rel with
    | @cons p q1 ps qs r t =>
      cases t
      obtain ⟨r1, r2⟩ := r
      obtain ⟨u1, u2⟩ := q1
      obtain ⟨b, eb, his⟩ := hkey.is I2 r1
      have eb : u1 = .ref b := eb
      subst eb
      have hN0 : IsN X.prog X.w X.K H2 s.heap.objs.size [] [] 0 := ⟨e, sm, List.nodup_nil, Nat.zero_le _, .nil, fun _ hx => nomatch hx⟩
      refine ⟨[(k, b, u2)], ⟨rfl, rfl, his, trivial⟩, hN0.dict I2, fun h' tk hm hs => ?_⟩
      have e0 : storedAllH [] [(k, b, u2)] = [(k, b, u2)] := rfl
      rw [e0] at hm
      obtain ⟨o, es, ep', e1, e2, e3, e4, _, e6⟩ := hm
      have kp : KeepS H2 (upd H2 s.heap.objs.size (raw X.prog X.w s.heap.objs.size [(k, b, u2)] ep')) := KeepS.upd (by rw [e]; exact True.intro)
      refine ⟨.ref s.heap.objs.size, _, I2.write (x := s.heap.objs.size) (e := s.heap.objs.size) (by rw [e]; exact True.intro) (.inl rfl) (fun c z hc e => (hs.2 c hc).trans e) ⟨o, e1⟩ (raw_ok e1 e2 e3 e4), rfl, q _ ⟨_, _, upd_same, sm, e6, by rw [sizeLine_eq]; show 1 ≤ _; omega, .cons ⟨rfl, r2⟩ .nil, fun x hx => ?_⟩⟩
      obtain rfl : x = (k, b, u2) := List.mem_singleton.mp hx
      obtain ⟨g1, g2, b', e'⟩ := hkey
      have e' : y = .ref b' := e'
      subst e'
      cases (show Value.ref b = Value.ref b' from r1)
      exact ⟨Dp.keep kp _ _ g1, g2⟩
theorem turn_n {P : Program} {w : World} {K : PySem.W.Frag} {tg : Expr} {d : Addr} {xs : List Ent3} {ep : Nat} (it : Addr) : Turn P w K tg (Itn P w d xs ep) [it] it (fun i h => h.IsKeyIter it d i xs.length ep) where
  mem := by simp
  obj := fun i h st b hb => by
    have e : b = it := by simpa using hb
    subst e
    obtain ⟨oi, e, cc, dd⟩ := st
    exact ⟨oi, e, fun v z => by rw [dd] at z; cases z⟩
  keep := fun i h h' st k => st.at fun oi e => k it (by simp) oi e
  item := by
    intro X hP hw hK hc i pins s σ H E I hf st hg
    subst hP hw hK
    obtain ⟨hd, _, hi⟩ := hg
    obtain ⟨f0, f1, f2, f3, f4, f5⟩ := hf it (by simp)
    obtain ⟨o, es, ho, hx, hdt, he⟩ := (show ObjOk X.prog X.w H s.heap d (raw X.prog X.w d xs ep) from I.hok d _ hd).1
    have l1 : es.size = xs.length := size_of_entries he
    have hi' : i < es.size := by omega
    have hes : es[i]? = some es[i] := Array.getElem?_eq_getElem hi'
    obtain ⟨z, hz1, hz2⟩ := entries_at he hes
    refine next_key_item (n := xs.length) st ho hdt l1 hes fun h' hit' sb => ?_
    have I1 : Inv X pins σ H { s with heap := h' } := I.turned (t' := s.toks) (fun b ob hb e => (sb.2 b hb).trans e) f0 f1 f3 f4 f5
    obtain ⟨oi, e, cc, dd⟩ := id hit'
    exact ⟨es[i].key, rfl, go_of (s := { s with heap := h' }) e cc dd (by decide) ⟨.ref z.2.1, H, I1, hz2, ⟨rfl, z, hz1, rfl⟩, hit', fun b hb => (hf b hb).1⟩⟩
  done := by
    intro X hP hw hK hc i pins s σ H E I hf st hg
    subst hP hw hK
    obtain ⟨hd, _, hi⟩ := hg
    obtain ⟨f0, f1, f2, f3, f4, f5⟩ := hf it (by simp)
    obtain ⟨o, es, ho, hx, hdt, he⟩ := (show ObjOk X.prog X.w H s.heap d (raw X.prog X.w d xs ep) from I.hok d _ hd).1
    have l1 : es.size = xs.length := size_of_entries he
    exact next_key_end (I.ok.hd hc) st ho hdt l1 (by omega) fun h' eb => ⟨rfl, I.turned (t' := s.toks) (fun b ob hb e => eb b ob hb e) f0 f1 f3 f4 f5⟩
  self := fun _ _ _ _ _ st h => wpAny_pyIter_keyiter st h
theorem pi_n {tg e : Expr} {td : TE} (he : PE X e td) : PI X tg e (iN X.prog X.w X.K td) := by
  refine ⟨fun pins s σ H R I h => ?_⟩
  refine thn (he.run pins s σ H _ I h) fun v s1 ⟨x, H1, I1, r1, d, kvs, xs, ep, ex, hn, q⟩ => ?_
  subst ex
  cases r1
  obtain ⟨o, es, ho, hx, hdt, he'⟩ := hn.rawAt I1
  have l1 : es.size = xs.length := size_of_entries he'
  refine iter_keys hn.sm ho hx hdt ?_
  refine ⟨s1.heap.objs.size, [s1.heap.objs.size], _, Itn X.prog X.w d xs ep, H1, rfl, I1.kept (t' := s1.toks) fun b ob z => Heap.get?_push_of_some _ z, turn_n _, ?_, fun b hb => ?_, q⟩
  · rw [l1]
    exact ⟨_, Heap.get?_push_size _ rfl, rfl, rfl⟩
  · have e : b = s1.heap.objs.size := by simpa using hb
    subst e
    exact I1.fpOk (Nat.le_refl _) (I1.hok.fresh (Nat.le_refl _))
end
/-- for over the keys of a dict that the body leaves as it is -/
theorem for_n {P : Program} {w : World} {d : Addr} {xs : List Ent3} {ep : Nat} {g : TG} {tb : TS} {D : Ends} {σ : L2.St} {H : Hp} (hd : (d == sysModules) = false) (Pv : Nat → L2.St → Hp → Prop) (h0 : Pv 0 σ H) (hl : ∀ i σ H, i ≤ xs.length → Pv i σ H → H d = some (raw P w d xs ep))
    (hs : ∀ i z σ H, xs[i]? = some z → Pv i σ H → g (.ref z.2.1) σ H fun σ2 H2 => tb { D with nx := Pv (i + 1), ct := Pv (i + 1), bk := D.nx } σ2 H2) (hn : ∀ σ H, Pv xs.length σ H → D.nx σ H) :
    ∃ W : Nat → Nat → L2.St → Hp → Prop, (∃ m, W 0 m σ H) ∧ ∀ i m σ H, W i m σ H →
      ((Itn P w d xs ep).stop i H ∧ D.nx σ H) ∨ ((Itn P w d xs ep).go i H ∧ ∃ N : L2.St → Hp → Prop, (∀ σ' H', N σ' H' → ∃ m', m' < m ∧ W (i + 1) m' σ' H') ∧ ∀ x H', (Itn P w d xs ep).yld i H x H' → g x σ H' fun σ2 H2 => tb { D with nx := N, ct := N, bk := D.nx } σ2 H2) := by
  refine ⟨fun i m σ H => m = xs.length - i ∧ i ≤ xs.length ∧ Pv i σ H, ⟨xs.length, by simp, Nat.zero_le _, h0⟩, ?_⟩
  rintro i m σ H ⟨rfl, hi, p⟩
  have q := hl i σ H hi p
  by_cases hlt : i < xs.length
  · refine .inr ⟨⟨q, hd, hlt⟩, Pv (i + 1), fun σ' H' p' => ⟨xs.length - (i + 1), by omega, rfl, hlt, p'⟩, fun x H' y => ?_⟩
    obtain ⟨e, z, hz, ex⟩ := y
    subst e ex
    exact hs i z σ _ hz p
  · have e : i = xs.length := by omega
    subst e
    exact .inl ⟨⟨q, hd, Nat.le_refl _⟩, hn σ H p⟩
/-- a comprehension over them -/
theorem lc_n {P : Program} {w : World} {d : Addr} {xs : List Ent3} {ep : Nat} {g : TG} {tt : TT} {te : TE} {vs : List Nat} {σ : L2.St} {H1 : Hp} {D : Addr} {Qd : Hp → Prop} (hd : (d == sysModules) = false) (Pv : Nat → Hp → Prop) (h0 : Pv 0 (upd H1 D (.lst []))) (hl : ∀ i H, i ≤ xs.length → Pv i H → H d = some (raw P w d xs ep))
    (hs : ∀ i z H, xs[i]? = some z → Pv i H → g (.ref z.2.1) (wipe σ vs) H fun σ2 H2 => wipe σ2 vs = wipe σ vs ∧ tt σ2 H2 fun b H3 => if b = true then te σ2 H3 fun y H4 => ∃ acc, H4 D = some (.lst acc) ∧ acc.length < sizeLine ∧ Pv (i + 1) (upd H4 D (.lst (acc ++ [y]))) else Pv (i + 1) H3)
    (hn : ∀ H, Pv xs.length H → Qd H) :
    ∃ W : Nat → Nat → Hp → Prop, (∃ m, W 0 m (upd H1 D (.lst []))) ∧ ∀ i m H, W i m H →
      ((Itn P w d xs ep).stop i H ∧ Qd H) ∨ ((Itn P w d xs ep).go i H ∧ ∃ N : Hp → Prop, (∀ H', N H' → ∃ m', m' < m ∧ W (i + 1) m' H') ∧ ∀ x H', (Itn P w d xs ep).yld i H x H' → g x (wipe σ vs) H' fun σ2 H2 => wipe σ2 vs = wipe σ vs ∧
        tt σ2 H2 fun b H3 => if b = true then te σ2 H3 fun y H4 => ∃ acc, H4 D = some (.lst acc) ∧ acc.length < sizeLine ∧ N (upd H4 D (.lst (acc ++ [y]))) else N H3) := by
  refine ⟨fun i m H => m = xs.length - i ∧ i ≤ xs.length ∧ Pv i H, ⟨xs.length, by simp, Nat.zero_le _, h0⟩, ?_⟩
  rintro i m H ⟨rfl, hi, p⟩
  have q := hl i H hi p
  by_cases hlt : i < xs.length
  · refine .inr ⟨⟨q, hd, hlt⟩, Pv (i + 1), fun H' p' => ⟨xs.length - (i + 1), by omega, rfl, hlt, p'⟩, fun x H' y => ?_⟩
    obtain ⟨e, z, hz, ex⟩ := y
    subst e ex
    exact hs i z _ hz p
  · have e : i = xs.length := by omega
    subst e
    exact .inl ⟨⟨q, hd, Nat.le_refl _⟩, hn H p⟩

/-! ### sorted(list of data) -/
def rSortN {β : Type} (K : PySem.W.Frag) (enc : β → PyData) (dp : Nat) : List V → Hp → VK → Prop := fun xs H Q => ∃ (a : Addr) (vs : List V) (bs : List β), xs = [V.ref a] ∧ SqL K H a vs ∧ DpAll K H vs (bs.map enc) ∧ PySem.W.AllAlike (bs.map enc) ∧ PySem.W.Sortable (bs.map enc) ∧ bs.length ≤ sizeLine ∧
  (∀ b ∈ bs, (enc b).depth ≤ dp) ∧ ∀ (p : Addr) (vs' : List V) (bs' : List β), H p = none → bs'.Perm bs → DpAll K H vs' (bs'.map enc) → Q (.ref p) (upd H p (.lst vs'))
theorem cr_sortedN {X : Cx} {β : Type} (enc : β → PyData) (dp : Nat) (hu : X.A.units + 2 + dp < cLine) : CallR X (.builtin "sorted") (rSortN X.K enc dp) := by
  intro pins s σ H xs us Q I r h
  obtain ⟨a, vs, bs, rfl, hs, hd, hal, hk, hz, hdep, q⟩ := h
  obtain ⟨u, rfl, rx⟩ := r.one
  cases rx
  obtain ⟨its, rv, pl, hlen⟩ := I.list hs
  obtain ⟨as, hr⟩ := Dp.readsAll I _ _ its hd rv
  -- each value with what it stands for: some v, related, that is the datum
  have ee : ∀ {vs : List V} {its : List Value} {bs : List β}, DpAll X.K H vs (bs.map enc) → Vals vs its → PySem.W.EachIs (fun u b => ∃ v, RelV v u ∧ Dp X.K H v (enc b)) its bs := by
    intro vs its bs h1 h2
    induction bs generalizing vs its with
    | nil =>
      rw [List.map_nil] at h1
      cases h1
      cases h2
      exact .nil
    | cons b bs ih =>
      rw [List.map_cons] at h1
      cases h1 with
      | cons g1 g2 =>
        cases h2 with
        | cons g3 g4 => exact .cons ⟨_, g3, g1⟩ (ih g2 g4)
  refine PySem.W.sorted_data (vs := its) (bs := bs) (enc := enc) (R := fun u b => ∃ v, RelV v u ∧ Dp X.K H v (enc b)) pl.isList (ee hd rv) (PySem.W.readsAll_each enc hr) hal hk hz (fun b hb => by have := hdep b hb; omega) fun out ho hp => ?_
  obtain ⟨ep, he'⟩ := PyProof.Rows.sortedAll_at s.heap its out.toArray
  have back : ∀ {its : List Value} {bs : List β}, PySem.W.EachIs (fun u b => ∃ v, RelV v u ∧ Dp X.K H v (enc b)) its bs → ∃ vs, Vals vs its ∧ DpAll X.K H vs (bs.map enc) := by
    intro its bs h1
    induction h1 with
    | nil => exact ⟨[], .nil, .nil⟩
    | cons g _ ih =>
      obtain ⟨v, g1, g2⟩ := g
      obtain ⟨vs, i1, i2⟩ := ih
      exact ⟨v :: vs, .cons g1 i1, .cons g2 i2⟩
  obtain ⟨vs', r1, r2⟩ := back hp
  have hl : vs'.length ≤ sizeLine := by rw [r1.length, ho]; exact hz
  exact ⟨.ref _, upd H (s.heap.objs.size + 1) (.lst vs'), I.laid (t' := s.toks) (fun _ _ => PyProof.Rows.sortedAll_old) (Nat.le_succ _) ⟨hl, out, ep, r1, he'⟩, rfl, q _ vs' _ (I.hok.fresh (Nat.le_succ _)) (List.mergeSort_perm _ _) r2⟩
end ND
end
section
set_option Elab.async false
set_option linter.all false
set_option maxRecDepth 100000
set_option maxHeartbeats 4000000
/-! What evaluates to which data: Evl's words with data in the place of values. -/
namespace DT2
open PySem PySem.Spec PyProof.Rows L2 ND
abbrev Ex := Evl.Ex
theorem exd {K : PySem.W.Frag} {H H' : Hp} {v : V} {d : PyData} (e : Ex H H') (h : Dp K H v d) : Dp K H' v d := Dp.keep (.of_ex e) _ _ h
theorem exa {K : PySem.W.Frag} {H H' : Hp} {vs : List V} {ds : List PyData} (e : Ex H H') (h : DpAll K H vs ds) : DpAll K H' vs ds := DpAll.keep (.of_ex e) _ _ h

/-- a new value standing for d, the heap extended -/
def EvD (K : PySem.W.Frag) (te : TE) (σ : L2.St) (H : Hp) (d : PyData) : Prop := ∀ H1, Ex H H1 → ∀ Q : VK, (∀ v H2, Ex H1 H2 → Dp K H2 v d → Q v H2) → te σ H1 Q
/-- arguments: values as they are, or data -/
inductive Ag where
  | v (x : V) | d (d : PyData)
def AgIs (K : PySem.W.Frag) (H : Hp) : V → Ag → Prop
  | x, .v y => x = y
  | x, .d d => Dp K H x d
theorem AgIs.ex {K : PySem.W.Frag} {H H' : Hp} (e : Ex H H') : ∀ {x : V} {a : Ag}, AgIs K H x a → AgIs K H' x a
  | _, .v _, h => h
  | _, .d _, h => exd e h
abbrev AgsAre (K : PySem.W.Frag) (H : Hp) : List V → List Ag → Prop := Paired (AgIs K H)
theorem argsEx {K : PySem.W.Frag} {H H' : Hp} (e : Ex H H') {vs : List V} {as : List Ag} (h : AgsAre K H vs as) : AgsAre K H' vs as := Paired.mapP h fun _ _ q => q.ex e
def EvAs (K : PySem.W.Frag) (ta : TA) (σ : L2.St) (H : Hp) (as : List Ag) : Prop := ∀ H1, Ex H H1 → ∀ Q : List V → Hp → Prop, (∀ vs H2, Ex H1 H2 → AgsAre K H2 vs as → Q vs H2) → ta σ H1 Q
section
variable {K : PySem.W.Frag} {σ : L2.St} {H H' : Hp} {ta tb te : TE} {t u : TT} {d e : PyData} {ds : List PyData} {x y v : V}
theorem EvD.mono (q : Ex H H') (h : EvD K te σ H d) : EvD K te σ H' d := fun H1 a Q k => h H1 (q.trans a) Q k
theorem EvD.of (h : Evl.Ev te σ H v) (q : Dp K H v d) : EvD K te σ H d := fun H1 a Q k => h H1 a Q fun H2 b => k v H2 b (exd (a.trans b) q)
theorem EvD.int {i : Int} (h : EvD K te σ H (.int i)) : Evl.Ev te σ H (.int i) := fun H1 a Q k => h H1 a Q fun v H2 b q => by cases q; exact k H2 b
theorem EvD.str {s : Str} (h : EvD K te σ H (.str s)) : Evl.Ev te σ H (.str s) := fun H1 a Q k => h H1 a Q fun v H2 b q => by cases q; exact k H2 b
theorem EvD.bl {b : Bool} (h : EvD K te σ H (.bool b)) : Evl.Ev te σ H (.bl b) := fun H1 a Q k => h H1 a Q fun v H2 b q => by cases q; exact k H2 b
theorem EvD.non (h : EvD K te σ H .none) : Evl.Ev te σ H .non := fun H1 a Q k => h H1 a Q fun v H2 b q => by cases q; exact k H2 b
theorem Ev.int {i : Int} (h : Evl.Ev te σ H (.int i)) : EvD K te σ H (.int i) := .of h (.int i)
theorem Ev.str {s : Str} (h : Evl.Ev te σ H (.str s)) : EvD K te σ H (.str s) := .of h (.str s)
theorem Ev.bl {b : Bool} (h : Evl.Ev te σ H (.bl b)) : EvD K te σ H (.bool b) := .of h (.bl b)
theorem Ev.non (h : Evl.Ev te σ H .non) : EvD K te σ H .none := .of h .non
/-- a slot that holds data -/
theorem dv {i : Nat} (h : σ[i]? = some (some v)) (q : Dp K H v d) : EvD K (tVar i) σ H d := .of (Evl.ev_var h) q
/-- t[i] -/
theorem dp_tup {a : V} (h : Dp K H a (.tuple ds)) : ∃ p xs, a = .ref p ∧ SqT K H p xs ∧ DpAll K H xs ds := by
  cases h with
  | tup h1 h2 => exact ⟨_, _, rfl, h1, h2⟩
theorem dp_lst {a : V} (h : Dp K H a (.list ds)) : ∃ p xs, a = .ref p ∧ SqL K H p xs ∧ DpAll K H xs ds := by
  cases h with
  | lst h1 h2 => exact ⟨_, _, rfl, h1, h2⟩
theorem ixN_lt {n : Nat} {i : Int} {j : Nat} (h : ixN n i = some j) : j < n := (ixN_seq h).2.1
theorem at_dp {xs : List V} {i : Int} (ha : DpAll K H xs ds) (hi : atI ds i = some d) : ∃ v, atI xs i = some v ∧ Dp K H v d := by
  have hl := ha.length
  unfold atI at hi ⊢
  rw [hl]
  cases e : ixN ds.length i with
  | none => rw [e] at hi; cases hi
  | some j =>
    rw [e] at hi
    exact ha.get hi
theorem d_ixT {i : Int} (h : EvD K ta σ H (.tuple ds)) (hi : Evl.Ev tb σ H (.int i)) (hd : atI ds i = some d) : EvD K (tOp (rIxT K) ta tb) σ H d := fun H1 a Q k =>
  h H1 a _ fun x H2 b q => hi H2 (a.trans b) _ fun H3 c => by
    obtain ⟨p, xs, rfl, h1, h2⟩ := dp_tup q
    obtain ⟨v, hv, hq⟩ := at_dp h2 hd
    exact ⟨p, xs, i, v, rfl, rfl, Evl.ex_t c h1, hv, k v H3 (b.trans c) (exd c hq)⟩
theorem d_ixL {i : Int} (h : EvD K ta σ H (.list ds)) (hi : Evl.Ev tb σ H (.int i)) (hd : atI ds i = some d) : EvD K (tOp (rIxL K) ta tb) σ H d := fun H1 a Q k =>
  h H1 a _ fun x H2 b q => hi H2 (a.trans b) _ fun H3 c => by
    obtain ⟨p, xs, rfl, h1, h2⟩ := dp_lst q
    obtain ⟨v, hv, hq⟩ := at_dp h2 hd
    exact ⟨p, xs, i, v, rfl, rfl, Evl.ex_l c h1, hv, k v H3 (b.trans c) (exd c hq)⟩
/-- comparisons of data -/
theorem d_eq (ha : EvD K ta σ H d) (hb : EvD K tb σ H e) (s1 : SeqAt.shaped d = true) (s2 : SeqAt.shaped e = true) : Evl.Ev (tOp (rEqD K) ta tb) σ H (.bl (PyData.eqv d e)) := fun H1 a Q k =>
  ha H1 a _ fun x H2 b q => hb H2 (a.trans b) _ fun y H3 c q2 => ⟨d, e, exd c q, q2, s1, s2, k H3 (b.trans c)⟩
theorem d_ne (ha : EvD K ta σ H d) (hb : EvD K tb σ H e) (s1 : SeqAt.shaped d = true) (s2 : SeqAt.shaped e = true) : Evl.Ev (tOp (rNeD K) ta tb) σ H (.bl (!PyData.eqv d e)) := fun H1 a Q k =>
  ha H1 a _ fun x H2 b q => hb H2 (a.trans b) _ fun y H3 c q2 => ⟨d, e, exd c q, q2, s1, s2, k H3 (b.trans c)⟩
theorem d_notIn (ha : EvD K ta σ H d) (hb : EvD K tb σ H (.list ds)) (s1 : SeqAt.shaped d = true) (s2 : SeqAt.shaped (.list ds) = true) : Evl.Ev (tOp (rNotInD K) ta tb) σ H (.bl (!ds.any fun z => PyData.eqv z d)) := fun H1 a Q k =>
  ha H1 a _ fun x H2 b q => hb H2 (a.trans b) _ fun y H3 c q2 => ⟨d, ds, exd c q, q2, s1, s2, k H3 (b.trans c)⟩
/-- is None -/
def isNone : PyData → Bool
  | .none => true
  | _ => false
theorem dp_non (h : Dp K H v d) : decide (v = V.non) = isNone d := by
  cases h <;> rfl
theorem d_isN (ha : EvD K ta σ H d) : Evl.Ev (tOp (fun x y H Q => y = .non ∧ Q (.bl (decide (x = .non))) H) ta (tC .non)) σ H (.bl (isNone d)) := fun H1 a Q k =>
  ha H1 a _ fun x H2 b q => ⟨rfl, by rw [dp_non q]; exact k H2 b⟩
theorem d_notN (ha : EvD K ta σ H d) : Evl.Ev (tOp (fun x y H Q => y = .non ∧ Q (.bl (!decide (x = .non))) H) ta (tC .non)) σ H (.bl (!isNone d)) := fun H1 a Q k =>
  ha H1 a _ fun x H2 b q => ⟨rfl, by rw [dp_non q]; exact k H2 b⟩

/-! ### arguments -/
theorem as_nil : EvAs K tNil σ H [] := fun H1 a Q k => k [] H1 (Evl.Ex.refl H1) .nil
theorem as_v {tr : TA} {as : List Ag} (h : Evl.Ev te σ H v) (hr : EvAs K tr σ H as) : EvAs K (tCons te tr) σ H (.v v :: as) := fun H1 a Q k =>
  h H1 a _ fun H2 b => hr H2 (a.trans b) _ fun vs H3 c q => k (v :: vs) H3 (b.trans c) (.cons rfl q)
theorem as_d {tr : TA} {as : List Ag} (h : EvD K te σ H d) (hr : EvAs K tr σ H as) : EvAs K (tCons te tr) σ H (.d d :: as) := fun H1 a Q k =>
  h H1 a _ fun v H2 b q => hr H2 (a.trans b) _ fun vs H3 c r => k (v :: vs) H3 (b.trans c) (.cons (exd c q) r)
theorem args_data : ∀ {vs : List V} {ds : List PyData}, AgsAre K H vs (ds.map .d) → DpAll K H vs ds
  | [], [], _ => .nil
  | [], _ :: _, h => nomatch h
  | _ :: _, [], h => nomatch h
  | _ :: _, _ :: _, h => by
    cases h with
    | cons h1 h2 => exact .cons h1 (args_data h2)
/-- (a, b, ..) -/
theorem d_tup {ta : TA} (h : EvAs K ta σ H (ds.map .d)) (hl : ds.length ≤ 100000 := by simp) : EvD K (tTup ta) σ H (.tuple ds) := fun H1 a Q k =>
  h H1 a _ fun vs H2 b q => by
    have q' := args_data q
    refine ⟨Evl.sz_of (by rw [q'.length]; exact hl), fun p hp => k _ _ (b.trans (Evl.Ex.new hp)) (.tup (.of upd_same) (exa (Evl.Ex.new hp) q'))⟩
theorem d_lst {ta : TA} (h : EvAs K ta σ H (ds.map .d)) (hl : ds.length ≤ 100000 := by simp) : EvD K (tLst ta) σ H (.list ds) := fun H1 a Q k =>
  h H1 a _ fun vs H2 b q => by
    have q' := args_data q
    refine ⟨Evl.sz_of (by rw [q'.length]; exact hl), fun p hp => k _ _ (b.trans (Evl.Ex.new hp)) (.lst (.of upd_same) (exa (Evl.Ex.new hp) q'))⟩
/-- a promise that hands back data: R tells what it asks of its arguments and what it gives -/
def SpD (K : PySem.W.Frag) (R : List Ag → PyData → Hp → Prop) : Sp := fun vs H Q _ => ∃ as d, AgsAre K H vs as ∧ R as d H ∧ ∀ v H', Ex H H' → Dp K H' v d → Q v H'
theorem d_call {R : List Ag → PyData → Hp → Prop} {E : XK} {ta : TA} {as : List Ag} (h : EvAs K ta σ H as) (hr : ∀ H1, Ex H H1 → R as d H1) : EvD K (tCall (SpD K R) [] E ta) σ H d := fun H1 a Q k =>
  h H1 a _ fun vs H2 b q => ⟨as, d, by rw [List.append_nil]; exact q, hr H2 (a.trans b), fun v H3 c r => k v H3 (b.trans c) r⟩
theorem d_is {d' : PyData} (h : EvD K te σ H d) (e : d = d') : EvD K te σ H d' := e ▸ h

/-! ### statements -/
variable {D : Ends} {tu tw tz : TS} {g : TG}
theorem sD_asg {i : Nat} (h : EvD K te σ H d) (k : ∀ v H1, Ex H H1 → Dp K H1 v d → D.nx (σ.set i (some v)) H1) : tAsg te (gName i) D σ H := h H (Evl.Ex.refl H) _ fun v H1 a q => k v H1 a q
theorem qD_asg {i : Nat} (h : EvD K te σ H d) (k : ∀ v H1, Ex H H1 → Dp K H1 v d → tz D (σ.set i (some v)) H1) : tSeq (tAsg te (gName i)) tz D σ H := sD_asg (D := { D with nx := tz D }) h k
theorem sD_ret (h : EvD K te σ H d) (k : ∀ v H1, Ex H H1 → Dp K H1 v d → D.rt v H1) : tRet te D σ H := h H (Evl.Ex.refl H) _ k
/-- targets one after another: what stands behind them -/
theorem qD_un {n : Nat} {ts : TGs} (h : EvD K te σ H (.tuple ds)) (hn : ds.length = n) (k : ∀ xs H1, Ex H H1 → DpAll K H1 xs ds → ts xs σ H1 (fun σ' H' => tz D σ' H')) : tSeq (tAsg te (gTup K n ts)) tz D σ H := h H (Evl.Ex.refl H) _ fun v H1 a q => by
  obtain ⟨p, xs, rfl, h1, h2⟩ := dp_tup q
  exact ⟨p, xs, rfl, h1, by rw [h2.length]; exact hn, k xs H1 a h2⟩
theorem un2 {i j : Nat} {d1 d2 : PyData} {xs : List V} {k : L2.St → Hp → Prop} (h : DpAll K H xs [d1, d2]) (q : ∀ v1 v2, Dp K H v1 d1 → Dp K H v2 d2 → k ((σ.set i (some v1)).set j (some v2)) H) : gCons (gName i) (gCons (gName j) gNil) xs σ H k := by
  cases h with
  | cons h1 h2 =>
    cases h2 with
    | cons h2 h3 =>
      cases h3
      exact ⟨_, _, rfl, _, _, rfl, rfl, q _ _ h1 h2⟩
theorem un3 {i j l : Nat} {d1 d2 d3 : PyData} {xs : List V} {k : L2.St → Hp → Prop} (h : DpAll K H xs [d1, d2, d3]) (q : ∀ v1 v2 v3, Dp K H v1 d1 → Dp K H v2 d2 → Dp K H v3 d3 → k (((σ.set i (some v1)).set j (some v2)).set l (some v3)) H) :
    gCons (gName i) (gCons (gName j) (gCons (gName l) gNil)) xs σ H k := by
  cases h with
  | cons h1 h2 =>
    cases h2 with
    | cons h2 h3 =>
      cases h3 with
      | cons h3 h4 =>
        cases h4
        exact ⟨_, _, rfl, _, _, rfl, _, _, rfl, rfl, q _ _ _ h1 h2 h3⟩
theorem un4 {i j l m : Nat} {d1 d2 d3 d4 : PyData} {xs : List V} {k : L2.St → Hp → Prop} (h : DpAll K H xs [d1, d2, d3, d4]) (q : ∀ v1 v2 v3 v4, Dp K H v1 d1 → Dp K H v2 d2 → Dp K H v3 d3 → Dp K H v4 d4 → k ((((σ.set i (some v1)).set j (some v2)).set l (some v3)).set m (some v4)) H) :
    gCons (gName i) (gCons (gName j) (gCons (gName l) (gCons (gName m) gNil))) xs σ H k := by
  cases h with
  | cons h1 h2 =>
    cases h2 with
    | cons h2 h3 =>
      cases h3 with
      | cons h3 h4 =>
        cases h4 with
        | cons h4 h5 =>
          cases h5
          exact ⟨_, _, rfl, _, _, rfl, _, _, rfl, _, _, rfl, rfl, q _ _ _ _ h1 h2 h3 h4⟩
end

/-! ### isinstance of data -/
def tyD : PyData → String
  | .none => "NoneType"
  | .bool _ => "bool"
  | .int _ => "int"
  | .str _ => "str"
  | .list _ => "list"
  | .tuple _ => "tuple"
  | .dict _ => "dict"
theorem tyX_of {K : PySem.W.Frag} {H : Hp} {v : V} {d : PyData} (h : Dp K H v d) : TyX K H v (.type (tyD d)) := by
  cases h with
  | non => exact .base .non
  | bl b => exact .base (.bl b)
  | int i => exact .base (.int i)
  | str x => exact .base (.str x)
  | lst h1 h2 =>
    rcases h1 with (h | ⟨o, h⟩) | ⟨o, its, n, h1, h2, _⟩
    · exact .base (.lst h)
    · exact .base (.frz h)
    · exact .kList h1 h2
  | tup h1 h2 =>
    rcases h1 with (h | ⟨o, h⟩) | ⟨o, its, n, h1, h2, _⟩
    · exact .base (.tup h)
    · exact .fTuple h
    · exact .kTuple h1 h2
theorem d_isi {K : PySem.W.Frag} {σ : L2.St} {H : Hp} {te : TE} {d : PyData} {n t : String} {b : Bool} (h : EvD K te σ H d) (hb : kitB t n = some b) (ht : tyD d = t := by rfl) : Evl.Ev (tCB (rIsi K) (tCons te (tCons (tC (.ty n)) tNil))) σ H (.bl b) := fun H1 a Q k =>
  h H1 a _ fun v H2 e q => ⟨v, .ty n, _, _, b, rfl, .ty n, tyX_of q, kit_ty (by rw [ht]; exact hb), k H2 e⟩
theorem kit_int_int : kitB "int" "int" = some true := by decide +kernel
theorem kit_int_bool : kitB "int" "bool" = some false := by decide +kernel
theorem kit_int_dict : kitB "int" "dict" = some false := by decide +kernel
theorem kit_int_list : kitB "int" "list" = some false := by decide +kernel
theorem kit_int_tuple : kitB "int" "tuple" = some false := by decide +kernel
theorem kit_int_str : kitB "int" "str" = some false := by decide +kernel
theorem kit_tuple_tuple : kitB "tuple" "tuple" = some true := by decide +kernel
theorem kit_tuple_dict : kitB "tuple" "dict" = some false := by decide +kernel
theorem kit_tuple_list : kitB "tuple" "list" = some false := by decide +kernel
theorem kit_list_tuple : kitB "list" "tuple" = some false := by decide +kernel
theorem kit_list_list : kitB "list" "list" = some true := by decide +kernel
/-- len of data -/
theorem d_lenT {K : PySem.W.Frag} {σ : L2.St} {H : Hp} {te : TE} {ds : List PyData} (h : EvD K te σ H (.tuple ds)) : Evl.Ev (tCB (fun xs H Q => ∃ p ys, xs = [.ref p] ∧ (SqL K H p ys ∨ SqT K H p ys) ∧ Q (.int ys.length) H) (tCons te tNil)) σ H (.int (ds.length : Nat)) := fun H1 a Q k =>
  h H1 a _ fun v H2 e q => by
    obtain ⟨p, xs, rfl, h1, h2⟩ := dp_tup q
    exact ⟨p, xs, rfl, .inr h1, by rw [h2.length]; exact k H2 e⟩
theorem d_lenL {K : PySem.W.Frag} {σ : L2.St} {H : Hp} {te : TE} {ds : List PyData} (h : EvD K te σ H (.list ds)) : Evl.Ev (tCB (fun xs H Q => ∃ p ys, xs = [.ref p] ∧ (SqL K H p ys ∨ SqT K H p ys) ∧ Q (.int ys.length) H) (tCons te tNil)) σ H (.int (ds.length : Nat)) := fun H1 a Q k =>
  h H1 a _ fun v H2 e q => by
    obtain ⟨p, xs, rfl, h1, h2⟩ := dp_lst q
    exact ⟨p, xs, rfl, .inl h1, by rw [h2.length]; exact k H2 e⟩
/-- tuple(a list), list(data) -/
theorem d_tupleOf {K : PySem.W.Frag} {σ : L2.St} {H : Hp} {te : TE} {ds : List PyData} (h : EvD K te σ H (.list ds)) :
    EvD K (tCB (fun xs H Q => ∃ p ys, xs = [.ref p] ∧ ((SqL K H p ys ∧ ∀ l, H l = none → Q (.ref l) (upd H l (.tup ys))) ∨ (SqT K H p ys ∧ Q (.ref p) H))) (tCons te tNil)) σ H (.tuple ds) := fun H1 a Q k =>
  h H1 a _ fun v H2 e q => by
    obtain ⟨p, xs, rfl, h1, h2⟩ := dp_lst q
    exact ⟨p, xs, rfl, .inl ⟨h1, fun l hl => k _ _ (e.trans (Evl.Ex.new hl)) (.tup (.of upd_same) (exa (Evl.Ex.new hl) h2))⟩⟩
theorem d_listOf {K : PySem.W.Frag} {σ : L2.St} {H : Hp} {te : TE} {ds : List PyData} (h : EvD K te σ H (.list ds)) :
    EvD K (tCB (fun xs H Q => ∃ p ys, xs = [.ref p] ∧ (SqL K H p ys ∨ SqT K H p ys) ∧ ∀ l, H l = none → Q (.ref l) (upd H l (.lst ys))) (tCons te tNil)) σ H (.list ds) := fun H1 a Q k =>
  h H1 a _ fun v H2 e q => by
    obtain ⟨p, xs, rfl, h1, h2⟩ := dp_lst q
    exact ⟨p, xs, rfl, .inl h1, fun l hl => k _ _ (e.trans (Evl.Ex.new hl)) (.lst (.of upd_same) (exa (Evl.Ex.new hl) h2))⟩
/-- divmod(i, j) -/
theorem d_divmod {K : PySem.W.Frag} {σ : L2.St} {H : Hp} {ta tb : TE} {i j : Int} (ha : Evl.Ev ta σ H (.int i)) (hb : Evl.Ev tb σ H (.int j)) (hc : CDiv i j) :
    EvD K (tCB (fun xs H Q => ∃ i j, xs = [.int i, .int j] ∧ CDiv i j ∧ ∀ p, H p = none → Q (.ref p) (upd H p (.tup [.int (i / j), .int (i % j)]))) (tCons ta (tCons tb tNil))) σ H (.tuple [.int (i / j), .int (i % j)]) := fun H1 a Q k =>
  ha H1 a _ fun H2 e => hb H2 (a.trans e) _ fun H3 e2 => ⟨i, j, rfl, hc, fun p hp => k _ _ ((e.trans e2).trans (Evl.Ex.new hp)) (.tup (.of upd_same) (.cons (.int _) (.cons (.int _) .nil)))⟩
/-- a < b < c of ints as a test, as a value -/
theorem ev_chain {r r' : R2} {σ : L2.St} {H : Hp} {ta tb tc : TE} {x y z : V} {b : Bool} {v : V} (ha : Evl.Ev ta σ H x) (hb : Evl.Ev tb σ H y) (hc : b = true → Evl.Ev tc σ H z) (h1 : Evl.RV r x y H (.bl b)) (h2 : b = true → Evl.RV r' y z H v) (hf : b = false → v = .bl false) :
    Evl.Ev (tChain r r' ta tb tc) σ H v := fun H1 a Q k =>
  ha H1 a _ fun H2 e2 => hb H2 (a.trans e2) _ fun H3 e3 => h1 H3 ((a.trans e2).trans e3) _ fun H4 e4 => ⟨b, rfl, by
    cases b with
    | true =>
      rw [if_pos rfl]
      exact hc rfl H4 (((a.trans e2).trans e3).trans e4) _ fun H5 e5 => h2 rfl H5 ((((a.trans e2).trans e3).trans e4).trans e5) _ fun H6 e6 => k H6 ((((e2.trans e3).trans e4).trans e5).trans e6)
    | false =>
      rw [if_neg Bool.false_ne_true]
      rw [hf rfl] at k
      exact k H4 ((e2.trans e3).trans e4)⟩
end DT2
end
section
set_option Elab.async false
set_option linter.all false
set_option maxRecDepth 100000
set_option maxHeartbeats 0
/-! The head: the top run once in the kernel, its facts by names. -/
namespace HD
open PySem PySem.Spec PyProof.Rows L2
def top (i : Nat) : Stmt := PySem.Challenge.pw_tapeproof_k90_whole_never.main.body.getD i (.Pass ⟨0, 0, 0, 0⟩)
def dd (x : Str) (i : Nat) (dfl : List He.Dv) : He.DefD := ⟨(x, none), x, x, defArgs (top i), defBody (top i), defScope (top i), dfl, []⟩
def dm (C m q : Str) (i j : Nat) : He.DefD := ⟨(C, some m), m, q, defArgs (inClass (top i) j), defBody (inClass (top i) j), defScope (inClass (top i) j), [], []⟩
def fn : List He.DefD := [
  dd "is_number" 8 [],
  dd "entry_kept" 9 [],
  dd "states_of" 11 [],
  dd "signs_of" 12 [],
  dd "ask_shot" 15 [],
  dd "ran" 17 [],
  dd "after_from" 18 [],
  dd "after" 19 [],
  dd "stops_at" 20 [],
  dd "trail" 21 [],
  dd "is_round" 23 [],
  dd "takes_same" 24 [],
  dd "cells_from" 25 [],
  dd "is_shifted" 26 [],
  dd "takes_shifted" 27 [],
  dd "same_of" 29 [],
  dd "first_shifted" 30 [],
  dd "shifted_of" 31 [],
  dd "entry_of" 33 [],
  dd "machine_of" 34 [],
  dd "is_gram" 36 [],
  dd "is_context" 37 [],
  dd "is_row" 38 [],
  dd "wall_formed" 39 [],
  dd "names_of" 40 [],
  dd "contexts_behind" 41 [],
  dd "entry_at" 42 [],
  dd "closed_under" 43 [],
  dd "wall_taken" 44 [],
  dd "grown_once" 45 [],
  dd "wall_of" 46 [],
  dd "first_wall" 49 [],
  dd "shown" 50 [.int 2],
  dd "takes" 87 [],
  dd "_law_next" 89 [],
  dd "_law_same" 90 [],
  dd "_law_table" 91 [],
  dd "_law_sign" 92 [],
  dd "_law_context" 93 [],
  dd "_law_stopped" 94 [],
  dd "_law_round" 95 [],
  dd "_law_shifted" 96 [],
  dd "_law_fenced" 97 [],
  dd "_law_never" 98 [],
  dd "_law_case" 99 [],
  dd "law" 100 [],
  dm "Machine" "__init__" "Machine.__init__" 10 0,
  dm "Run" "__init__" "Run.__init__" 16 0,
  dm "Run" "step" "Run.step" 16 1,
  dm "Run" "shot" "Run.shot" 16 2]
def fa : List He.Fa := [
  .glo "is_number",
  .glo "entry_kept",
  .glo "states_of",
  .glo "signs_of",
  .glo "ask_shot",
  .glo "ran",
  .glo "after_from",
  .glo "after",
  .glo "stops_at",
  .glo "trail",
  .glo "is_round",
  .glo "takes_same",
  .glo "cells_from",
  .glo "is_shifted",
  .glo "takes_shifted",
  .glo "same_of",
  .glo "first_shifted",
  .glo "shifted_of",
  .glo "entry_of",
  .glo "machine_of",
  .glo "is_gram",
  .glo "is_context",
  .glo "is_row",
  .glo "wall_formed",
  .glo "names_of",
  .glo "contexts_behind",
  .glo "entry_at",
  .glo "closed_under",
  .glo "wall_taken",
  .glo "grown_once",
  .glo "wall_of",
  .glo "first_wall",
  .glo "shown",
  .glo "takes",
  .glo "_law_next",
  .glo "_law_same",
  .glo "_law_table",
  .glo "_law_sign",
  .glo "_law_context",
  .glo "_law_stopped",
  .glo "_law_round",
  .glo "_law_shifted",
  .glo "_law_fenced",
  .glo "_law_never",
  .glo "_law_case",
  .glo "law",
  .glo "Machine",
  .glo "Run",
  .glo "FIRST",
  .free "isinstance",
  .free "int",
  .free "bool",
  .free "tuple",
  .free "list",
  .free "dict",
  .free "str",
  .free "len",
  .free "all",
  .free "sorted",
  .free "range",
  .free "reversed",
  .free "enumerate",
  .free "zip",
  .free "max",
  .free "min",
  .free "divmod",
  .cls "Machine",
  .cls "Run",
  .noat "Machine" "table",
  .noat "Run" "table",
  .noat "Run" "state",
  .noat "Run" "place",
  .noat "Run" "cells",
  .meth "Run" "step",
  .meth "Run" "shot",
  .mkr "Machine",
  .mkr "Run",
  .int "MOST_CONTEXTS" 200]
/-- where the empty tuple of FIRST stands -/
def emp (K : PySem.W.Frag) : Addr := match K.lookup (He.ga K "FIRST") with
  | some ⟨_, _, .seq its _, _⟩ => (match its.toList with
    | [_, _, .ref a] => a
    | _ => 0)
  | _ => 0
def tupAt (K : PySem.W.Frag) (a : Addr) (vs : List V) : Bool := match K.lookup a with
  | some ⟨.type c, _, .seq its _, _⟩ => decide (c = "tuple") && (decide (its.size ≤ sizeLine) && He.relAll vs its.toList)
  | _ => false
theorem tupAt_ok {K : PySem.W.Frag} {a : Addr} {vs : List V} (h : tupAt K a vs = true) (H : Hp) : SqT K H a vs := by
  unfold tupAt at h
  cases q : K.lookup a with
  | none =>
    rw [q] at h
    cases h
  | some o =>
    obtain ⟨oc, od, dt, osl⟩ := o
    rw [q] at h
    cases oc with
    | type c =>
      cases dt with
      | seq its n =>
        obtain ⟨h1, h2⟩ := He.ba (show (decide (c = "tuple") && (decide (its.size ≤ sizeLine) && He.relAll vs its.toList)) = true from h)
        obtain ⟨h3, h4⟩ := He.ba h2
        exact .inr ⟨_, its, n, q, congrArg Value.type (of_decide_eq_true h1), rfl, of_decide_eq_true h3, He.relAll_ok h4⟩
      | _ => cases h
    | _ => cases dt <;> cases h
def ex (K : PySem.W.Frag) : Bool := tupAt K (He.ga K "FIRST") [.int 0, .int 0, .ref (emp K)] && tupAt K (emp K) []
def loose0 : List Str := ["TapeError", "NoMachine", "NoNumber", "NoShot", "NoShape", "NoWidth", "is_number", "entry_kept", "Machine", "states_of", "signs_of", "FIRST", "ask_shot", "Run", "ran", "after_from", "after", "stops_at", "trail", "is_round", "takes_same", "cells_from", "is_shifted", "takes_shifted", "same_of", "first_shifted", "shifted_of", "entry_of", "machine_of", "is_gram"]
def loose1 : List Str := ["is_context", "is_row", "wall_formed", "names_of", "contexts_behind", "entry_at", "closed_under", "wall_taken", "grown_once", "wall_of", "MOST_CONTEXTS", "first_wall", "shown", "is_count", "is_word", "is_token", "tokens_kept", "shape_kept", "cells_of", "laid_out", "tokens_raised", "raised", "tokens_turned", "MOST_WITHIN", "signs_in", "shape_for", "next_token", "without_next", "step_done", "word_left"]
def loose2 : List Str := ["over_done", "open_done", "row_joined", "row_drawn", "row_rolled", "row_unrolled", "at_many", "at_end", "row_moved", "side_done", "is_plain", "names_side", "move_done", "led_on", "stands_so", "takes_grow", "takes", "_law_next", "_law_same", "_law_table", "_law_sign", "_law_context", "_law_stopped", "_law_round", "_law_shifted", "_law_fenced", "_law_never", "_law_case"]
def loose : List Str := loose0 ++ loose1 ++ loose2
abbrev R : PySem.W.OpenRow := PySem.W.OpenLaw.row PySem.Challenge.rw_tapeproof_k90_whole_never
abbrev hk : PySem.W.Hook := He.hookX 4 fa fn [] [] ex
def ob (s : PySem.W.SharedT) : He.AlX := He.obsX 4 fa fn [] [] ex (HandSHeadRun.getT s)
theorem ob_eq (s : PySem.W.SharedT) : ob s = hk.obs s.abs := He.obsX_eq (HandSHeadRun.getT_eq s)
theorem glue {α β γ δ : Type} {o : Option α} {f : α → β} {g : α → γ} {k : α → δ} {b : β} {c : γ} {d : δ} (h1 : o.map (fun s => (f s, g s)) = some (b, c)) (h2 : o.map k = some d) : o.map (fun s => (f s, g s, k s)) = some (b, c, d) := by
  cases o with
  | none => cases h1
  | some a =>
    have e1 : (f a, g a) = (b, c) := Option.some.inj h1
    have e2 : k a = d := Option.some.inj h2
    have e3 : f a = b := congrArg Prod.fst e1
    have e4 : g a = c := congrArg Prod.snd e1
    rw [Option.map_some, e3, e4, e2]
noncomputable abbrev endS (w : World) (os : OsState) : Option PySem.W.SharedT := HandSHeadRun.endF (HandSHeadRun.stepQ (HandSHeadRun.denQ HandSHeadRun.tabQ) R.prog w) 30000 R.prog w os
theorem run1 (w : World) (os : OsState) : (endS w os).map (fun s => (HandSHeadRun.looksF R.prog (PySem.W.boot_heap w.params) s.abs, HandSHeadRun.seenQ (PySem.W.view R.prog [100]) loose (PySem.importedModules R.prog.main.body) (fun s => PySem.W.xlAt (PySem.W.view R.prog [100]) [] s && PySem.W.recOk R.toRowW.records s) s.abs)) = some (true, PySem.W.openGood (PySem.W.view R.prog [100]) loose) := by
  kernel_rfl
theorem run2 (w : World) (os : OsState) : (endS w os).map ob = some (hk.val w) := by
  kernel_rfl
theorem run (w : World) : HandSHeadRun.RunEq R (PySem.W.view R.prog [100]) hk ob 30000 loose w := fun os => by
  exact glue (run1 w os) (run2 w os)
end HD
end
section
set_option Elab.async false
set_option linter.all false
set_option maxRecDepth 100000
set_option maxHeartbeats 0
namespace HD
open PySem PySem.Spec PyProof.Rows L2
/-- what the walk is to show -/
def LawOk (k : Nat) : Prop := ∀ (w : World) (mg : Str → Option Value) (h : Heap) (K : PySem.W.Frag), K.In h → h.Ns mainGlobals mg → He.SaysX fa fn [] [] ex w h K →
  ∃ (fd : FuncData) (sp : Sp), (∀ (s : Shared) (v : Value), BindsTo s fd ⟨[v], []⟩ [("_law_script", v)]) ∧
    (∀ (H : Hp) (a : Addr) (ns : List Int), ns.length ≤ 63 → SqL K H a (ns.map V.int) → sp [.ref a] H (fun v _ => v = .bl true) fun _ _ _ => False) ∧
    ∀ base : Heap, K.In base → base.Ns mainGlobals mg → FnOk PySem.Challenge.rw_tapeproof_k90_whole_never.prog w K mg base CX0 k (He.ga K "law") fd ["_law_script"] sp
end HD
open PySem PySem.W PySem.Calls PyProof.Rows
namespace HD
abbrev RR : OpenRow := OpenLaw.row PySem.Challenge.rw_tapeproof_k90_whole_never
abbrev QQ : Program := view RR.prog [100]
abbrev DDf : DefRec := HandSHeadRun.topDef RR.prog 100
theorem p1 : opening RR.prog = plainProg RR.prog.main.scope.names := by kernel_rfl
theorem p2 : ∀ s, fenceModules? RR.prog s = some s := (fun s => by kernel_rfl)
theorem p3 : defOf QQ RR.name = some (DDf, []) := by kernel_rfl
theorem p4 : RR.prog.theDef RR.name = some (DDf.params, DDf.body, DDf.scope) := by kernel_rfl
theorem p5 : kwWritten? DDf.params.kwonlyargs DDf.params.kw_defaults = some [] := by kernel_rfl
theorem p6 : (!RR.writes || RR.records.isEmpty) = true := by rfl
theorem p8 : (chainsOk QQ && opensWell RR.prog && (frees RR.toRowW && RR.within.isEmpty)) = true := by decide +kernel
theorem p10 : RR.toRowW.promised := by w_witness2
theorem p11 : DDf.params.defaults = [] := by kernel_rfl
theorem p12 : DDf.name = ("law" : PySem.Str) := by kernel_rfl
end HD
theorem row_walk (hl : HD.LawOk 20) : PySem.W.WalkO HD.QQ HD.loose (XL HD.QQ []) HD.hk.says HD.RR.toRowW HD.DDf [] fun f vs => PySem.call f vs := by
  refine L2.walk_ofE (l := PySem.Challenge.rw_tapeproof_k90_whole_never) (n := 63) (k := 20) (x := "_law_script") (CX := L2.CX0) rfl (by decide) HD.p11 ⟨rfl, by decide, by decide⟩ ?F (fun _ _ _ _ z => z)
  intro w mg fa h Y G hmg0
  obtain ⟨K, KX, c⟩ := Y
  rw [HD.p12] at hmg0
  obtain ⟨fd, sp, hb, hs, hF⟩ := hl w mg h K KX G c
  have ef : fa = He.ga K "law" := by
    have q := He.glo_ok KX G (He.SaysD.fact c.t.d 45 (f := .glo "law") (by rfl))
    rw [hmg0] at q
    injection q with q
    injection q
  subst ef
  exact ⟨K, fd, sp, KX, hb, fun H a ns hl _ hS => hs H a ns hl hS, hF⟩
theorem row_end (said : HD.RR.wellSaid = true) (hb : HD.RR.prog.bare) (hw : PySem.W.WalkO HD.QQ HD.loose (XL HD.QQ []) HD.hk.says HD.RR.toRowW HD.DDf [] fun f vs => PySem.call f vs) : HD.RR.Holds :=
  HandSHeadRun.head_any (r := HD.RR) (q := HD.QQ) (H := HD.hk) (ob := HD.ob) (M := 30000) (loose := HD.loose) (d := HD.DDf) (kwd := []) HD.ob_eq
    HD.p1 HD.p2 HD.run HD.p3 HD.p4 HD.p5 HD.p6 said HD.p8 hb HD.p10 hw
namespace HD
theorem p9 : RR.prog.bare := ⟨by kernel_rfl, by kernel_rfl, by kernel_rfl, by kernel_rfl, by kernel_rfl, by kernel_rfl⟩
end HD
theorem law_of (h : HD.RR.wellSaid = true → HD.RR.Holds) : PySem.Challenge.rw_tapeproof_k90_whole_never.Holds := by
  w_on; o_law
  exact h (by assumption)
theorem law_end (hl : HD.LawOk 20) : PySem.Challenge.rw_tapeproof_k90_whole_never.Holds := law_of fun said => row_end said HD.p9 (row_walk hl)
end
section
set_option Elab.async false
set_option linter.all false
set_option maxRecDepth 100000
set_option maxHeartbeats 4000000
/-! Defs by names: where each stands, what it promises; calls by promises. -/
namespace TX
open PySem PySem.Spec PyProof.Rows L2 HD DT2
/-- the def x keeps the promise sp, by level k -/
structure Has (P : Program) (w : World) (K : PySem.W.Frag) (mg : Str → Option Value) (base : Heap) (x : Str) (ps : List Str) (k : Nat) (sp : Sp) : Prop where
  ex : ∃ f fd us, mg x = some (.ref f) ∧ PySem.W.keepIn K (.ref f) = true ∧ Binds K fd ps us ∧ Vals [] us ∧ FnOk P w K mg base CX0 k f fd ps sp
/-- the method m of the class at C -/
structure HasM (P : Program) (w : World) (K : PySem.W.Frag) (mg : Str → Option Value) (base : Heap) (C : Addr) (m : Str) (ps : List Str) (k : Nat) (sp : Sp) : Prop where
  ex : ∃ f fd, Cls K C ∧ Meth K C m f ∧ Binds K fd ps [] ∧ FnOk P w K mg base CX0 k f fd ps sp
/-- the class x, made by its __init__ -/
structure HasC (P : Program) (w : World) (K : PySem.W.Frag) (mg : Str → Option Value) (base : Heap) (C : Addr) (x : Str) (ps : List Str) (k : Nat) (sp : Sp) : Prop where
  ex : ∃ f fd, mg x = some (.ref C) ∧ Mk K C f ∧ Binds K fd ps [] ∧ FnOk P w K mg base CX0 k f fd ps sp
section
variable {X : Cx} {k : Nat} {C : Addr} {ps : List Str} {sp : Sp} {x m : Str} {p pos apos : Pos} {e o : Expr} {es : List Expr} {ta : TE} {t : TA}
theorem pe_callH (F : Has X.prog X.w X.K X.mg X.base x ps k sp) (hr : Room k X.A) (ha : PA X (e :: es) t) (hg : Gl X x := by rfl) (hdb : (x == ("__debug__" : Str)) = false := by decide) (he : starEach (e :: es) X.env = (false, eval e X.env) :: starEach es X.env := by rfl)
    (hpl : (backTo pos (starEach es X.env)).any (·.1) = false := by rfl) : PE X (.Call (.Name x p) (e :: es) [] pos) (tCall sp [] E0 t) := by
  obtain ⟨f, fd, us, h1, h2, h3, h4, h5⟩ := F.ex
  exact pe_call h5 hr hg h1 h2 h3 h4 pass0 ha hdb he hpl
theorem pe_makeH (F : HasC X.prog X.w X.K X.mg X.base C x ps k sp) (hr : Room (k + 1) X.A) (ha : PA X (e :: es) t) (hg : Gl X x := by rfl) (hdb : (x == ("__debug__" : Str)) = false := by decide) (he : starEach (e :: es) X.env = (false, eval e X.env) :: starEach es X.env := by rfl)
    (hpl : (backTo pos (starEach es X.env)).any (·.1) = false := by rfl) : PE X (.Call (.Name x p) (e :: es) [] pos) (tMake C sp [] E0 t) := by
  obtain ⟨f, fd, h1, h2, h3, h5⟩ := F.ex
  exact pe_make h2 h5 hr hg h1 h3 .nil pass0 ha hdb he hpl
theorem pe_methH {pl : Sem Bool} (F : HasM X.prog X.w X.K X.mg X.base C m ps k sp) (hr : Room k X.A) (ho : PE X o ta)
    (ht : eval (.Call (.Attribute o m apos) [] [] pos) X.env = (do
      let ov ← eval o X.env
      standAt apos.atName
      let (f, first) ← holding [ov] (getMethod ov m pl)
      callWith pos f first (backTo pos (starEach [] X.env)) (backToKw pos (keywordEach [] X.env))) := by rfl) : PE X (.Call (.Attribute o m apos) [] [] pos) (tMeth C m sp [] E0 ta tNil) := by
  obtain ⟨f, fd, h1, h2, h3, h5⟩ := F.ex
  exact pe_meth0 ho h1 h2 h5 hr h3 .nil pass0 ht
end
/-- what the top has left -/
structure Top (K : PySem.W.Frag) (mg : Str → Option Value) : Prop where
  d : He.SaysD fa fn K
  ex : HD.ex K = true
  h : ∃ h : Heap, K.In h ∧ h.Ns mainGlobals mg
section
variable {K : PySem.W.Frag} {mg : Str → Option Value}
theorem Top.glo (T : Top K mg) (i : Nat) {x : Str} (e : fa[i]? = some (.glo x) := by rfl) : mg x = some (.ref (He.ga K x)) := by
  obtain ⟨h, X, G⟩ := T.h
  exact He.glo_ok X G (He.SaysD.fact T.d i e)
theorem Top.free (T : Top K mg) (i : Nat) {x : Str} (e : fa[i]? = some (.free x) := by rfl) : mg x = none := by
  obtain ⟨h, X, G⟩ := T.h
  exact He.free_ok X G (He.SaysD.fact T.d i e)
theorem Top.noat (T : Top K mg) (i : Nat) {x f : Str} (e : fa[i]? = some (.noat x f) := by rfl) : NoAttr K (He.ga K x) f := He.noat_ok (He.SaysD.fact T.d i e)
theorem Top.first (T : Top K mg) (H : Hp) : Dp K H (.ref (He.ga K "FIRST")) (.tuple [.int 0, .int 0, .tuple []]) := by
  have h := T.ex
  obtain ⟨h1, h2⟩ := He.ba h
  exact .tup (tupAt_ok h1 H) (.cons (.int 0) (.cons (.int 0) (.cons (.tup (tupAt_ok h2 H) .nil) .nil)))
/-- the classes -/
abbrev CM (K : PySem.W.Frag) : Addr := He.ga K "Machine"
abbrev CR (K : PySem.W.Frag) : Addr := He.ga K "Run"
theorem Top.clM (T : Top K mg) : Cls K (CM K) := He.cls_ok (He.SaysD.fact T.d 66 (f := .cls "Machine") (by rfl))
theorem Top.clR (T : Top K mg) : Cls K (CR K) := He.cls_ok (He.SaysD.fact T.d 67 (f := .cls "Run") (by rfl))
end
section
variable {P : Program} {w : World} {K : PySem.W.Frag} {mg : Str → Option Value} {base : Heap} {k : Nat} {sp : Sp} {ps : List Str} {x : Str} {n : Nat}
/-- a def by its body's walk -/
theorem mk_has (T : Top K mg) (i : Nat) (h1 : fn[i]? = some (dd x n [])) (h2 : fa[i]? = some (.glo x))
    (hb : ∀ (kV doc pm : Value) (an : Option Addr) (cdv ct : Value) (us : List Value), us.length = ps.length → bindArgs (PySem.W.fnOf x x (defArgs (top n)) (defBody (top n)) (defScope (top n)) .none kV doc pm an cdv ct) ⟨us, []⟩ = pure (ps.zip us))
    (hk : ∀ fd, FunD K x x (defArgs (top n)) (defBody (top n)) (defScope (top n)) [] [] (He.ga K x) fd → FnOk P w K mg base CX0 k (He.ga K x) fd ps sp) : Has P w K mg base x ps k sp := by
  obtain ⟨fd, F⟩ := He.SaysD.def_ T.d i h1
  have F' : FunD K x x (defArgs (top n)) (defBody (top n)) (defScope (top n)) [] [] (He.ga K x) fd := F
  exact ⟨_, fd, [], T.glo i h2, F'.kp, F'.bindsN hb, .nil, hk fd F'⟩
end
/-- the first shots' room: all numbers of steps are small -/
theorem len_of {vs : List V} {R : List Ag → PyData → Hp → Prop} {K : PySem.W.Frag} {H : Hp} {Q : VK} {E : XK} {n : Nat} (h : SpD K R vs H Q E) (hR : ∀ as d H, R as d H → as.length = n) : vs.length = n := by
  obtain ⟨as, d, h1, h2, _⟩ := h
  have e := Paired.length h1
  rw [hR _ _ _ h2] at e
  exact e
end TX
end
section
set_option Elab.async false
set_option linter.all false
set_option maxRecDepth 100000
set_option maxHeartbeats 4000000
/-! The data of machines, shots, papers. -/
namespace EN
open PySem PySem.Spec PyProof.Rows L2 HD DT2 TX TP ND
def wayS (r : Bool) : Str := if r then "r" else "l"
def entD : Option Ent → PyData
  | none => .none
  | some e => .tuple [.int e.w, .str (wayS e.r), .int e.n]
def rowD (r : List (Option Ent)) : PyData := .tuple (r.map entD)
def tblD (T : Tbl) : PyData := .tuple (T.map rowD)
def mkD (x : Int × Nat) : PyData := .tuple [.int x.1, .int x.2]
def mksD (l : List (Int × Nat)) : PyData := .tuple (l.map mkD)
def shD (s : Sh) : PyData := .tuple [.int s.st, .int s.pl, mksD s.mks]
def gramD (g : Gram) : PyData := .tuple (g.map fun (n : Nat) => PyData.int n)
def ctxD (c : Cxt) : PyData := .tuple [gramD c.1, .int c.2.1, .int c.2.2.1, gramD c.2.2.2]
/-- a machine stands at m -/
def MachAt (K : PySem.W.Frag) (H : Hp) (m : Addr) (T : Tbl) : Prop := ∃ dx t, H m = some (.ins (CM K) dx [("table", .ref t)]) ∧ Dp K H (.ref t) (tblD T)
theorem MachAt.ex {K : PySem.W.Frag} {H H' : Hp} {m : Addr} {T : Tbl} (e : Ex H H') (h : MachAt K H m T) : MachAt K H' m T := let ⟨dx, t, h1, h2⟩ := h; ⟨dx, t, e _ _ h1, exd e h2⟩
/-- where the machine's table is read -/
theorem d_table {K : PySem.W.Frag} {mg : Str → Option Value} (To : Top K mg) {σ : L2.St} {H : Hp} {te : TE} {m : Addr} {T : Tbl} (h : Evl.Ev te σ H (.ref m)) (hm : MachAt K H m T) : EvD K (tFld K te "table") σ H (tblD T) := fun H1 a Q k =>
  h H1 a _ fun H2 b => by
    obtain ⟨dx, t, h1, h2⟩ := hm.ex (a.trans b)
    exact ⟨m, _, dx, _, .ref t, rfl, h1, To.clM, To.noat 68, rfl, k _ H2 b h2⟩
/-! ### data as keys -/
def gramK (g : Gram) : NestedKey := .tup (g.map fun (n : Nat) => NestedKey.num n)
def ctxK (c : Cxt) : NestedKey := .tup [gramK c.1, .num c.2.1, .num c.2.2.1, gramK c.2.2.2]
def mkK (x : Int × Nat) : NestedKey := .tup [.num x.1, .num x.2]
def shK (s : Sh) : NestedKey := .tup [.num s.st, .num s.pl, .tup (s.mks.map mkK)]
theorem datas_map : ∀ ks : List NestedKey, NestedKey.datas ks = ks.map NestedKey.data
  | [] => rfl
  | k :: ks => by rw [NestedKey.datas, datas_map ks]; rfl
theorem gramK_data (g : Gram) : (gramK g).data = gramD g := by
  unfold gramK gramD
  rw [NestedKey.data, datas_map, List.map_map]
  congr 1
theorem ctxK_data (c : Cxt) : (ctxK c).data = ctxD c := by
  unfold ctxK ctxD
  rw [NestedKey.data]
  simp only [NestedKey.datas, gramK_data, NestedKey.data]
theorem mkK_data (x : Int × Nat) : (mkK x).data = mkD x := by
  unfold mkK mkD
  rw [NestedKey.data]
  simp only [NestedKey.datas, NestedKey.data]
theorem shK_data (s : Sh) : (shK s).data = shD s := by
  unfold shK shD mksD
  rw [NestedKey.data]
  simp only [NestedKey.datas, NestedKey.data, datas_map, List.map_map]
  have : NestedKey.data ∘ mkK = mkD := funext mkK_data
  rw [this]
theorem depthAll_le {n : Nat} : ∀ {ks : List NestedKey}, (∀ k ∈ ks, k.depth ≤ n) → NestedKey.depthAll ks ≤ n
  | [], _ => Nat.zero_le _
  | k :: ks, h => by
    rw [NestedKey.depthAll]
    exact Nat.max_le.mpr ⟨h k List.mem_cons_self, depthAll_le fun x hx => h x (List.mem_cons_of_mem _ hx)⟩
theorem gramK_depth (g : Gram) : (gramK g).depth ≤ 1 := by
  unfold gramK
  rw [NestedKey.depth]
  have := depthAll_le (n := 0) (ks := g.map fun (n : Nat) => NestedKey.num n) fun k hk => by
    obtain ⟨x, _, rfl⟩ := List.mem_map.mp hk
    exact Nat.le_refl _
  omega
theorem mkK_depth (x : Int × Nat) : (mkK x).depth ≤ 1 := by
  unfold mkK
  simp [NestedKey.depth, NestedKey.depthAll]
theorem ctxK_depth (c : Cxt) : (ctxK c).depth ≤ 2 := by
  have h1 := gramK_depth c.1
  have h2 := gramK_depth c.2.2.2
  unfold ctxK
  simp only [NestedKey.depth, NestedKey.depthAll]
  omega
theorem shK_depth (s : Sh) : (shK s).depth ≤ 3 := by
  have h1 := depthAll_le (n := 1) (ks := s.mks.map mkK) fun k hk => by
    obtain ⟨x, _, rfl⟩ := List.mem_map.mp hk
    exact mkK_depth x
  unfold shK
  simp only [NestedKey.depth, NestedKey.depthAll]
  omega
theorem gramK_inj {a b : Gram} (h : gramK a = gramK b) : a = b := by
  unfold gramK at h
  injection h with h
  have : ∀ {a b : Gram}, (a.map fun (n : Nat) => NestedKey.num n) = (b.map fun (n : Nat) => NestedKey.num n) → a = b := by
    intro a
    induction a with
    | nil => intro b h; cases b with | nil => rfl | cons _ _ => cases h
    | cons x a ih =>
      intro b h
      cases b with
      | nil => cases h
      | cons y b =>
        rw [List.map_cons, List.map_cons] at h
        injection h with h1 h2
        injection h1 with h1
        rw [ih h2, Int.ofNat.inj h1]
  exact this h
theorem ctxK_inj {a b : Cxt} (h : ctxK a = ctxK b) : a = b := by
  obtain ⟨a1, a2, a3, a4⟩ := a
  obtain ⟨b1, b2, b3, b4⟩ := b
  unfold ctxK at h
  simp only [NestedKey.tup.injEq, List.cons.injEq, NestedKey.num.injEq, and_true] at h
  obtain ⟨h1, h2, h3, h4⟩ := h
  rw [gramK_inj h1, Int.ofNat.inj h2, Int.ofNat.inj h3, gramK_inj h4]
theorem mkK_inj {a b : Int × Nat} (h : mkK a = mkK b) : a = b := by
  obtain ⟨a1, a2⟩ := a
  obtain ⟨b1, b2⟩ := b
  unfold mkK at h
  simp only [NestedKey.tup.injEq, List.cons.injEq, NestedKey.num.injEq, and_true] at h
  rw [h.1, Int.ofNat.inj h.2]
theorem map_inj {α β : Type} {f : α → β} (hf : ∀ a b, f a = f b → a = b) : ∀ {l m : List α}, l.map f = m.map f → l = m
  | [], [], _ => rfl
  | [], _ :: _, h => by cases h
  | _ :: _, [], h => by cases h
  | x :: l, y :: m, h => by
    rw [List.map_cons, List.map_cons] at h
    injection h with h1 h2
    rw [hf _ _ h1, map_inj hf h2]
theorem shK_inj {a b : Sh} (h : shK a = shK b) : a = b := by
  obtain ⟨a1, a2, a3⟩ := a
  obtain ⟨b1, b2, b3⟩ := b
  unfold shK at h
  simp only [NestedKey.tup.injEq, List.cons.injEq, NestedKey.num.injEq, and_true] at h
  obtain ⟨h1, h2, h3⟩ := h
  rw [Int.ofNat.inj h1, h2, map_inj (fun _ _ => mkK_inj) h3]
/-! ### == of data is equality -/
mutual
theorem eqv_key : ∀ a b : NestedKey, PyData.eqv a.data b.data = NestedKey.beq a b
  | .none, b => by cases b <;> simp [NestedKey.data, PyData.eqv, NestedKey.beq]
  | .num i, b => by cases b <;> simp [NestedKey.data, PyData.eqv, NestedKey.beq, Bool.beq_eq_decide_eq]
  | .text x, b => by cases b <;> simp [NestedKey.data, PyData.eqv, NestedKey.beq, Bool.beq_eq_decide_eq]
  | .tup ks, .tup ls => by
    show PyData.eqv (.tuple (NestedKey.datas ks)) (.tuple (NestedKey.datas ls)) = NestedKey.beqAll ks ls
    rw [PyData.eqv, eqv_keys ks ls]
  | .tup ks, .none => by simp [NestedKey.data, PyData.eqv, NestedKey.beq]
  | .tup ks, .num _ => by simp [NestedKey.data, PyData.eqv, NestedKey.beq]
  | .tup ks, .text _ => by simp [NestedKey.data, PyData.eqv, NestedKey.beq]
theorem eqv_keys : ∀ a b : List NestedKey, PyData.eqvAll (NestedKey.datas a) (NestedKey.datas b) = NestedKey.beqAll a b
  | [], [] => by simp [NestedKey.datas, PyData.eqvAll, NestedKey.beqAll]
  | [], _ :: _ => by simp [NestedKey.datas, PyData.eqvAll, NestedKey.beqAll]
  | _ :: _, [] => by simp [NestedKey.datas, PyData.eqvAll, NestedKey.beqAll]
  | a :: as, b :: bs => by
    rw [NestedKey.datas, NestedKey.datas, PyData.eqvAll, NestedKey.beqAll, eqv_key a b, eqv_keys as bs]
end
theorem eqv_dec (a b : NestedKey) : PyData.eqv a.data b.data = decide (a = b) := by rw [eqv_key, NestedKey.decide_eq]
theorem dec_iff {p q : Prop} [Decidable p] [Decidable q] (h : p ↔ q) : decide p = decide q := by
  by_cases hp : p
  · rw [decide_eq_true hp, decide_eq_true (h.mp hp)]
  · rw [decide_eq_false hp, decide_eq_false fun z => hp (h.mpr z)]
theorem eqv_sh (a b : Sh) : PyData.eqv (shD a) (shD b) = decide (a = b) := by
  rw [← shK_data, ← shK_data, eqv_dec]
  exact dec_iff ⟨shK_inj, fun e => by rw [e]⟩
theorem eqv_gram (a b : Gram) : PyData.eqv (gramD a) (gramD b) = decide (a = b) := by
  rw [← gramK_data, ← gramK_data, eqv_dec]
  exact dec_iff ⟨gramK_inj, fun e => by rw [e]⟩
theorem eqv_ctx (a b : Cxt) : PyData.eqv (ctxD a) (ctxD b) = decide (a = b) := by
  rw [← ctxK_data, ← ctxK_data, eqv_dec]
  exact dec_iff ⟨ctxK_inj, fun e => by rw [e]⟩
theorem eqv_mks (a b : List (Int × Nat)) : PyData.eqv (.list (a.map mkD)) (.list (b.map mkD)) = decide (a = b) := by
  have e : ∀ l : List (Int × Nat), l.map mkD = NestedKey.datas (l.map mkK) := fun l => by
    rw [datas_map, List.map_map]
    exact List.map_congr_left fun x _ => (mkK_data x).symm
  rw [PyData.eqv, e, e, eqv_keys]
  have h := eqv_dec (.tup (a.map mkK)) (.tup (b.map mkK))
  rw [eqv_key] at h
  have h' : NestedKey.beqAll (a.map mkK) (b.map mkK) = decide (NestedKey.tup (a.map mkK) = NestedKey.tup (b.map mkK)) := h
  rw [h']
  refine dec_iff ⟨fun q => ?_, fun q => by rw [q]⟩
  injection q with q
  exact map_inj (fun _ _ => mkK_inj) q
mutual
/-- no text within -/
def noTxt : NestedKey → Bool
  | .text _ => false
  | .tup ks => noTxts ks
  | _ => true
def noTxts : List NestedKey → Bool
  | [] => true
  | k :: ks => noTxt k && noTxts ks
end
mutual
theorem key_lay : ∀ a : NestedKey, noTxt a = true → a.data.canLay0 = true
  | .none, _ => by simp [NestedKey.data, PyData.canLay0]
  | .num _, _ => by simp [NestedKey.data, PyData.canLay0]
  | .text _, h => by simp [noTxt] at h
  | .tup ks, h => by rw [NestedKey.data, PyData.canLay0]; exact keys_lay ks (by rw [noTxt] at h; exact h)
theorem keys_lay : ∀ a : List NestedKey, noTxts a = true → PyData.canLayAll0 (NestedKey.datas a) = true
  | [], _ => by simp [NestedKey.datas, PyData.canLayAll0]
  | a :: as, h => by
    rw [noTxts, Bool.and_eq_true] at h
    rw [NestedKey.datas, PyData.canLayAll0, key_lay a h.1, keys_lay as h.2]; rfl
end
theorem noTxts_all : ∀ {ks : List NestedKey}, (∀ k ∈ ks, noTxt k = true) → noTxts ks = true
  | [], _ => rfl
  | k :: ks, h => by rw [noTxts, h k List.mem_cons_self, noTxts_all fun x hx => h x (List.mem_cons_of_mem _ hx)]; rfl
theorem gram_no (g : Gram) : noTxt (gramK g) = true := by
  unfold gramK
  rw [noTxt]
  refine noTxts_all fun k hk => ?_
  obtain ⟨x, _, rfl⟩ := List.mem_map.mp hk
  rfl
theorem ctx_no (c : Cxt) : noTxt (ctxK c) = true := by
  unfold ctxK
  simp [noTxt, noTxts, gram_no]
theorem mk_no (x : Int × Nat) : noTxt (mkK x) = true := by
  unfold mkK
  simp [noTxt, noTxts]
theorem sh_no (s : Sh) : noTxt (shK s) = true := by
  unfold shK
  have : noTxts (s.mks.map mkK) = true := noTxts_all fun k hk => by
    obtain ⟨x, _, rfl⟩ := List.mem_map.mp hk
    exact mk_no x
  simp [noTxt, noTxts, this]
mutual
theorem key_depth : ∀ a : NestedKey, a.data.depth = a.depth
  | .none => by simp [NestedKey.data, PyData.depth, NestedKey.depth]
  | .num _ => by simp [NestedKey.data, PyData.depth, NestedKey.depth]
  | .text _ => by simp [NestedKey.data, PyData.depth, NestedKey.depth]
  | .tup ks => by rw [NestedKey.data, PyData.depth, NestedKey.depth, keys_depth ks]
theorem keys_depth : ∀ a : List NestedKey, PyData.depthAll (NestedKey.datas a) = NestedKey.depthAll a
  | [] => by simp [NestedKey.datas, PyData.depthAll, NestedKey.depthAll]
  | a :: as => by rw [NestedKey.datas, PyData.depthAll, NestedKey.depthAll, key_depth a, keys_depth as]
end
theorem key_shaped {a : NestedKey} (hn : noTxt a = true) (h : a.depth ≤ 64) : SeqAt.shaped a.data = true := by
  show (a.data.canLay0 && decide (a.data.depth ≤ 64)) = true
  rw [key_lay a hn, key_depth, decide_eq_true h]
  rfl
theorem sh_shaped (s : Sh) : SeqAt.shaped (shD s) = true := by
  rw [← shK_data]; exact key_shaped (sh_no s) (Nat.le_trans (shK_depth s) (by decide))
theorem gram_shaped (s : Gram) : SeqAt.shaped (gramD s) = true := by
  rw [← gramK_data]; exact key_shaped (gram_no s) (Nat.le_trans (gramK_depth s) (by decide))
theorem ctx_shaped (s : Cxt) : SeqAt.shaped (ctxD s) = true := by
  rw [← ctxK_data]; exact key_shaped (ctx_no s) (Nat.le_trans (ctxK_depth s) (by decide))
theorem list_shaped {ks : List NestedKey} (hn : ∀ k ∈ ks, noTxt k = true) (h : ∀ k ∈ ks, k.depth ≤ 8) : SeqAt.shaped (.list (NestedKey.datas ks)) = true := by
  show (PyData.canLay0 (.list (NestedKey.datas ks)) && decide (PyData.depth (.list (NestedKey.datas ks)) ≤ 64)) = true
  have := depthAll_le h
  rw [PyData.canLay0, PyData.depth, keys_lay _ (noTxts_all hn), keys_depth, decide_eq_true (by omega)]
  rfl
theorem map_datas {α : Type} {f : α → PyData} {g : α → NestedKey} (h : ∀ x, (g x).data = f x) (l : List α) : l.map f = NestedKey.datas (l.map g) := by
  rw [datas_map, List.map_map]
  exact List.map_congr_left fun x _ => (h x).symm
theorem mks_shaped (l : List (Int × Nat)) : SeqAt.shaped (.list (l.map mkD)) = true := by
  rw [map_datas mkK_data]
  refine list_shaped (fun k hk => ?_) fun k hk => ?_ <;> obtain ⟨x, _, rfl⟩ := List.mem_map.mp hk
  · exact mk_no x
  · exact Nat.le_trans (mkK_depth x) (by decide)
theorem ctxs_shaped (l : List Cxt) : SeqAt.shaped (.list (l.map ctxD)) = true := by
  rw [map_datas ctxK_data]
  refine list_shaped (fun k hk => ?_) fun k hk => ?_ <;> obtain ⟨x, _, rfl⟩ := List.mem_map.mp hk
  · exact ctx_no x
  · exact Nat.le_trans (ctxK_depth x) (by decide)
end EN
end
section
set_option Elab.async false
set_option linter.all false
set_option maxRecDepth 100000
set_option maxHeartbeats 4000000
/-! Loops and comprehensions over data. -/
namespace LC
open PySem PySem.Spec PyProof.Rows L2 HD DT2 TX TP ND EN
/-! ### data without lists stay while the tuples stay -/
mutual
def noL : PyData → Bool
  | .list _ => false
  | .dict _ => false
  | .tuple ds => noLs ds
  | _ => true
def noLs : List PyData → Bool
  | [] => true
  | d :: ds => noL d && noLs ds
end
def KeepT (H H' : Hp) : Prop := ∀ b xs, Rd H b (.tup xs) → Rd H' b (.tup xs)
theorem KeepT.of_ex {H H' : Hp} (e : Ex H H') : KeepT H H' := fun _ _ r => Evl.ex_rd e r
theorem KeepT.trans {H H1 H2 : Hp} (a : KeepT H H1) (b : KeepT H1 H2) : KeepT H H2 := fun c xs r => b c xs (a c xs r)
theorem KeepT.of_s {H H' : Hp} (k : KeepS H H') : KeepT H H' := fun b xs r => k b _ (.inr ⟨xs, rfl⟩) r
/-- a tracked list changes -/
theorem KeepT.upd {H : Hp} {d : Addr} {o u : HO} (h : H d = some u) (hu : (∀ xs, u ≠ HO.tup xs) ∧ (∀ q z, u ≠ HO.frz q z)) : KeepT H (L2.upd H d o) := fun b xs r => by
  have hb : b ≠ d := by
    rintro rfl
    rcases r with r | ⟨q, r⟩
    · rw [h] at r; exact hu.1 xs (Option.some.inj r)
    · rw [h] at r; exact hu.2 q _ (Option.some.inj r)
  rcases r with r | ⟨q, r⟩
  · exact .inl (by rw [upd_ne hb]; exact r)
  · exact .inr ⟨q, by rw [upd_ne hb]; exact r⟩
theorem KeepT.lst {H : Hp} {d : Addr} {o : HO} {xs : List V} (h : H d = some (.lst xs)) : KeepT H (L2.upd H d o) := KeepT.upd h ⟨(fun _ e => nomatch e), (fun _ _ e => nomatch e)⟩
theorem KeepT.t {K : PySem.W.Frag} {H H' : Hp} {a : Addr} {xs : List V} (k : KeepT H H') (h : SqT K H a xs) : SqT K H' a xs := by
  rcases h with h | h
  · exact .inl (k _ _ h)
  · exact .inr h
mutual
theorem dpT {K : PySem.W.Frag} {H H' : Hp} (k : KeepT H H') : ∀ (d : PyData) (v : V), noL d = true → Dp K H v d → Dp K H' v d
  | .none, _, _, h => by cases h; exact .non
  | .bool _, _, _, h => by cases h; exact .bl _
  | .int _, _, _, h => by cases h; exact .int _
  | .str _, _, _, h => by cases h; exact .str _
  | .list ds, _, n, h => by simp [noL] at n
  | .tuple ds, _, n, h => by
    cases h with
    | tup hs ha => exact .tup (k.t hs) (dpTs k ds _ (by rw [noL] at n; exact n) ha)
  | .dict _, _, _, h => by cases h
theorem dpTs {K : PySem.W.Frag} {H H' : Hp} (k : KeepT H H') : ∀ (ds : List PyData) (vs : List V), noLs ds = true → DpAll K H vs ds → DpAll K H' vs ds
  | [], _, _, h => by cases h; exact .nil
  | d :: ds, _, n, h => by
    rw [noLs, Bool.and_eq_true] at n
    cases h with
    | cons h1 h2 => exact .cons (dpT k d _ n.1 h1) (dpTs k ds _ n.2 h2)
end
theorem noLs_all : ∀ {ds : List PyData}, (∀ d ∈ ds, noL d = true) → noLs ds = true
  | [], _ => rfl
  | d :: ds, h => by rw [noLs, h d List.mem_cons_self, noLs_all fun x hx => h x (List.mem_cons_of_mem _ hx)]; rfl
theorem noLs_map {α : Type} {f : α → PyData} (h : ∀ x, noL (f x) = true) (l : List α) : noLs (l.map f) = true := noLs_all fun d hd => by
  obtain ⟨x, _, rfl⟩ := List.mem_map.mp hd
  exact h x
theorem noL_ent (o : Option Ent) : noL (entD o) = true := by
  cases o <;> simp [entD, noL, noLs]
theorem noL_row (r : List (Option Ent)) : noL (rowD r) = true := by
  rw [rowD, noL]; exact noLs_map noL_ent r
theorem noL_mk (x : Int × Nat) : noL (mkD x) = true := by simp [mkD, noL, noLs]
theorem noL_sh (s : Sh) : noL (shD s) = true := by
  have := noLs_map noL_mk s.mks
  simp [shD, mksD, noL, noLs, this]
theorem noL_gram (g : Gram) : noL (gramD g) = true := by
  rw [gramD, noL]; exact noLs_map (fun _ => rfl) g
theorem noL_ctx (c : Cxt) : noL (ctxD c) = true := by
  have h1 := noL_gram c.1
  have h2 := noL_gram c.2.2.2
  simp [ctxD, noL, noLs, h1, h2]

/-! ### loops -/
section
variable {K : PySem.W.Frag} {σ : L2.St} {H : Hp} {ta tb tl te : TE} {D : Ends} {tu tz : TS} {g : TG}
theorem for_gen {J : It} {n : Nat} (Tr : Hp → Hp → Prop) (Pv : Nat → L2.St → Hp → Prop) (Sc : Hp → Prop) (Im : Nat → V → Hp → Prop) (h0 : Pv 0 σ H) (hS : ∀ i σ' H', i ≤ n → Pv i σ' H' → Sc H')
    (go : ∀ i H, i < n → Sc H → J.go i H) (stop : ∀ H, Sc H → J.stop n H) (yl : ∀ i H x H', i < n → Sc H → J.yld i H x H' → Tr H H' ∧ Im i x H')
    (hs : ∀ i x σ' H' H2, i < n → Pv i σ' H' → Tr H' H2 → Im i x H2 → g x σ' H2 fun σ3 H3 => tu { D with nx := Pv (i + 1), ct := Pv (i + 1), bk := D.nx } σ3 H3) (hd : ∀ σ' H', Pv n σ' H' → D.nx σ' H') :
    ∃ W : Nat → Nat → L2.St → Hp → Prop, (∃ m, W 0 m σ H) ∧ ∀ i m σ H, W i m σ H →
      (J.stop i H ∧ D.nx σ H) ∨ (J.go i H ∧ ∃ N : L2.St → Hp → Prop, (∀ σ' H', N σ' H' → ∃ m', m' < m ∧ W (i + 1) m' σ' H') ∧ ∀ x H', J.yld i H x H' → g x σ H' fun σ2 H2 => tu { D with nx := N, ct := N, bk := D.nx } σ2 H2) := by
  refine ⟨fun i m σ H => m = n - i ∧ i ≤ n ∧ Pv i σ H, ⟨n, by simp, Nat.zero_le _, h0⟩, ?_⟩
  rintro i m σ' H' ⟨rfl, hi, p⟩
  have sc := hS i σ' H' hi p
  by_cases hlt : i < n
  · refine .inr ⟨go i H' hlt sc, Pv (i + 1), fun σ2 H2 p' => ⟨n - (i + 1), by omega, rfl, hlt, p'⟩, fun x H2 y => ?_⟩
    obtain ⟨e, im⟩ := yl i H' x H2 hlt sc y
    exact hs i x σ' H' H2 hlt p e im
  · have e : i = n := by omega
    subst e
    exact .inl ⟨stop H' sc, hd σ' H' p⟩
theorem itl_go {a : Addr} {ds : List PyData} {i : Nat} (h : Dp K H (.ref a) (.list ds)) (hi : i < ds.length) : (Itl K a).go i H := by
  obtain ⟨p, xs, e, h1, h2⟩ := dp_lst h
  cases e
  obtain ⟨v, hv, _⟩ := h2.get (List.getElem?_eq_getElem hi)
  exact ⟨xs, v, h1, hv⟩
theorem itl_stop {a : Addr} {ds : List PyData} (h : Dp K H (.ref a) (.list ds)) : (Itl K a).stop ds.length H := by
  obtain ⟨p, xs, e, h1, h2⟩ := dp_lst h
  cases e
  exact ⟨xs, h1, by rw [h2.length]; exact Nat.le_refl _⟩
theorem itl_yld {a : Addr} {ds : List PyData} {i : Nat} {x : V} {H' : Hp} (h : Dp K H (.ref a) (.list ds)) (hi : i < ds.length) (y : (Itl K a).yld i H x H') : H' = H ∧ ∃ d, ds[i]? = some d ∧ Dp K H' x d := by
  obtain ⟨e, y⟩ := y
  subst e
  obtain ⟨p, xs, e, h1, h2⟩ := dp_lst h
  cases e
  obtain ⟨d, hd, hq⟩ := h2.getV (y xs h1)
  exact ⟨rfl, d, hd, hq⟩
theorem itt_go {a : Addr} {ds : List PyData} {i : Nat} (h : Dp K H (.ref a) (.tuple ds)) (hi : i < ds.length) : (Itt K a).go i H := by
  obtain ⟨p, xs, e, h1, h2⟩ := dp_tup h
  cases e
  obtain ⟨v, hv, _⟩ := h2.get (List.getElem?_eq_getElem hi)
  exact ⟨xs, v, h1, hv⟩
theorem itt_stop {a : Addr} {ds : List PyData} (h : Dp K H (.ref a) (.tuple ds)) : (Itt K a).stop ds.length H := by
  obtain ⟨p, xs, e, h1, h2⟩ := dp_tup h
  cases e
  exact ⟨xs, h1, by rw [h2.length]; exact Nat.le_refl _⟩
theorem itt_yld {a : Addr} {ds : List PyData} {i : Nat} {x : V} {H' : Hp} (h : Dp K H (.ref a) (.tuple ds)) (hi : i < ds.length) (y : (Itt K a).yld i H x H') : H' = H ∧ ∃ d, ds[i]? = some d ∧ Dp K H' x d := by
  obtain ⟨e, y⟩ := y
  subst e
  obtain ⟨p, xs, e, h1, h2⟩ := dp_tup h
  cases e
  obtain ⟨d, hd, hq⟩ := h2.getV (y xs h1)
  exact ⟨rfl, d, hd, hq⟩
/-- for over a list, a tuple that stays -/
theorem sD_forL {ds : List PyData} (h : EvD K tl σ H (.list ds)) (Pv : V → Nat → L2.St → Hp → Prop) (h0 : ∀ v H1, Ex H H1 → Dp K H1 v (.list ds) → Pv v 0 σ H1) (hl : ∀ v i σ' H', i ≤ ds.length → Pv v i σ' H' → Dp K H' v (.list ds))
    (hs : ∀ v i x d σ' H', ds[i]? = some d → Dp K H' x d → Pv v i σ' H' → g x σ' H' fun σ2 H2 => tu { D with nx := Pv v (i + 1), ct := Pv v (i + 1), bk := D.nx } σ2 H2) (hd : ∀ v σ' H', Pv v ds.length σ' H' → D.nx σ' H') : tFor (iList K tl) g tu D σ H :=
  h H (Evl.Ex.refl H) _ fun v H1 a q => by
    obtain ⟨p, xs, rfl, h1, h2⟩ := dp_lst q
    refine ⟨p, rfl, ⟨xs, h1⟩, for_gen (n := ds.length) (fun H H' => H' = H) (Pv (.ref p)) (fun H' => Dp K H' (.ref p) (.list ds)) (fun i x H' => ∃ d, ds[i]? = some d ∧ Dp K H' x d) (h0 _ H1 a q) (hl (.ref p)) (fun i H' hi sc => itl_go sc hi) (fun H' sc => itl_stop sc) (fun i H' x H2 hi sc y => itl_yld sc hi y) ?_ (hd (.ref p))⟩
    rintro i x σ' H' H2 hi p' e ⟨d, hd1, hd2⟩
    subst e
    exact hs _ i x d σ' _ hd1 hd2 p'
theorem sD_forT {ds : List PyData} (h : EvD K tl σ H (.tuple ds)) (Pv : V → Nat → L2.St → Hp → Prop) (h0 : ∀ v H1, Ex H H1 → Dp K H1 v (.tuple ds) → Pv v 0 σ H1) (hl : ∀ v i σ' H', i ≤ ds.length → Pv v i σ' H' → Dp K H' v (.tuple ds))
    (hs : ∀ v i x d σ' H', ds[i]? = some d → Dp K H' x d → Pv v i σ' H' → g x σ' H' fun σ2 H2 => tu { D with nx := Pv v (i + 1), ct := Pv v (i + 1), bk := D.nx } σ2 H2) (hd : ∀ v σ' H', Pv v ds.length σ' H' → D.nx σ' H') : tFor (iTup K tl) g tu D σ H :=
  h H (Evl.Ex.refl H) _ fun v H1 a q => by
    obtain ⟨p, xs, rfl, h1, h2⟩ := dp_tup q
    refine ⟨p, rfl, ⟨xs, h1⟩, for_gen (n := ds.length) (fun H H' => H' = H) (Pv (.ref p)) (fun H' => Dp K H' (.ref p) (.tuple ds)) (fun i x H' => ∃ d, ds[i]? = some d ∧ Dp K H' x d) (h0 _ H1 a q) (hl (.ref p)) (fun i H' hi sc => itt_go sc hi) (fun H' sc => itt_stop sc) (fun i H' x H2 hi sc y => itt_yld sc hi y) ?_ (hd (.ref p))⟩
    rintro i x σ' H' H2 hi p' e ⟨d, hd1, hd2⟩
    subst e
    exact hs _ i x d σ' _ hd1 hd2 p'
/-- for over a name's list, tuple -/
theorem sD_forLV {ds : List PyData} {v : V} (h : Evl.Ev tl σ H v) (Pv : Nat → L2.St → Hp → Prop) (h0 : ∀ H1, Ex H H1 → Pv 0 σ H1) (hv : Dp K H v (.list ds)) (hl : ∀ i σ' H', i ≤ ds.length → Pv i σ' H' → Dp K H' v (.list ds))
    (hs : ∀ i x d σ' H', ds[i]? = some d → Dp K H' x d → Pv i σ' H' → g x σ' H' fun σ2 H2 => tu { D with nx := Pv (i + 1), ct := Pv (i + 1), bk := D.nx } σ2 H2) (hd : ∀ σ' H', Pv ds.length σ' H' → D.nx σ' H') : tFor (iList K tl) g tu D σ H :=
  h H (Evl.Ex.refl H) _ fun H1 a => by
    obtain ⟨p, xs, rfl, h1, h2⟩ := dp_lst (exd a hv)
    refine ⟨p, rfl, ⟨xs, h1⟩, for_gen (n := ds.length) (fun H H' => H' = H) Pv (fun H' => Dp K H' (.ref p) (.list ds)) (fun i x H' => ∃ d, ds[i]? = some d ∧ Dp K H' x d) (h0 H1 a) hl (fun i H' hi sc => itl_go sc hi) (fun H' sc => itl_stop sc) (fun i H' x H2 hi sc y => itl_yld sc hi y) ?_ hd⟩
    rintro i x σ' H' H2 hi p' e ⟨d, hd1, hd2⟩
    subst e
    exact hs i x d σ' _ hd1 hd2 p'
theorem sD_forTV {ds : List PyData} {v : V} (h : Evl.Ev tl σ H v) (Pv : Nat → L2.St → Hp → Prop) (h0 : ∀ H1, Ex H H1 → Pv 0 σ H1) (hv : Dp K H v (.tuple ds)) (hl : ∀ i σ' H', i ≤ ds.length → Pv i σ' H' → Dp K H' v (.tuple ds))
    (hs : ∀ i x d σ' H', ds[i]? = some d → Dp K H' x d → Pv i σ' H' → g x σ' H' fun σ2 H2 => tu { D with nx := Pv (i + 1), ct := Pv (i + 1), bk := D.nx } σ2 H2) (hd : ∀ σ' H', Pv ds.length σ' H' → D.nx σ' H') : tFor (iTup K tl) g tu D σ H :=
  h H (Evl.Ex.refl H) _ fun H1 a => by
    obtain ⟨p, xs, rfl, h1, h2⟩ := dp_tup (exd a hv)
    refine ⟨p, rfl, ⟨xs, h1⟩, for_gen (n := ds.length) (fun H H' => H' = H) Pv (fun H' => Dp K H' (.ref p) (.tuple ds)) (fun i x H' => ∃ d, ds[i]? = some d ∧ Dp K H' x d) (h0 H1 a) hl (fun i H' hi sc => itt_go sc hi) (fun H' sc => itt_stop sc) (fun i H' x H2 hi sc y => itt_yld sc hi y) ?_ hd⟩
    rintro i x σ' H' H2 hi p' e ⟨d, hd1, hd2⟩
    subst e
    exact hs i x d σ' _ hd1 hd2 p'
/-- for over enumerate(list) -/
theorem sD_forE {ds : List PyData} (h : EvD K tl σ H (.list ds)) (Pv : V → Nat → L2.St → Hp → Prop) (h0 : ∀ v H1, Ex H H1 → Dp K H1 v (.list ds) → Pv v 0 σ H1) (hl : ∀ v i σ' H', i ≤ ds.length → Pv v i σ' H' → Dp K H' v (.list ds))
    (hs : ∀ v i x d σ' H' H2, ds[i]? = some d → Ex H' H2 → Dp K H2 x (.tuple [.int (i : Nat), d]) → Pv v i σ' H' → g x σ' H2 fun σ3 H3 => tu { D with nx := Pv v (i + 1), ct := Pv v (i + 1), bk := D.nx } σ3 H3) (hd : ∀ v σ' H', Pv v ds.length σ' H' → D.nx σ' H') : tFor (iEnum K (tCons tl tNil)) g tu D σ H :=
  h H (Evl.Ex.refl H) _ fun v H1 a q => by
    obtain ⟨p, xs, rfl, h1, h2⟩ := dp_lst q
    refine ⟨p, xs, rfl, h1, for_gen (J := Ite K p) (n := ds.length) (fun H H' => Ex H H') (Pv (.ref p)) (fun H' => Dp K H' (.ref p) (.list ds)) (fun i y H' => ∃ d, ds[i]? = some d ∧ Dp K H' y (.tuple [.int (i : Nat), d])) (h0 _ H1 a q) (hl (.ref p)) (fun i H' hi sc => itl_go sc hi) (fun H' sc => itl_stop sc) ?_ ?_ (hd (.ref p))⟩
    · rintro i H' y H2 hi sc ⟨T, x, rfl, hT, rfl, hx⟩
      obtain ⟨p', xs', e, h3, h4⟩ := dp_lst sc
      cases e
      obtain ⟨d, hd1, hd2⟩ := h4.getV (hx xs' h3)
      have ex := Evl.Ex.new (o := .tup [.int (i : Nat), x]) hT
      exact ⟨ex, d, hd1, .tup (.of upd_same) (.cons (.int _) (.cons (exd ex hd2) .nil))⟩
    · rintro i x σ' H' H2 hi p' e ⟨d, hd1, hd2⟩
      exact hs _ i x d σ' H' H2 hd1 e hd2 p'
/-- xs.append(e) -/
theorem sD_app {l : Addr} {ws : List V} {d : PyData} (hl : H l = some (.lst ws)) (ha : Evl.Ev ta σ H (.ref l)) (h : EvD K te σ H d) (hz : ws.length < 100000) (k : ∀ v H1, Ex H H1 → Dp K H1 v d → H1 l = some (.lst ws) → D.nx σ (upd H1 l (.lst (ws ++ [v])))) :
    tDrop (tBM K "list" rAppend ta (tCons te tNil)) D σ H := ha H (Evl.Ex.refl H) _ fun H1 e1 =>
  ⟨Or.inl ⟨rfl, ws, .of (e1 l _ hl)⟩, h H1 e1 _ fun v H2 e2 q => ⟨l, ws, v, rfl, rfl, e2 l _ (e1 l _ hl), Evl.sz_lt hz, k v H2 (e1.trans e2) q (e2 l _ (e1 l _ hl))⟩⟩
theorem qD_app {l : Addr} {ws : List V} {d : PyData} (hl : H l = some (.lst ws)) (ha : Evl.Ev ta σ H (.ref l)) (h : EvD K te σ H d) (hz : ws.length < 100000) (k : ∀ v H1, Ex H H1 → Dp K H1 v d → H1 l = some (.lst ws) → tz D σ (upd H1 l (.lst (ws ++ [v])))) :
    tSeq (tDrop (tBM K "list" rAppend ta (tCons te tNil))) tz D σ H := sD_app (D := { D with nx := tz D }) hl ha h hz k
/-- o.f = e -/
theorem sD_fld {a : Addr} {f : Str} {d : PyData} (h : EvD K te σ H d) (ho : Evl.Ev ta σ H (.ref a)) (k : ∀ v H1, Ex H H1 → Dp K H1 v d → ∃ C dx fs, H1 a = some (.ins C dx fs) ∧ Cls K C ∧ NoAttr K C f ∧ fs.length < 1000 ∧ D.nx σ (upd H1 a (.ins C dx (putF f v fs)))) : sFld K ta te f D σ H :=
  h H (Evl.Ex.refl H) _ fun v H1 e q => ho H1 e _ fun H2 e2 => by
    obtain ⟨C, dx, fs, h1, h2, h3, h4, h5⟩ := k v H2 (e.trans e2) (exd e2 q)
    exact ⟨a, C, dx, fs, rfl, h1, h2, h3, h4, h5⟩
theorem qD_fld {a : Addr} {f : Str} {d : PyData} (h : EvD K te σ H d) (ho : Evl.Ev ta σ H (.ref a)) (k : ∀ v H1, Ex H H1 → Dp K H1 v d → ∃ C dx fs, H1 a = some (.ins C dx fs) ∧ Cls K C ∧ NoAttr K C f ∧ fs.length < 1000 ∧ tz D σ (upd H1 a (.ins C dx (putF f v fs)))) : tSeq (sFld K ta te f) tz D σ H :=
  sD_fld (D := { D with nx := tz D }) h ho k
/-! ### a heap but for one object -/
def del (H : Hp) (l : Addr) : Hp := fun b => if b = l then none else H b
theorem del_same {l : Addr} : del H l l = none := by unfold del; rw [if_pos rfl]
theorem del_ne {l b : Addr} (h : b ≠ l) : del H l b = H b := by unfold del; rw [if_neg h]
theorem del_ex {l : Addr} : Ex (del H l) H := fun b o h => by
  by_cases e : b = l
  · rw [e, del_same] at h; cases h
  · rw [del_ne e] at h; exact h
theorem del_upd {l : Addr} {o : HO} : del (upd H l o) l = del H l := by
  funext b
  by_cases e : b = l
  · rw [e, del_same, del_same]
  · rw [del_ne e, del_ne e, upd_ne e]
theorem ex_del {H H' : Hp} {l : Addr} (e : Ex H H') : Ex (del H l) (del H' l) := fun b o h => by
  by_cases q : b = l
  · rw [q, del_same] at h; cases h
  · rw [del_ne q] at h ⊢; exact e b o h
theorem ex_into_del {H H' : Hp} {l : Addr} (e : Ex H H') (h : H l = none) : Ex H (del H' l) := fun b o q => by
  by_cases z : b = l
  · rw [z, h] at q; cases q
  · rw [del_ne z]; exact e b o q
theorem keepT_del {l : Addr} {xs : List V} (h : H l = some (.lst xs)) : KeepT H (del H l) := fun b ys r => by
  have hb : b ≠ l := by
    rintro rfl
    rcases r with r | ⟨q, r⟩ <;> (rw [h] at r; cases r)
  rcases r with r | ⟨q, r⟩
  · exact .inl (by rw [del_ne hb]; exact r)
  · exact .inr ⟨q, by rw [del_ne hb]; exact r⟩
/-! ### comprehensions -/
theorem lc_gen {J : It} {n : Nat} {tt : TT} {vs : List Nat} {H1 : Hp} {Dl : Addr} {Qd : Hp → Prop} (Sc : Hp → Prop) (Im : Nat → V → Hp → Prop) (acc : Nat → List PyData) (hS : ∀ H', Ex H1 H' → Sc H') (hD : H1 Dl = none)
    (go : ∀ i H, i < n → Sc H → J.go i H) (stop : ∀ H, Sc H → J.stop n H) (yl : ∀ i H x H', i < n → Sc H → J.yld i H x H' → Ex H H' ∧ Im i x H') (a0 : acc 0 = []) (hz : ∀ i, i ≤ n → (acc i).length ≤ 40000) (hn : ∀ i, noLs (acc i) = true)
    (hs : ∀ i x H', i < n → Ex H1 H' → Im i x H' → ∀ Q : L2.St → Hp → Prop, (∀ σ2, wipe σ2 vs = wipe σ vs → (∃ b, Evl.EvT tt σ2 H' b ∧ (b = false → acc (i + 1) = acc i) ∧ (b = true → ∃ d, EvD K te σ2 H' d ∧ acc (i + 1) = acc i ++ [d])) → Q σ2 H') → g x (wipe σ vs) H' Q)
    (hd : ∀ H', Ex H1 H' → Dp K H' (.ref Dl) (.list (acc n)) → Qd H') :
    ∃ W : Nat → Nat → Hp → Prop, (∃ m, W 0 m (upd H1 Dl (.lst []))) ∧ ∀ i m H, W i m H →
      (J.stop i H ∧ Qd H) ∨ (J.go i H ∧ ∃ Nx : Hp → Prop, (∀ H', Nx H' → ∃ m', m' < m ∧ W (i + 1) m' H') ∧ ∀ x H', J.yld i H x H' → g x (wipe σ vs) H' fun σ2 H2 => wipe σ2 vs = wipe σ vs ∧ tt σ2 H2 fun b H3 =>
        if b = true then te σ2 H3 fun y H4 => ∃ ac, H4 Dl = some (.lst ac) ∧ ac.length < sizeLine ∧ Nx (upd H4 Dl (.lst (ac ++ [y]))) else Nx H3) := by
  refine ⟨fun i m H => m = n - i ∧ i ≤ n ∧ Ex H1 H ∧ ∃ ws, H Dl = some (.lst ws) ∧ DpAll K H ws (acc i), ⟨n, by simp, Nat.zero_le _, Evl.Ex.new hD, [], upd_same, by rw [a0]; exact .nil⟩, ?_⟩
  rintro i m H' ⟨rfl, hi, ex, ws, hw, ha⟩
  have sc := hS H' ex
  by_cases hlt : i < n
  · refine .inr ⟨go i H' hlt sc, fun H => i + 1 ≤ n ∧ Ex H1 H ∧ ∃ ws, H Dl = some (.lst ws) ∧ DpAll K H ws (acc (i + 1)), fun H2 p => ⟨n - (i + 1), by omega, rfl, p⟩, fun x H2 y => ?_⟩
    obtain ⟨e, im⟩ := yl i H' x H2 hlt sc y
    refine hs i x H2 hlt (ex.trans e) im _ fun σ2 hw2 ⟨b, hb, b0, b1⟩ => ⟨hw2, hb H2 (Evl.Ex.refl _) _ fun H3 e3 => ?_⟩
    cases b with
    | false =>
      rw [if_neg Bool.false_ne_true]
      exact ⟨hlt, (ex.trans e).trans e3, ws, e3 _ _ (e _ _ hw), by rw [b0 rfl]; exact exa (e.trans e3) ha⟩
    | true =>
      rw [if_pos rfl]
      obtain ⟨d, hd1, hd2⟩ := b1 rfl
      refine hd1 H3 e3 _ fun y H4 e4 hq => ?_
      have h4 : H4 Dl = some (.lst ws) := e4 _ _ (e3 _ _ (e _ _ hw))
      refine ⟨ws, h4, ?_, hlt, Evl.Ex.mut (((ex.trans e).trans e3).trans e4) hD, ws ++ [y], upd_same, ?_⟩
      · have := hz i hi
        rw [ha.length]
        exact Evl.sz_lt (by omega)
      · rw [hd2]
        have k := KeepT.lst (o := .lst (ws ++ [y])) h4
        have hn' := hn (i + 1)
        rw [hd2] at hn'
        exact dpTs k _ _ hn' ((exa ((e.trans e3).trans e4) ha).snoc hq)
  · have e : i = n := by omega
    subst e
    exact .inl ⟨stop H' sc, hd H' ex (.lst (.of hw) ha)⟩
/-- what is gathered from a list: filtered, mapped -/
def gat {α : Type} (xs : List α) (p : α → Bool) (f : α → PyData) (i : Nat) : List PyData := ((xs.take i).filter p).map f
theorem gat_next {α : Type} {xs : List α} {p : α → Bool} {f : α → PyData} {i : Nat} {x : α} (h : xs[i]? = some x) : (p x = false → gat xs p f (i + 1) = gat xs p f i) ∧ (p x = true → gat xs p f (i + 1) = gat xs p f i ++ [f x]) := by
  unfold gat
  have e : xs.take (i + 1) = xs.take i ++ [x] := by
    rw [List.take_add_one, h]; rfl
  rw [e, List.filter_append, List.map_append]
  constructor
  · intro hp
    rw [List.filter_cons, if_neg (by rw [hp]; decide)]
    simp
  · intro hp
    rw [List.filter_cons, if_pos hp]
    simp
theorem gat_len {α : Type} {xs : List α} {p : α → Bool} {f : α → PyData} (i : Nat) : (gat xs p f i).length ≤ xs.length := by
  unfold gat
  rw [List.length_map]
  exact Nat.le_trans (List.length_filter_le _ _) (by rw [List.length_take]; omega)
theorem gat_all {α : Type} {xs : List α} {p : α → Bool} {f : α → PyData} : gat xs p f xs.length = (xs.filter p).map f := by
  unfold gat
  rw [List.take_length]
theorem gat_no {α : Type} {xs : List α} {p : α → Bool} {f : α → PyData} (h : ∀ x ∈ xs, p x = true → noL (f x) = true) (i : Nat) : noLs (gat xs p f i) = true := noLs_all fun d hd => by
  obtain ⟨x, hx, rfl⟩ := List.mem_map.mp hd
  obtain ⟨h1, h2⟩ := List.mem_filter.mp hx
  exact h x (List.mem_of_mem_take h1) h2
variable {α : Type} {xs : List α} {enc f : α → PyData} {p : α → Bool} {tt : TT} {vs : List Nat}
/-- [e for x in a list if ..] -/
theorem d_lcL {j : Nat} (p : α → Bool) (f : α → PyData) (h : EvD K tl σ H (.list (xs.map enc))) (hz : xs.length ≤ 40000) (hn : ∀ x ∈ xs, p x = true → noL (f x) = true) (hw : ∀ x, wipe ((wipe σ vs).set j (some x)) vs = wipe σ vs)
    (ht : ∀ x v H1, x ∈ xs → Ex H H1 → Dp K H1 v (enc x) → Evl.EvT tt ((wipe σ vs).set j (some v)) H1 (p x)) (he : ∀ x v H1, x ∈ xs → Ex H H1 → Dp K H1 v (enc x) → p x = true → EvD K te ((wipe σ vs).set j (some v)) H1 (f x)) :
    EvD K (tLc (iList K tl) (gName j) tt te vs) σ H (.list ((xs.filter p).map f)) := fun H0 a0 Q k =>
  h H0 a0 _ fun v H1 a1 q => by
    obtain ⟨a, ys, rfl, h1, h2⟩ := dp_lst q
    refine ⟨a, rfl, ⟨ys, h1⟩, fun Dl hD => lc_gen (n := xs.length) (fun H' => Dp K H' (.ref a) (.list (xs.map enc))) (fun i y H' => ∃ x, xs[i]? = some x ∧ Dp K H' y (enc x)) (gat xs p f) (fun H' e => exd e q) hD (fun i H' hi sc => itl_go sc (by simpa using hi)) (fun H' sc => by have := itl_stop sc; simpa using this) (fun i H' y H2 hi sc yy => ?_) rfl (fun i _ => Nat.le_trans (gat_len i) hz) (gat_no hn) ?_ (fun H' e hq => k _ H' (a1.trans e) (by rw [gat_all] at hq; exact hq))⟩
    · obtain ⟨e, d, hd1, hd2⟩ := itl_yld sc (by simpa using hi) yy
      subst e
      rw [List.getElem?_map] at hd1
      obtain ⟨x, hx, rfl⟩ := Option.map_eq_some_iff.mp hd1
      exact ⟨Evl.Ex.refl _, x, hx, hd2⟩
    · rintro i y H' hi e ⟨x, hx, hq⟩ Q' kq
      have hm := List.mem_of_getElem? hx
      have ee := (a0.trans a1).trans e
      exact kq _ (hw y) ⟨p x, ht x y H' hm ee hq, (gat_next hx).1, fun hp => ⟨f x, he x y H' hm ee hq hp, (gat_next hx).2 hp⟩⟩
/-- over a tuple -/
theorem d_lcT {j : Nat} (p : α → Bool) (f : α → PyData) (h : EvD K tl σ H (.tuple (xs.map enc))) (hz : xs.length ≤ 40000) (hn : ∀ x ∈ xs, p x = true → noL (f x) = true) (hw : ∀ x, wipe ((wipe σ vs).set j (some x)) vs = wipe σ vs)
    (ht : ∀ x v H1, x ∈ xs → Ex H H1 → Dp K H1 v (enc x) → Evl.EvT tt ((wipe σ vs).set j (some v)) H1 (p x)) (he : ∀ x v H1, x ∈ xs → Ex H H1 → Dp K H1 v (enc x) → p x = true → EvD K te ((wipe σ vs).set j (some v)) H1 (f x)) :
    EvD K (tLc (iTup K tl) (gName j) tt te vs) σ H (.list ((xs.filter p).map f)) := fun H0 a0 Q k =>
  h H0 a0 _ fun v H1 a1 q => by
    obtain ⟨a, ys, rfl, h1, h2⟩ := dp_tup q
    refine ⟨a, rfl, ⟨ys, h1⟩, fun Dl hD => lc_gen (n := xs.length) (fun H' => Dp K H' (.ref a) (.tuple (xs.map enc))) (fun i y H' => ∃ x, xs[i]? = some x ∧ Dp K H' y (enc x)) (gat xs p f) (fun H' e => exd e q) hD (fun i H' hi sc => itt_go sc (by simpa using hi)) (fun H' sc => by have := itt_stop sc; simpa using this) (fun i H' y H2 hi sc yy => ?_) rfl (fun i _ => Nat.le_trans (gat_len i) hz) (gat_no hn) ?_ (fun H' e hq => k _ H' (a1.trans e) (by rw [gat_all] at hq; exact hq))⟩
    · obtain ⟨e, d, hd1, hd2⟩ := itt_yld sc (by simpa using hi) yy
      subst e
      rw [List.getElem?_map] at hd1
      obtain ⟨x, hx, rfl⟩ := Option.map_eq_some_iff.mp hd1
      exact ⟨Evl.Ex.refl _, x, hx, hd2⟩
    · rintro i y H' hi e ⟨x, hx, hq⟩ Q' kq
      have hm := List.mem_of_getElem? hx
      have ee := (a0.trans a1).trans e
      exact kq _ (hw y) ⟨p x, ht x y H' hm ee hq, (gat_next hx).1, fun hp => ⟨f x, he x y H' hm ee hq hp, (gat_next hx).2 hp⟩⟩
/-- over a tuple of pairs -/
theorem d_lcT2 {j l : Nat} {d1 d2 : α → PyData} (p : α → Bool) (f : α → PyData) (h : EvD K tl σ H (.tuple (xs.map fun x => .tuple [d1 x, d2 x]))) (hz : xs.length ≤ 40000) (hn : ∀ x ∈ xs, p x = true → noL (f x) = true) (hw : ∀ x y, wipe (((wipe σ vs).set j (some x)).set l (some y)) vs = wipe σ vs)
    (ht : ∀ x v u H1, x ∈ xs → Ex H H1 → Dp K H1 v (d1 x) → Dp K H1 u (d2 x) → Evl.EvT tt (((wipe σ vs).set j (some v)).set l (some u)) H1 (p x))
    (he : ∀ x v u H1, x ∈ xs → Ex H H1 → Dp K H1 v (d1 x) → Dp K H1 u (d2 x) → p x = true → EvD K te (((wipe σ vs).set j (some v)).set l (some u)) H1 (f x)) :
    EvD K (tLc (iTup K tl) (gTup K 2 (gCons (gName j) (gCons (gName l) gNil))) tt te vs) σ H (.list ((xs.filter p).map f)) := fun H0 a0 Q k =>
  h H0 a0 _ fun v H1 a1 q => by
    obtain ⟨a, ys, rfl, h1, h2⟩ := dp_tup q
    refine ⟨a, rfl, ⟨ys, h1⟩, fun Dl hD => lc_gen (n := xs.length) (fun H' => Dp K H' (.ref a) (.tuple (xs.map fun x => .tuple [d1 x, d2 x]))) (fun i y H' => ∃ x, xs[i]? = some x ∧ Dp K H' y (.tuple [d1 x, d2 x])) (gat xs p f) (fun H' e => exd e q) hD (fun i H' hi sc => itt_go sc (by simpa using hi)) (fun H' sc => by have := itt_stop sc; simpa using this) (fun i H' y H2 hi sc yy => ?_) rfl (fun i _ => Nat.le_trans (gat_len i) hz) (gat_no hn) ?_ (fun H' e hq => k _ H' (a1.trans e) (by rw [gat_all] at hq; exact hq))⟩
    · obtain ⟨e, d, hd1, hd2⟩ := itt_yld sc (by simpa using hi) yy
      subst e
      rw [List.getElem?_map] at hd1
      obtain ⟨x, hx, rfl⟩ := Option.map_eq_some_iff.mp hd1
      exact ⟨Evl.Ex.refl _, x, hx, hd2⟩
    · rintro i y H' hi e ⟨x, hx, hq⟩ Q' kq
      have hm := List.mem_of_getElem? hx
      have ee := (a0.trans a1).trans e
      obtain ⟨b, zs, rfl, g1, g2⟩ := dp_tup hq
      refine ⟨b, zs, rfl, g1, by rw [g2.length]; rfl, un2 g2 fun v1 v2 q1 q2 => ?_⟩
      exact kq _ (hw v1 v2) ⟨p x, ht x v1 v2 H' hm ee q1 q2, (gat_next hx).1, fun hp => ⟨f x, he x v1 v2 H' hm ee q1 q2 hp, (gat_next hx).2 hp⟩⟩
/-- over range(n) -/
theorem d_lcR {j : Nat} {n : Nat} (f : Nat → PyData) (h : Evl.Ev tl σ H (.int (n : Nat))) (hz : n ≤ 40000) (hn : ∀ i, noL (f i) = true) (hw : ∀ x, wipe ((wipe σ vs).set j (some x)) vs = wipe σ vs)
    (he : ∀ (i : Nat) H1, i < n → Ex H H1 → EvD K te ((wipe σ vs).set j (some (.int (i : Nat)))) H1 (f i)) :
    EvD K (tLc (iRng1 (tCons tl tNil)) (gName j) tYes te vs) σ H (.list ((List.range n).map f)) := fun H0 a0 Q k =>
  h H0 a0 _ fun H1 a1 => by
    refine ⟨(n : Nat), rfl, by omega, by omega, fun Dl hD => lc_gen (K := K) (n := (n : Int).toNat) (fun _ => True) (fun i y H' => y = .int (i : Nat)) (gat (List.range n) (fun _ => true) f) (fun _ _ => trivial) hD (fun i H' hi _ => hi) (fun H' _ => Nat.le_refl _) (fun i H' y H2 hi _ yy => ?_) rfl (fun i _ => Nat.le_trans (gat_len i) (by simpa using hz)) (gat_no fun x _ _ => hn x) ?_ (fun H' e hq => k _ H' (a1.trans e) ?_)⟩
    · obtain ⟨e1, e2⟩ := yy
      subst e1
      exact ⟨Evl.Ex.refl _, by rw [e2]; congr 1; omega⟩
    · rintro i y H' hi e rfl Q' kq
      have hi' : i < n := by simpa using hi
      have hx : (List.range n)[i]? = some i := by rw [List.getElem?_range hi']
      refine kq _ (hw _) ⟨true, fun H3 e3 Q3 k3 => k3 H3 (Evl.Ex.refl _), (fun z => nomatch z), fun hp => ⟨f i, he i H' hi' ((a0.trans a1).trans e), (gat_next hx).2 hp⟩⟩
    · have e2 : gat (List.range n) (fun _ => true) f (n : Int).toNat = (List.range n).map f := by
        have h2 := gat_all (xs := List.range n) (p := fun _ => true) (f := f)
        rw [List.length_range] at h2
        rw [show (n : Int).toNat = n by omega, h2]
        congr 1
        simp
      rw [e2] at hq
      exact hq
/-- no test -/
theorem et_yes : Evl.EvT tYes σ H true := fun H1 _ _ k => k H1 (Evl.Ex.refl H1)
theorem filter_yes (l : List α) : l.filter (fun _ => true) = l := by simp
/-- all([..]) -/
theorem d_all {bs : List Bool} (h : EvD K te σ H (.list (bs.map PyData.bool))) : Evl.Ev (tCB (rAll K) (tCons te tNil)) σ H (.bl (bs.all id)) := fun H1 a Q k =>
  h H1 a _ fun v H2 e q => by
    obtain ⟨p, xs, rfl, h1, h2⟩ := dp_lst q
    have e2 : ∀ {bs : List Bool} {xs : List V}, DpAll K H2 xs (bs.map PyData.bool) → xs = bs.map V.bl := by
      intro bs
      induction bs with
      | nil => intro xs h; cases h; rfl
      | cons b bs ih =>
        intro xs h
        cases h with
        | cons h3 h4 => cases h3; rw [ih h4]; rfl
    rw [e2 h2] at h1
    exact ⟨p, bs, rfl, h1, k H2 e⟩
end
end LC
end
section
set_option Elab.async false
set_option linter.all false
set_option maxRecDepth 100000
set_option maxHeartbeats 4000000
/-! Walks: numbers, entries, machines. -/
namespace WK
open PySem PySem.Spec PyProof.Rows L2 HD DT2 TX TP ND EN LC
section
variable {P : Program} {w : World} {K : PySem.W.Frag} {mg : Str → Option Value} {base : Heap}
/-! ### is_number -/
def RNum : List Ag → PyData → Hp → Prop := fun as d _ => ∃ i m : Int, as = [.v (.int i), .v (.int m)] ∧ d = .bool (decide (0 ≤ i) && decide (i < m))
theorem vals_v1 {H : Hp} {vs : List V} {x : V} (h : AgsAre K H vs [.v x]) : vs = [x] := by
  cases h with
  | cons h t => cases t; rw [show _ = x from h]
theorem vals_v2 {H : Hp} {vs : List V} {x y : V} (h : AgsAre K H vs [.v x, .v y]) : vs = [x, y] := by
  cases h with
  | cons h t => rw [vals_v1 t, show _ = x from h]
theorem vals_v3 {H : Hp} {vs : List V} {x y z : V} (h : AgsAre K H vs [.v x, .v y, .v z]) : vs = [x, y, z] := by
  cases h with
  | cons h t => rw [vals_v2 t, show _ = x from h]
theorem sc_is_number : FnScope ["thing", "many"] ["thing", "many"] (defScope (top 8)) := ⟨rfl, rfl, rfl, by decide +kernel, rfl, by decide +kernel, by decide +kernel⟩
theorem ev_num {σ : L2.St} {H : Hp} {ta tb : TE} {i m : Int} (ha : Evl.Ev ta σ H (.int i)) (hb : Evl.Ev tb σ H (.int m)) : Evl.Ev (tChain (rI0 fun i j => .bl (decide (i ≤ j))) (rI0 fun i j => .bl (decide (i < j))) (tC (.int 0)) ta tb) σ H (.bl (decide (0 ≤ i) && decide (i < m))) :=
  ev_chain (b := decide (0 ≤ i)) Evl.ev_c ha (fun _ => hb) Evl.rv_I0 (fun h => by rw [h, Bool.true_and]; exact Evl.rv_I0) fun h => by rw [h]; rfl
theorem h_is_number (T : Top K mg) : Has P w K mg base "is_number" ["thing", "many"] 1 (SpD K RNum) := by
  refine mk_has T 0 rfl rfl (fun _ _ _ _ _ _ us hl => match us, hl with | [_, _], _ => rfl) fun fd F => ?_
  refine F.ok sc_is_number (fun vs H Q E h => len_of h fun as d H h => by obtain ⟨i, m, rfl, _⟩ := h; rfl) fun cdv A outer s H vs Q E hr h => ⟨_, PSs.nox (pss_one (ps_ret (pe_and (pe_callB call_isi (by rfl) (T.free 49) (by decide +kernel) (pa_cons (pv 0) (pa_cons (pe_bltn (v := .ty "int") (by rfl) (T.free 50) (by decide +kernel) rfl) pa_nil))) (pe_and (pe_not (pe_callB call_isi (by rfl) (T.free 49) (by decide +kernel) (pa_cons (pv 0) (pa_cons (pe_bltn (v := .ty "bool") (by rfl) (T.free 51) (by decide +kernel) rfl) pa_nil)))) (pe_one (pe_chain op_le op_lt pe_int (pv 0) (pv 1))))))), ?_⟩
  obtain ⟨as, d, ha, ⟨i, m, rfl, rfl⟩, k⟩ := h
  rw [vals_v2 ha]
  refine sD_ret (Ev.bl (Evl.ev_is (Evl.ev_andV (d_isi (dv rfl (.int i)) kit_int_int) fun _ => Evl.ev_andV (Evl.ev_notV (d_isi (dv rfl (.int i)) kit_int_bool)) fun _ => ev_num (Evl.ev_var rfl) (Evl.ev_var rfl)) ?_)) k
  simp
/-! ### states_of, signs_of -/
def RStates : (K : PySem.W.Frag) → List Ag → PyData → Hp → Prop := fun K as d H => ∃ m T S c, as = [.v (.ref m)] ∧ MachAt K H m T ∧ TblOk T S c ∧ d = .int (S : Nat)
def RSigns : (K : PySem.W.Frag) → List Ag → PyData → Hp → Prop := fun K as d H => ∃ m T S c, as = [.v (.ref m)] ∧ MachAt K H m T ∧ TblOk T S c ∧ d = .int (c : Nat)
theorem sc_states_of : FnScope ["machine"] ["machine"] (defScope (top 11)) := ⟨rfl, rfl, rfl, by decide +kernel, rfl, by decide +kernel, by decide +kernel⟩
theorem sc_signs_of : FnScope ["machine"] ["machine"] (defScope (top 12)) := ⟨rfl, rfl, rfl, by decide +kernel, rfl, by decide +kernel, by decide +kernel⟩
theorem h_states_of (T : Top K mg) : Has P w K mg base "states_of" ["machine"] 1 (SpD K (RStates K)) := by
  refine mk_has T 2 rfl rfl (fun _ _ _ _ _ _ us hl => match us, hl with | [_], _ => rfl) fun fd F => ?_
  refine F.ok sc_states_of (fun vs H Q E h => len_of h fun as d H h => by obtain ⟨_, _, _, _, rfl, _⟩ := h; rfl) fun cdv A outer s H vs Q E hr h => ⟨_, PSs.nox (pss_one (ps_ret (pe_callB call_len_seq (by rfl) (T.free 56) (by decide +kernel) (pa_cons (pe_fld (pv 0) rfl) pa_nil)))), ?_⟩
  obtain ⟨as, d, ha, ⟨m, Tb, S, c, rfl, hm, hT, rfl⟩, k⟩ := h
  rw [vals_v1 ha]
  refine sD_ret (Ev.int (Evl.ev_is (d_lenT (d_table T (Evl.ev_var rfl) hm)) ?_)) k
  rw [List.length_map, hT.len]
theorem h_signs_of (T : Top K mg) : Has P w K mg base "signs_of" ["machine"] 1 (SpD K (RSigns K)) := by
  refine mk_has T 3 rfl rfl (fun _ _ _ _ _ _ us hl => match us, hl with | [_], _ => rfl) fun fd F => ?_
  refine F.ok sc_signs_of (fun vs H Q E h => len_of h fun as d H h => by obtain ⟨_, _, _, _, rfl, _⟩ := h; rfl) fun cdv A outer s H vs Q E hr h => ⟨_, PSs.nox (pss_one (ps_ret (pe_callB call_len_seq (by rfl) (T.free 56) (by decide +kernel) (pa_cons (pe_ix ix_tup (pe_fld (pv 0) rfl) pe_int (fun _ _ => rfl)) pa_nil)))), ?_⟩
  obtain ⟨as, d, ha, ⟨m, Tb, S, c, rfl, hm, hT, rfl⟩, k⟩ := h
  rw [vals_v1 ha]
  obtain ⟨r, o, h1, h2, _⟩ := hT.at_ (q := 0) (s := 0) (by have := hT.s1; omega) (by have := hT.c1; omega)
  refine sD_ret (Ev.int (Evl.ev_is (d_lenT (ds := r.map entD) (d_ixT (d_table T (Evl.ev_var rfl) hm) Evl.ev_c ?_)) ?_)) k
  · exact atI_nat (j := 0) (by rw [List.getElem?_map, h1]; rfl)
  · rw [List.length_map, hT.row r (List.mem_of_getElem? h1)]
/-! ### entry_kept -/
def EntOk (S c : Nat) (o : Option Ent) : Prop := ∀ e, o = some e → e.w < c ∧ e.n < S
def RKept : List Ag → PyData → Hp → Prop := fun as d _ => ∃ (o : Option Ent) (S c : Nat), as = [.d (entD o), .v (.int S), .v (.int c)] ∧ EntOk S c o ∧ d = entD o
theorem sc_entry_kept : FnScope ["entry", "states", "signs", "write", "way", "later"] ["entry", "states", "signs"] (defScope (top 9)) := ⟨rfl, rfl, rfl, by decide +kernel, rfl, by decide +kernel, by decide +kernel⟩
theorem ags3 {H : Hp} {vs : List V} {a b c : Ag} (h : AgsAre K H vs [a, b, c]) : ∃ x y z, vs = [x, y, z] ∧ AgIs K H x a ∧ AgIs K H y b ∧ AgIs K H z c := by
  cases h with
  | cons h1 h =>
    cases h with
    | cons h2 h =>
      cases h with
      | cons h3 h =>
        cases h
        exact ⟨_, _, _, rfl, h1, h2, h3⟩
theorem ags2 {H : Hp} {vs : List V} {a b : Ag} (h : AgsAre K H vs [a, b]) : ∃ x y, vs = [x, y] ∧ AgIs K H x a ∧ AgIs K H y b := by
  cases h with
  | cons h1 h =>
    cases h with
    | cons h2 h =>
      cases h
      exact ⟨_, _, rfl, h1, h2⟩
theorem ags1 {H : Hp} {vs : List V} {a : Ag} (h : AgsAre K H vs [a]) : ∃ x, vs = [x] ∧ AgIs K H x a := by
  cases h with
  | cons h1 h =>
    cases h
    exact ⟨_, rfl, h1⟩
theorem ags4 {H : Hp} {vs : List V} {a b c d : Ag} (h : AgsAre K H vs [a, b, c, d]) : ∃ x y z u, vs = [x, y, z, u] ∧ AgIs K H x a ∧ AgIs K H y b ∧ AgIs K H z c ∧ AgIs K H u d := by
  cases h with
  | cons h1 h =>
    obtain ⟨x, y, z, rfl, h2, h3, h4⟩ := ags3 h
    exact ⟨_, _, _, _, rfl, h1, h2, h3, h4⟩
/-- is_number of a small number -/
theorem ev_isnum {σ : L2.St} {H : Hp} {ta tb : TE} {i m : Nat} (ha : Evl.Ev ta σ H (.int i)) (hb : Evl.Ev tb σ H (.int m)) (h : i < m) : Evl.Ev (tCall (SpD K RNum) [] E0 (tCons ta (tCons tb tNil))) σ H (.bl true) :=
  EvD.bl (d_call (as_v ha (as_v hb as_nil)) fun _ _ => ⟨i, m, rfl, by rw [decide_eq_true (show (0 : Int) ≤ i by omega), decide_eq_true (show (i : Int) < m by omega)]; rfl⟩)
theorem way_in (r : Bool) : inV (.str (wayS r)) [.str "l", .str "r"] = true := by cases r <;> decide +kernel
theorem ev_way {σ : L2.St} {H : Hp} {ta : TE} {r : Bool} (ha : Evl.Ev ta σ H (.str (wayS r))) : Evl.Ev (tOp (rIn K true) ta (tTup (tCons (tC (.str "l")) (tCons (tC (.str "r")) tNil)))) σ H (.bl false) :=
  Evl.ev_is (Evl.ev_niU ha (Evl.eu_tup (Evl.ea_cons Evl.ev_c (Evl.ea_cons Evl.ev_c Evl.ea_nil)) (by decide)) rfl rfl) (by rw [way_in]; rfl)
theorem h_entry_kept (T : Top K mg) : Has P w K mg base "entry_kept" ["entry", "states", "signs"] 2 (SpD K RKept) := by
  have H_is_number : Has P w K mg base "is_number" ["thing", "many"] 1 (SpD K RNum) := h_is_number T
  refine mk_has T 1 rfl rfl (fun _ _ _ _ _ _ us hl => match us, hl with | [_, _, _], _ => rfl) fun fd F => ?_
  refine F.ok sc_entry_kept (fun vs H Q E h => len_of h fun as d H h => by obtain ⟨_, _, _, rfl, _⟩ := h; rfl) fun cdv A outer s H vs Q E hr h => ⟨_, PSs.nox (pss_cons (ps_if (pt_cmpR op_isN (pv 0) pe_non (nomark _)) (pss_one (ps_ret pe_non)) pss_nil)
      (pss_cons (ps_if (PW.pt (pw_or (pt_not (pt_val (pe_callB call_isi (by rfl) (T.free 49) (by decide +kernel) (pa_cons (pv 0) (pa_cons (pe_bltn (v := .ty "tuple") (by rfl) (T.free 52) (by decide +kernel) rfl) pa_nil))))) (pw_or1 (pt_cmpR op_ne (pe_callB call_len_seq (by rfl) (T.free 56) (by decide +kernel) (pa_cons (pv 0) pa_nil)) pe_int (nomark _))))) (pss_one ps_never) pss_nil)
      (pss_cons (ps_asg (pv 0) (pg_tup rfl (pgs_cons (pg_name (i := 3) sc_entry_kept.nd rfl (Or.inl rfl)) (pgs_cons (pg_name (i := 4) sc_entry_kept.nd rfl (Or.inl rfl)) (pgs_cons (pg_name (i := 5) sc_entry_kept.nd rfl (Or.inl rfl)) pgs_nil)))))
      (pss_cons (ps_if (PW.pt (pw_or (pt_not (pt_val (pe_callH H_is_number (hr.mono (by decide)) (pa_cons (pv 3) (pa_cons (pv 2) pa_nil))))) (pw_or (pt_cmpR op_notIn_seq (pv 4) (pe_tup (pa_cons pe_str (pa_cons pe_str pa_nil))) rfl) (pw_or1 (pt_not (pt_val (pe_callH H_is_number (hr.mono (by decide)) (pa_cons (pv 5) (pa_cons (pv 1) pa_nil))))))))) (pss_one ps_never) pss_nil)
      (pss_one (ps_ret (pe_tup (pa_cons (pv 3) (pa_cons (pv 4) (pa_cons (pv 5) pa_nil)))))))))), ?_⟩
  obtain ⟨as, d, ha, ⟨o, S, c, rfl, ok, rfl⟩, k⟩ := h
  obtain ⟨x, y, z, rfl, h1, rfl, rfl⟩ := ags3 ha
  refine Evl.q_when (Evl.et_test (d_isN (dv rfl h1))) (fun hb H1 e1 => ?_) (fun hb H1 e1 => ?_)
  · cases o with
    | none => exact sD_ret (Ev.non Evl.ev_c) fun v H2 e2 q => k v H2 (e1.trans e2) q
    | some en => cases hb
  · cases o with
    | none => cases hb
    | some en =>
      obtain ⟨g1, g2⟩ := ok en rfl
      have h1' := exd e1 h1
      refine Evl.q_when (b := false) (Evl.et_or (a := false) (b := false) (Evl.et_not (a := true) (Evl.et_B (d_isi (dv rfl h1') kit_tuple_tuple))) fun _ => Evl.et_is (Evl.et_test (Evl.ev_op (d_lenT (dv rfl h1')) Evl.ev_c (Evl.rv_ne rfl))) (by rfl)) (fun z => nomatch z) fun _ H2 e2 => ?_
      refine qD_un (dv rfl (exd e2 h1')) rfl fun xs H3 e3 hx => un3 hx fun v1 v2 v3 q1 q2 q3 => ?_
      cases q1
      cases q2
      cases q3
      refine Evl.q_when (b := false) (Evl.et_or (a := false) (b := false) (Evl.et_not (a := true) (Evl.et_B (ev_isnum (Evl.ev_var rfl) (Evl.ev_var rfl) g1))) fun _ => Evl.et_or (a := false) (b := false) (Evl.et_test (ev_way (Evl.ev_var rfl))) fun _ => Evl.et_not (a := true) (Evl.et_B (ev_isnum (Evl.ev_var rfl) (Evl.ev_var rfl) g2))) (fun z => nomatch z) fun _ H4 e4 => ?_
      exact sD_ret (d_tup (ds := [.int en.w, .str (wayS en.r), .int en.n]) (as_d (Ev.int (Evl.ev_var rfl)) (as_d (Ev.str (Evl.ev_var rfl)) (as_d (Ev.int (Evl.ev_var rfl)) as_nil)))) fun v H5 e5 q => k v H5 ((((e1.trans e2).trans e3).trans e4).trans e5) q
/-! ### Machine -/
def rowL (r : List (Option Ent)) : PyData := .list (r.map entD)
def tblL (T : Tbl) : PyData := .list (T.map rowL)
def spMk (K : PySem.W.Frag) : Sp := fun vs H Q _ => ∃ x dx tv T S c, vs = [.ref x, tv] ∧ H x = some (.ins (CM K) dx []) ∧ Dp K H tv (tblL T) ∧ TblOk T S c ∧ T.length ≤ 1000 ∧ c ≤ 1000 ∧
  ∀ H', (∀ b o, H b = some o → b ≠ x → H' b = some o) → MachAt K H' x T → Q .non H'
theorem sc_Machine_init : FnScope ["self", "table", "states", "signs", "made", "line", "entry"] ["self", "table"] (defScope (inClass (top 10) 0)) := ⟨rfl, rfl, rfl, by decide +kernel, rfl, by decide +kernel, by decide +kernel⟩
theorem take_map_next {α : Type} {l : List α} {f : α → PyData} {i : Nat} {d : PyData} (h : (l.map f)[i]? = some d) : (l.take (i + 1)).map f = (l.take i).map f ++ [d] := by
  rw [List.getElem?_map] at h
  obtain ⟨x, hx, rfl⟩ := Option.map_eq_some_iff.mp h
  rw [List.take_add_one, hx]
  simp
theorem lenL {σ : L2.St} {H : Hp} {te : TE} {ds : List PyData} {n : Nat} (h : EvD K te σ H (.list ds)) (hn : ds.length = n) : Evl.Ev (tCB (fun xs H Q => ∃ p ys, xs = [.ref p] ∧ (SqL K H p ys ∨ SqT K H p ys) ∧ Q (.int ys.length) H) (tCons te tNil)) σ H (.int (n : Nat)) := hn ▸ d_lenL h
theorem lenT {σ : L2.St} {H : Hp} {te : TE} {ds : List PyData} {n : Nat} (h : EvD K te σ H (.tuple ds)) (hn : ds.length = n) : Evl.Ev (tCB (fun xs H Q => ∃ p ys, xs = [.ref p] ∧ (SqL K H p ys ∨ SqT K H p ys) ∧ Q (.int ys.length) H) (tCons te tNil)) σ H (.int (n : Nat)) := hn ▸ d_lenT h
/-- a small number is not nought -/
theorem eq_no {i j : Int} (h : i ≠ j) : decide (V.int i = V.int j) = false := decide_eq_false fun e => h (by injection e)
theorem eq_yes {i j : Int} (h : i = j) : decide (V.int i = V.int j) = true := decide_eq_true (by rw [h])
theorem h_Machine (T : Top K mg) : HasC P w K mg base (CM K) "Machine" ["self", "table"] 3 (spMk K) := by
  have H_entry_kept : Has P w K mg base "entry_kept" ["entry", "states", "signs"] 2 (SpD K RKept) := h_entry_kept T
  obtain ⟨fd, F0⟩ := He.SaysD.def_ T.d 46 (d := dm "Machine" "__init__" "Machine.__init__" 10 0) (by rfl)
  have F : FunD K "__init__" "Machine.__init__" (defArgs (inClass (top 10) 0)) (defBody (inClass (top 10) 0)) (defScope (inClass (top 10) 0)) [] [] (He.ma K (CM K) "__init__") fd := F0
  refine ⟨_, fd, T.glo 46, He.mkr_ok (He.SaysD.fact T.d 75 (f := .mkr "Machine") (by rfl)), F.bindsN (ps := ["self", "table"]) (fun _ _ _ _ _ _ us hl => match us, hl with | [_, _], _ => rfl), ?_⟩
  refine F.ok sc_Machine_init (fun vs H Q E h => by obtain ⟨_, _, _, _, _, _, rfl, _⟩ := h; rfl) fun cdv A outer s H vs Q E hr h => ⟨_, PSs.nox (pss_cons (ps_if (PW.pt (pw_or (pt_cmpR op_eq (pe_callB call_len_seq (by rfl) (T.free 56) (by decide +kernel) (pa_cons (pv 1) pa_nil)) pe_int (nomark _)) (pw_or1 (pt_cmpR op_eq (pe_callB call_len_seq (by rfl) (T.free 56) (by decide +kernel) (pa_cons (pe_ix ix_list (pv 1) pe_int (fun _ _ => rfl)) pa_nil)) pe_int (nomark _))))) (pss_one ps_never) pss_nil)
      (pss_cons (ps_set (i := 2) sc_Machine_init.nd rfl (Or.inr rfl) (pe_callB call_len_seq (by rfl) (T.free 56) (by decide +kernel) (pa_cons (pv 1) pa_nil)))
      (pss_cons (ps_set (i := 3) sc_Machine_init.nd rfl (Or.inr rfl) (pe_callB call_len_seq (by rfl) (T.free 56) (by decide +kernel) (pa_cons (pe_ix ix_list (pv 1) pe_int (fun _ _ => rfl)) pa_nil)))
      (pss_cons (ps_set (i := 4) sc_Machine_init.nd rfl (Or.inl rfl) (pe_lst pa_nil))
      (pss_cons (ps_for PassesOwn.never rfl (pi_list (pv 1)) (pg_name (i := 5) sc_Machine_init.nd rfl (Or.inl rfl)) (pss_cons (ps_if (pt_cmpR op_ne (pe_callB call_len_seq (by rfl) (T.free 56) (by decide +kernel) (pa_cons (pv 5) pa_nil)) (pv 3) (nomark _)) (pss_one ps_never) pss_nil)
      (pss_one (ps_expr (pe_bm PySem.F.plainAttrs_list PySem.F.slot_list_append PySem.F.type_list_append mt_append (pv 4) (pa_cons (pe_callTy call_tuple_of (by rfl) (T.free 52) (by decide +kernel) (pa_cons (pe_lc (own := [("entry", 6)]) (g := (gName 6)) (tt := tYes) rfl sc_Machine_init.nd (pi_list (pv 5)) (blkOk_by (N := ["self", "table", "states", "signs", "made", "line", "entry"]) (sc := defScope (inClass (top 10) 0)) (by decide +kernel)) (fun _ _ _ _ _ => (pg_name (i := 6) sc_Machine_init.nd rfl (Or.inl rfl))) (fun _ _ _ _ _ => pts_nil) (fun _ _ _ _ _ => (pe_callH H_entry_kept (hr.mono (by decide)) (pa_cons (pv 6) (pa_cons (pv 2) (pa_cons (pv 3) pa_nil)))))) pa_nil)) pa_nil))))))
      (pss_one (ps_fld (pv 0) (pe_callTy call_tuple_of (by rfl) (T.free 52) (by decide +kernel) (pa_cons (pv 4) pa_nil)) rfl))))))), ?_⟩
  obtain ⟨x, dx, tv, Tb, S, c, rfl, hx, ht, hT, z1, z2, k⟩ := h
  obtain ⟨r0, o0, h1, h2, _⟩ := hT.at_ (q := 0) (s := 0) (by have := hT.s1; omega) (by have := hT.c1; omega)
  have l0 : (Tb.map rowL).length = S := by rw [List.length_map, hT.len]
  have i0 : atI (Tb.map rowL) 0 = some (.list (r0.map entD)) := atI_nat (j := 0) (by rw [List.getElem?_map, h1]; rfl)
  have lr : (r0.map entD).length = c := by rw [List.length_map, hT.row r0 (List.mem_of_getElem? h1)]
  have s1 := hT.s1
  have c1 := hT.c1
  refine Evl.q_when (b := false) (Evl.et_or (a := false) (b := false) (Evl.et_is (Evl.et_test (Evl.ev_op (lenL (dv rfl ht) l0) Evl.ev_c (Evl.rv_eq rfl))) (eq_no (by omega))) fun _ => Evl.et_is (Evl.et_test (Evl.ev_op (lenL (d_ixL (dv rfl ht) Evl.ev_c i0) lr) Evl.ev_c (Evl.rv_eq rfl))) (eq_no (by omega))) (fun z => nomatch z) fun _ H1 e1 => ?_
  refine Evl.q_asg (lenL (dv rfl (exd e1 ht)) l0) fun H2 e2 => ?_
  refine Evl.q_asg (lenL (d_ixL (dv rfl (exd (e1.trans e2) ht)) Evl.ev_c i0) lr) fun H3 e3 => ?_
  refine Evl.q_asgL (Evl.el_lst Evl.ea_nil (by decide)) fun l H4 hl e4 h4 => ?_
  have e03 : Ex H H3 := (e1.trans e2).trans e3
  have hl0 : H l = none := Evl.fresh_back e03 hl
  have hxl : x ≠ l := ne_of_none hx hl0
  have e04 : Ex H H4 := e03.trans e4
  refine sD_forLV (D := _) (v := tv) (Evl.ev_var rfl) (fun i σ' H' => ∃ u ws, σ' = [some (.ref x), some tv, some (.int S), some (.int c), some (.ref l), u, none] ∧ Ex H H' ∧ H' l = some (.lst ws) ∧ DpAll K H' ws ((Tb.take i).map rowD))
    (fun H5 e5 => ⟨none, [], rfl, e04.trans e5, e5 _ _ h4, .nil⟩) (exd e04 ht) (fun i σ' H' _ ⟨u, ws, _, e, _⟩ => exd e ht) ?_ ?_
  · rintro i y d σ' H' hi hy ⟨u, ws, rfl, e, hw, ha⟩
    rw [List.getElem?_map] at hi
    obtain ⟨r, hr1, rfl⟩ := Option.map_eq_some_iff.mp hi
    have hm := List.mem_of_getElem? hr1
    have hlen : (r.map entD).length = c := by rw [List.length_map, hT.row r hm]
    refine Evl.q_when (b := false) (Evl.et_is (Evl.et_test (Evl.ev_op (lenL (ds := r.map entD) (dv rfl hy) hlen) (Evl.ev_var rfl) (Evl.rv_ne rfl))) (by rw [eq_yes rfl]; rfl)) (fun z => nomatch z) fun _ H6 e6 => ?_
    have hi2 : i < Tb.length := (List.getElem?_eq_some_iff.mp hr1).1
    refine sD_app (e6 _ _ hw) (Evl.ev_var rfl) (d := rowD r) (d_is (d_tupleOf (d_lcL (xs := r) (enc := entD) (fun _ => true) entD (dv rfl (exd e6 hy)) (by rw [hT.row r hm]; omega) (fun o _ _ => noL_ent o) (fun _ => rfl) (fun _ _ _ _ _ _ => et_yes) fun o v H7 ho e7 q _ => ?_)) ?_) ?_ ?_
    · exact d_call (as_d (dv rfl q) (as_v (Evl.ev_var rfl) (as_v (Evl.ev_var rfl) as_nil))) fun H8 e8 => ⟨o, S, c, rfl, hT.ok r hm o ho, rfl⟩
    · rw [filter_yes]; rfl
    · have hl1 := ha.length
      rw [List.length_map, List.length_take] at hl1
      omega
    · intro v H7 e7 q h7
      have kt := KeepT.lst (o := .lst (ws ++ [v])) h7
      refine ⟨some y, ws ++ [v], rfl, Evl.Ex.mut ((e.trans e6).trans e7) hl0, upd_same, ?_⟩
      have er : (Tb.take (i + 1)).map rowD = (Tb.take i).map rowD ++ [rowD r] := take_map_next (by rw [List.getElem?_map, hr1]; rfl)
      rw [er]
      refine dpTs kt _ _ (noLs_all fun d hd => ?_) ((exa (e6.trans e7) ha).snoc q)
      rcases List.mem_append.mp hd with hd | hd
      · obtain ⟨r', _, rfl⟩ := List.mem_map.mp hd
        exact noL_row r'
      · rw [List.mem_singleton.mp hd]; exact noL_row r
  · rintro σ' H' ⟨u, ws, rfl, e, hw, ha⟩
    rw [List.length_map, List.take_length] at ha
    refine sD_fld (d_tupleOf (dv rfl (.lst (.of hw) ha))) (Evl.ev_var rfl) fun v H6 e6 q => ?_
    obtain ⟨t', ws', rfl, g1, g2⟩ := dp_tup q
    refine ⟨CM K, dx, [], e6 _ _ (e _ _ hx), T.clM, T.noat 68, by show 0 < 1000; decide, ?_⟩
    refine k _ (fun b o hb ne => ?_) ⟨dx, t', by rw [upd_same]; rfl, ?_⟩
    · rw [upd_ne ne]; exact e6 _ _ (e _ _ hb)
    · refine Dp.keep (KeepS.upd ?_) _ _ q
      rw [e6 _ _ (e _ _ hx)]; exact True.intro
end
end WK
end
section
set_option Elab.async false
set_option linter.all false
set_option maxRecDepth 100000
set_option maxHeartbeats 4000000
/-! A run's cells, a run at an address, what reading it gives. -/
namespace WK
open PySem PySem.Spec PyProof.Rows L2 HD DT2 TX TP ND EN LC
/-! ### runs that end -/
theorem go_stop {T : Tbl} {s u : Sh} {j n : Nat} (h : runF T s j = some u) (hs : step T u = none) (hj : j ≤ n) : go T n s = (u, j) := by
  have h1 := go_run T n s
  have h2 := go_le T n s
  have e : (go T n s).2 = j := by
    rcases Nat.lt_trichotomy (go T n s).2 j with q | q | q
    · have h3 := h1.2 (by omega)
      obtain ⟨v, hv⟩ := runF_le (m := (go T n s).2 + 1) h (by omega)
      have hv : (runF T s (go T n s).2).bind (step T) = some v := hv
      rw [h1.1] at hv
      have hv : step T (go T n s).1 = some v := hv
      rw [h3] at hv; cases hv
    · exact q
    · obtain ⟨v, hv⟩ := runF_le (m := j + 1) h1.1 (by omega)
      have hv : (runF T s j).bind (step T) = some v := hv
      rw [h] at hv
      have hv : step T u = some v := hv
      rw [hs] at hv; cases hv
  have h3 := h1.1
  rw [e, h] at h3
  exact Prod.ext (Option.some.inj h3).symm e
theorem tr_stop {T : Tbl} {s u : Sh} {j : Nat} (h : runF T s j = some u) (hs : step T u = none) : ∀ d, tr T (j + d) s = tr T j s
  | 0 => rfl
  | d + 1 => by
    rw [show j + (d + 1) = j + d + 1 from rfl, tr_snoc, go_stop h hs (Nat.le_add_right j d), hs, tr_stop h hs d]
    simp
theorem tr_next {T : Tbl} {s u v : Sh} {j : Nat} (h : runF T s j = some u) (hs : step T u = some v) : tr T (j + 1) s = tr T j s ++ [v] := by
  rw [tr_snoc, go_of_run T j s u h, if_pos rfl, hs]
theorem runF_next {T : Tbl} {s u v : Sh} {j : Nat} (h : runF T s j = some u) (hs : step T u = some v) : runF T s (j + 1) = some v := by
  show (runF T s j).bind (step T) = some v
  rw [h]; exact hs
/-! ### cells -/
structure Cells (kvs : List (Key × V)) (mk : List (Int × Nat)) : Prop where
  nd : (kvs.map (·.1)).Nodup
  key : ∀ x ∈ kvs, ∃ p, x.1 = .inl p
  val : ∀ p, valV kvs (.inl p) = if look mk p = 0 then none else some (.int (look mk p : Nat))
theorem Cells.nil : Cells [] [] := ⟨List.nodup_nil, (fun _ h => nomatch h), fun p => by simp [look, valV_nil]⟩
theorem valV_mem {kvs : List (Key × V)} {k : Key} : (valV kvs k).isSome = true ↔ k ∈ kvs.map (·.1) := by
  rw [← valV_any, List.any_eq_true]
  constructor
  · rintro ⟨x, hx, e⟩
    exact List.mem_map.mpr ⟨x, hx, of_decide_eq_true e⟩
  · intro h
    obtain ⟨x, hx, e⟩ := List.mem_map.mp h
    exact ⟨x, hx, decide_eq_true e⟩
theorem valV_drop (kvs : List (Key × V)) (k j : Key) : valV (dropK kvs k) j = if j = k then none else valV kvs j := by
  induction kvs with
  | nil => simp [dropK, valV_nil]
  | cons p r ih =>
    by_cases hp : p.1 = k
    · have e : dropK (p :: r) k = dropK r k := by unfold dropK; rw [List.filter_cons, if_neg (by simp [hp])]
      rw [e, ih]
      by_cases hj : j = k
      · rw [if_pos hj, if_pos hj]
      · rw [if_neg hj, if_neg hj, valV_neg (fun z => hj (z.symm.trans hp))]
    · have e : dropK (p :: r) k = p :: dropK r k := by unfold dropK; rw [List.filter_cons, if_pos (by simp [hp])]
      rw [e]
      by_cases hj : p.1 = j
      · rw [valV_pos hj, valV_pos hj, if_neg (fun z => hp (hj.trans z))]
      · rw [valV_neg hj, valV_neg hj, ih]
theorem putK_keys (kvs : List (Key × V)) (k : Key) (v : V) : ((putK kvs k v).map (·.1) = kvs.map (·.1) ∧ k ∈ kvs.map (·.1)) ∨ ((putK kvs k v).map (·.1) = kvs.map (·.1) ++ [k] ∧ ¬ k ∈ kvs.map (·.1)) := by
  unfold putK
  by_cases a : (kvs.any fun kv => decide (kv.1 = k)) = true
  · rw [if_pos a]
    refine .inl ⟨?_, valV_mem.mp (by rw [← valV_any]; exact a)⟩
    rw [List.map_map]
    refine List.map_congr_left fun x _ => ?_
    show (if x.1 = k then (x.1, v) else x).1 = x.1
    split <;> rfl
  · rw [if_neg a]
    refine .inr ⟨by simp, fun h => a ?_⟩
    rw [valV_any]; exact valV_mem.mpr h
theorem Cells.put {kvs : List (Key × V)} {mk : List (Int × Nat)} {p : Int} {w : Nat} (h : Cells kvs mk) (hs : Srt mk) (hw : w ≠ 0) : Cells (putK kvs (.inl p) (.int w)) (setM mk p w) := by
  refine ⟨?_, fun x hx => ?_, fun q => ?_⟩
  · rcases putK_keys kvs (.inl p) (.int w) with ⟨e, _⟩ | ⟨e, hn⟩
    · rw [e]; exact h.nd
    · rw [e]
      refine List.nodup_append.mpr ⟨h.nd, by simp, fun a ha b hb => ?_⟩
      rw [List.mem_singleton.mp hb]
      exact fun z => hn (z ▸ ha)
  · have hm : x.1 ∈ (putK kvs (.inl p) (.int w)).map (·.1) := List.mem_map.mpr ⟨x, hx, rfl⟩
    rcases putK_keys kvs (.inl p) (.int w) with ⟨e, _⟩ | ⟨e, hn⟩
    · rw [e] at hm
      obtain ⟨y, hy, ey⟩ := List.mem_map.mp hm
      rw [← ey]; exact h.key y hy
    · rw [e] at hm
      rcases List.mem_append.mp hm with hm | hm
      · obtain ⟨y, hy, ey⟩ := List.mem_map.mp hm
        rw [← ey]; exact h.key y hy
      · exact ⟨p, List.mem_singleton.mp hm⟩
  · rw [valV_put, look_setM q hs]
    by_cases e : p = q
    · rw [if_pos (by rw [e]), if_pos e, if_neg hw]
    · rw [if_neg (fun z => e (by injection z with z; exact z.symm)), if_neg e, h.val]
theorem Cells.drop {kvs : List (Key × V)} {mk : List (Int × Nat)} {p : Int} (h : Cells kvs mk) (hs : Srt mk) : Cells (dropK kvs (.inl p)) (setM mk p 0) := by
  refine ⟨?_, fun x hx => h.key x (List.mem_filter.mp hx).1, fun q => ?_⟩
  · have : (dropK kvs (.inl p)).map (·.1) = (kvs.map (·.1)).filter fun k => decide (k ≠ .inl p) := by
      rw [List.filter_map]; rfl
    rw [this]
    exact h.nd.filter _
  · rw [valV_drop, look_setM q hs]
    by_cases e : p = q
    · rw [if_pos (by rw [e]), if_pos e, if_pos rfl]
    · rw [if_neg (fun z => e (by injection z with z; exact z.symm)), if_neg e, h.val]
theorem Cells.same {kvs : List (Key × V)} {mk : List (Int × Nat)} {p : Int} (h : Cells kvs mk) (hs : Srt mk) (hn : valV kvs (.inl p) = none) : Cells kvs (setM mk p 0) := by
  refine ⟨h.nd, h.key, fun q => ?_⟩
  rw [look_setM q hs]
  by_cases e : p = q
  · rw [if_pos e, if_pos rfl, ← e, hn]
  · rw [if_neg e, h.val]
def unI : Key → Int
  | .inl p => p
  | .inr _ => 0
theorem Cells.keys {kvs : List (Key × V)} {mk : List (Int × Nat)} (h : Cells kvs mk) : (kvs.map fun kv => kV kv.1) = (kvs.map fun kv => unI kv.1).map V.int := by
  rw [List.map_map]
  refine List.map_congr_left fun x hx => ?_
  obtain ⟨p, e⟩ := h.key x hx
  show kV x.1 = V.int (unI x.1)
  rw [e]; rfl
theorem Cells.sorted {kvs : List (Key × V)} {mk : List (Int × Nat)} (h : Cells kvs mk) (hs : Srt mk) {ks : List Int} (hp : ks.Perm (kvs.map fun kv => unI kv.1)) (ho : ks.Pairwise (· ≤ ·)) : ks = mk.map (·.1) := by
  have hk : kvs.map (·.1) = (kvs.map fun kv => unI kv.1).map Sum.inl := by
    rw [List.map_map]
    refine List.map_congr_left fun x hx => ?_
    obtain ⟨p, e⟩ := h.key x hx
    show x.1 = Sum.inl (unI x.1)
    rw [e]; rfl
  refine keys_sorted hs ?_ (fun p => ?_) hp ho
  · have := h.nd
    rw [hk] at this
    exact (List.pairwise_map.mp this).imp fun h e => h (by rw [e])
  · have e := valV_mem (kvs := kvs) (k := .inl p)
    rw [h.val, hk] at e
    constructor
    · intro hm
      have := e.mpr (List.mem_map.mpr ⟨p, hm, rfl⟩)
      intro z
      rw [if_pos z] at this
      cases this
    · intro z
      rw [if_neg z] at e
      obtain ⟨q, hq, eq⟩ := List.mem_map.mp (e.mp rfl)
      injection eq with eq
      rw [← eq]; exact hq
theorem Cells.len {kvs : List (Key × V)} {mk : List (Int × Nat)} (h : Cells kvs mk) (hs : Srt mk) : kvs.length = mk.length := by
  have hp := List.mergeSort_perm (kvs.map fun kv => unI kv.1) (fun a b => decide (a ≤ b))
  have ho : ((kvs.map fun kv => unI kv.1).mergeSort (fun a b => decide (a ≤ b))).Pairwise (· ≤ ·) := by
    have := List.pairwise_mergeSort (le := fun (a b : Int) => decide (a ≤ b)) (fun a b c h1 h2 => by simp at *; omega) (fun a b => by simp; omega) (kvs.map fun kv => unI kv.1)
    exact this.imp fun h => of_decide_eq_true h
  have e := congrArg List.length (h.sorted hs hp ho)
  rw [hp.length_eq, List.length_map, List.length_map] at e
  exact e
/-! ### a run at x, its cells at d -/
structure RunAt (K : PySem.W.Frag) (H : Hp) (x d dx t : Addr) (T : Tbl) (s : Sh) : Prop where
  ins : H x = some (.ins (CR K) dx [("table", .ref t), ("state", .int (s.st : Nat)), ("place", .int s.pl), ("cells", .ref d)])
  tab : Dp K H (.ref t) (tblD T)
  cel : ∃ kvs, H d = some (.dK kvs) ∧ Cells kvs s.mks
def Mut (H H' : Hp) (x d : Addr) : Prop := ∀ b o, H b = some o → b ≠ x → b ≠ d → H' b = some o
section
variable {K : PySem.W.Frag} {mg : Str → Option Value} {H H1 H2 H' : Hp} {x d dx t : Addr} {T : Tbl} {s : Sh}
theorem Mut.of_ex (e : Ex H H') : Mut H H' x d := fun b o h _ _ => e b o h
theorem Mut.trans (a : Mut H H1 x d) (b : Mut H1 H2 x d) : Mut H H2 x d := fun c o h h1 h2 => b c o (a c o h h1 h2) h1 h2
theorem Mut.ex (m : Mut H1 H2 x d) (e : Ex H H1) (hx : H x = none) (hd : H d = none) : Ex H H2 := fun b o h => m b o (e b o h) (ne_of_none h hx) (ne_of_none h hd)
theorem RunAt.ne (R : RunAt K H x d dx t T s) : x ≠ d := fun e => by
  obtain ⟨kvs, h, _⟩ := R.cel
  rw [← e, R.ins] at h
  cases h
theorem RunAt.keep (R : RunAt K H x d dx t T s) (m : Mut H H' x d) : KeepS H H' := fun b u hu r => by
  obtain ⟨kvs, hd, _⟩ := R.cel
  have hx : b ≠ x := by
    rintro rfl
    rcases r with r | ⟨q, r⟩
    · rw [R.ins] at r
      rcases hu with ⟨xs, rfl⟩ | ⟨xs, rfl⟩ <;> cases r
    · rw [R.ins] at r; cases r
  have hd' : b ≠ d := by
    rintro rfl
    rcases r with r | ⟨q, r⟩
    · rw [hd] at r
      rcases hu with ⟨xs, rfl⟩ | ⟨xs, rfl⟩ <;> cases r
    · rw [hd] at r; cases r
  rcases r with r | ⟨q, r⟩
  · exact .inl (m b _ r hx hd')
  · exact .inr ⟨q, m b _ r hx hd'⟩
theorem RunAt.ex (R : RunAt K H x d dx t T s) (e : Ex H H') : RunAt K H' x d dx t T s :=
  let ⟨kvs, h, c⟩ := R.cel
  ⟨e _ _ R.ins, exd e R.tab, kvs, e _ _ h, c⟩
/-! ### reading -/
variable {σ : L2.St} {te ta ty tx : TE} {D : Ends} {tu tw tz : TS}
theorem ev_fldI {f : Str} {C : Addr} {fs : List (Str × V)} {v : V} (h : Evl.Ev te σ H (.ref x)) (hx : H x = some (.ins C dx fs)) (hc : Cls K C) (hn : NoAttr K C f) (hl : fs.lookup f = some v) : Evl.Ev (tFld K te f) σ H v := fun H1 a Q k =>
  h H1 a _ fun H2 b => ⟨x, C, dx, fs, v, rfl, (a.trans b) _ _ hx, hc, hn, hl, k H2 b⟩
theorem RunAt.table (To : Top K mg) (R : RunAt K H x d dx t T s) (h : Evl.Ev te σ H (.ref x)) : EvD K (tFld K te "table") σ H (tblD T) :=
  .of (ev_fldI h R.ins To.clR (To.noat 69) (by rfl)) R.tab
theorem RunAt.state (To : Top K mg) (R : RunAt K H x d dx t T s) (h : Evl.Ev te σ H (.ref x)) : Evl.Ev (tFld K te "state") σ H (.int (s.st : Nat)) := ev_fldI h R.ins To.clR (To.noat 70) (by rfl)
theorem RunAt.place (To : Top K mg) (R : RunAt K H x d dx t T s) (h : Evl.Ev te σ H (.ref x)) : Evl.Ev (tFld K te "place") σ H (.int s.pl) := ev_fldI h R.ins To.clR (To.noat 71) (by rfl)
theorem RunAt.cells (To : Top K mg) (R : RunAt K H x d dx t T s) (h : Evl.Ev te σ H (.ref x)) : Evl.Ev (tFld K te "cells") σ H (.ref d) := ev_fldI h R.ins To.clR (To.noat 72) (by rfl)
theorem dget_k {kvs : List (Key × V)} {p : Int} (hd : H d = some (.dK kvs)) : DGet H d (.int p) (valV kvs (.inl p)) := DGet.k (k := .inl p) hd
theorem RunAt.get (To : Top K mg) (R : RunAt K H x d dx t T s) (hd : Evl.Ev te σ H (.ref d)) (hp : Evl.Ev ty σ H (.int s.pl)) (h0 : Evl.Ev tx σ H (.int 0)) : Evl.Ev (tDGet2 te ty tx) σ H (.int (look s.mks s.pl : Nat)) := fun H1 a Q k => by
  obtain ⟨kvs, hk, c⟩ := R.cel
  refine hd H1 a _ fun H2 a2 => ⟨d, rfl, .inl ⟨kvs, .inl ((a.trans a2) _ _ hk)⟩, hp H2 (a.trans a2) _ fun H3 a3 => h0 H3 ((a.trans a2).trans a3) _ fun H4 a4 => ⟨_, dget_k ((((a.trans a2).trans a3).trans a4) _ _ hk), ?_⟩⟩
  rw [c.val]
  have := k H4 ((a2.trans a3).trans a4)
  split
  · rename_i e
    rw [e] at this
    exact this
  · exact this
/-- the entry that a run reads next -/
theorem RunAt.entry {S c : Nat} (To : Top K mg) (hT : TblOk T S c) (ok : ShOk S c s) {td : TE} (R : RunAt K H x d dx t T s) (ht : EvD K td σ H (tblD T)) (h : Evl.Ev te σ H (.ref x)) (h0 : Evl.Ev tx σ H (.int 0)) :
    EvD K (tOp (rIxT K) (tOp (rIxT K) td (tFld K te "state")) (tDGet2 (tFld K te "cells") (tFld K te "place") tx)) σ H (entD (TP.entry T s.st (look s.mks s.pl))) := by
  obtain ⟨r, o, h1, h2, h3, _⟩ := hT.at_ ok.1 (ok.look hT.c1 s.pl)
  rw [h3]
  refine d_ixT (ds := r.map entD) (d_ixT ht (R.state To h) (atI_nat ?_)) (R.get To (R.cells To h) (R.place To h) h0) (atI_nat ?_)
  · rw [List.getElem?_map, h1]; rfl
  · rw [List.getElem?_map, h2]; rfl
/-! ### statements -/
/-- an if both of whose branches come to M -/
theorem q_ifK {tt : TT} {b : Bool} (M : L2.St → Hp → Prop) (h : Evl.EvT tt σ H b) (k : ∀ σ' H', M σ' H' → tz D σ' H') (h1 : b = true → ∀ H1, Ex H H1 → (∀ σ' H', M σ' H' → tz D σ' H') → tu { D with nx := tz D } σ H1) (h2 : b = false → ∀ H1, Ex H H1 → (∀ σ' H', M σ' H' → tz D σ' H') → tw { D with nx := tz D } σ H1) :
    tSeq (tIfS tt tu tw) tz D σ H := Evl.q_if h (fun hb H1 e => h1 hb H1 e k) (fun hb H1 e => h2 hb H1 e k)
theorem s_fldV {f : Str} {C : Addr} {fs : List (Str × V)} {v : V} (h : Evl.Ev te σ H v) (ho : Evl.Ev ta σ H (.ref x)) (hx : H x = some (.ins C dx fs)) (hc : Cls K C) (hn : NoAttr K C f) (hl : fs.length < 1000) (k : ∀ H1, Ex H H1 → D.nx σ (upd H1 x (.ins C dx (putF f v fs)))) : sFld K ta te f D σ H :=
  h H (Evl.Ex.refl H) _ fun H1 e => ho H1 e _ fun H2 e2 => ⟨x, C, dx, fs, rfl, (e.trans e2) _ _ hx, hc, hn, hl, k H2 (e.trans e2)⟩
theorem q_fldV {f : Str} {C : Addr} {fs : List (Str × V)} {v : V} (h : Evl.Ev te σ H v) (ho : Evl.Ev ta σ H (.ref x)) (hx : H x = some (.ins C dx fs)) (hc : Cls K C) (hn : NoAttr K C f) (hl : fs.length < 1000) (k : ∀ H1, Ex H H1 → tz D σ (upd H1 x (.ins C dx (putF f v fs)))) : tSeq (sFld K ta te f) tz D σ H :=
  s_fldV (D := { D with nx := tz D }) h ho hx hc hn hl k
theorem s_pop2 {kvs : List (Key × V)} {p : Int} {z : V} (h : Evl.Ev ta σ H (.ref d)) (hp : Evl.Ev ty σ H (.int p)) (hx : Evl.Ev tx σ H z) (hd : H d = some (.dK kvs)) (k1 : ∀ v H1, Ex H H1 → valV kvs (.inl p) = some v → D.nx σ (upd H1 d (.dK (dropK kvs (.inl p))))) (k2 : ∀ H1, Ex H H1 → valV kvs (.inl p) = none → D.nx σ H1) :
    tDrop (tDPop2 ta ty tx) D σ H := h H (Evl.Ex.refl _) _ fun H1 e1 => ⟨d, rfl, .inl ⟨kvs, .inl (e1 _ _ hd)⟩, hp H1 e1 _ fun H2 e2 => hx H2 (e1.trans e2) _ fun H3 e3 =>
      ⟨kvs, .inl p, ((e1.trans e2).trans e3) _ _ hd, rfl, fun v hv => k1 v H3 ((e1.trans e2).trans e3) hv, fun hn => k2 H3 ((e1.trans e2).trans e3) hn⟩⟩
theorem s_put1 {kvs : List (Key × V)} {p : Int} {v : V} (hv : Evl.Ev te σ H v) (h : Evl.Ev ta σ H (.ref d)) (hp : Evl.Ev ty σ H (.int p)) (hd : H d = some (.dK kvs)) (hl : kvs.length < 100000) (k : ∀ H1, Ex H H1 → D.nx σ (upd H1 d (.dK (putK kvs (.inl p) v)))) : sDPut ta ty te D σ H :=
  hv H (Evl.Ex.refl _) _ fun H1 e1 => h H1 e1 _ fun H2 e2 => hp H2 (e1.trans e2) _ fun H3 e3 => ⟨d, _, rfl, DPut.k (k := .inl p) (((e1.trans e2).trans e3) _ _ hd) (Evl.sz_lt hl), k H3 ((e1.trans e2).trans e3)⟩
/-- c and d, the second of which may change what it likes -/
theorem et_andS {t u : TT} {a : Bool} {Q : Bool → Hp → Prop} (h : Evl.EvT t σ H a) (h1 : a = true → ∀ H1, Ex H H1 → u σ H1 Q) (h2 : a = false → ∀ H1, Ex H H1 → Q false H1) : tAnd t u σ H Q := h H (Evl.Ex.refl H) _ fun H1 e => by
  cases a with
  | true => rw [if_pos rfl]; exact h1 rfl H1 e
  | false => rw [if_neg Bool.false_ne_true]; exact h2 rfl H1 e
theorem pe_fldK {X : Cx} {e : Expr} {f : Str} {pos : Pos} (he : PE X e te) (hb : attributeBase e f X.env (eval e X.env) = eval e X.env) (hK : X.K = K := by rfl) : PE X (.Attribute e f pos) (tFld K te f) := hK ▸ pe_fld he hb
theorem ix_tupK {X : Cx} (hK : X.K = K := by rfl) : IxR X (rIxT K) := hK ▸ ix_tup
theorem ix_listK {X : Cx} (hK : X.K = K := by rfl) : IxR X (rIxL K) := hK ▸ ix_list
theorem sl_tupAK {X : Cx} (hK : X.K = K := by rfl) : SlR X (rSlA K) := hK ▸ sl_tupA
theorem op_eqDK {X : Cx} (hu : X.A.units + 64 < cLine) (hK : X.K = K := by rfl) : OpR X (compareOp .Eq) (rEqD K) := hK ▸ op_eqD hu
theorem pe_dgetB {X : Cx} {o i : Expr} {pos : Pos} {td ty : TE} (ho : PE X o td) (hi : PE X i ty) (hs : NoSl i) (hu : X.A.units + 1 < cLine) : PE X (.Subscript o i pos) (tDGet td ty) := pe_dget hu ho hi hs
theorem upd_comm_mut {o : HO} (e : Ex H H1) : Mut H (upd H1 x o) x d := fun b u h hb _ => by rw [upd_ne hb]; exact e b u h
theorem upd_comm_mut2 {o : HO} (e : Ex H H1) : Mut H (upd H1 d o) x d := fun b u h _ hb => by rw [upd_ne hb]; exact e b u h
end
end WK
end
section
set_option Elab.async false
set_option linter.all false
set_option maxRecDepth 100000
set_option maxHeartbeats 4000000
/-! Walks: runs. -/
namespace WK
open PySem PySem.Spec PyProof.Rows L2 HD DT2 TX TP ND EN LC
section
variable {P : Program} {w : World} {K : PySem.W.Frag} {mg : Str → Option Value} {base : Heap}
/-! ### Run.step -/
def spStep (K : PySem.W.Frag) : Sp := fun vs H Q _ => ∃ x d dx t T S c s m, vs = [.ref x] ∧ RunAt K H x d dx t T s ∧ TblOk T S c ∧ runs T m = some s ∧ m ≤ 20000 ∧
  (step T s = none → ∀ H', Ex H H' → Q (.bl false) H') ∧ ∀ s', step T s = some s' → ∀ H', Mut H H' x d → RunAt K H' x d dx t T s' → Q (.bl true) H'
theorem keepT_x {H : Hp} {x C : Addr} {dx : Addr} {fs : List (Str × V)} {o : HO} (h : H x = some (.ins C dx fs)) : KeepS H (upd H x o) := KeepS.upd (by rw [h]; exact True.intro)
theorem keepT_d {H : Hp} {d : Addr} {kvs : List (Key × V)} {o : HO} (h : H d = some (.dK kvs)) : KeepS H (upd H d o) := KeepS.upd (by rw [h]; exact True.intro)
theorem way_eq (r : Bool) : decide (V.str (wayS r) = V.str "r") = r := by cases r <;> decide +kernel
theorem sc_Run_step : FnScope ["self", "entry"] ["self"] (defScope (inClass (top 16) 1)) := ⟨rfl, rfl, rfl, by decide +kernel, rfl, by decide +kernel, by decide +kernel⟩
theorem h_step (T : Top K mg) : HasM P w K mg base (CR K) "step" ["self"] 1 (spStep K) := by
  obtain ⟨fd, F0⟩ := He.SaysD.def_ T.d 48 (d := dm "Run" "step" "Run.step" 16 1) (by rfl)
  have F : FunD K "step" "Run.step" (defArgs (inClass (top 16) 1)) (defBody (inClass (top 16) 1)) (defScope (inClass (top 16) 1)) [] [] (He.ma K (CR K) "step") fd := F0
  refine ⟨_, fd, T.clR, He.meth_ok (He.SaysD.fact T.d 73 (f := .meth "Run" "step") (by rfl)), F.bindsN (ps := ["self"]) (fun _ _ _ _ _ _ us hl => match us, hl with | [_], _ => rfl), ?_⟩
  refine F.ok sc_Run_step (fun vs H Q E h => by obtain ⟨_, _, _, _, _, _, _, _, _, rfl, _⟩ := h; rfl) fun cdv A outer s H vs Q E hr h => ⟨_, PSs.nox (pss_cons (ps_set (i := 1) sc_Run_step.nd rfl (Or.inl rfl) (pe_ix ix_tup (pe_ix ix_tup (pe_fld (pv 0) rfl) (pe_fld (pv 0) rfl) (fun _ _ => rfl)) (pe_dget2 (hu_of hr) (pe_fld (pv 0) rfl) (pe_fld (pv 0) rfl) pe_int ⟨rfl, rfl, rfl, rfl⟩) (fun _ _ => rfl)))
      (pss_cons (ps_if (pt_cmpR op_isN (pv 1) pe_non (nomark _)) (pss_one (ps_ret pe_bl)) pss_nil)
      (pss_cons (ps_if (pt_cmpR op_eq (pe_ix ix_tup (pv 1) pe_int (fun _ _ => rfl)) pe_int (nomark _)) (pss_one (ps_expr (pe_dpop2 (pe_fld (pv 0) rfl) (pe_fld (pv 0) rfl) pe_int ⟨rfl, rfl, rfl, rfl⟩))) (pss_one (ps_dput (hu_of hr) (pe_fld (pv 0) rfl) (pe_fld (pv 0) rfl) (pe_ix ix_tup (pv 1) pe_int (fun _ _ => rfl)) rfl)))
      (pss_cons (ps_if (pt_cmpR op_eq (pe_ix ix_tup (pv 1) pe_int (fun _ _ => rfl)) pe_str (nomark _)) (pss_one (ps_fld (pv 0) (pe_op op_add (pe_fld (pv 0) rfl) pe_int) rfl)) (pss_one (ps_fld (pv 0) (pe_op op_sub (pe_fld (pv 0) rfl) pe_int) rfl)))
      (pss_cons (ps_fld (pv 0) (pe_ix ix_tup (pv 1) pe_int (fun _ _ => rfl)) rfl)
      (pss_one (ps_ret pe_bl))))))), ?_⟩
  obtain ⟨x, d, dx, t, Tb, S, c, u, m, rfl, R, hT, hm, hz, k0, k1⟩ := h
  have ok := runs_ok hT hm
  have srt := runs_srt hm
  have len := runs_len hm
  obtain ⟨kvs, hd, cs⟩ := R.cel
  refine qD_asg (R.entry T hT ok (R.table T (Evl.ev_var rfl)) (Evl.ev_var rfl) Evl.ev_c) fun v H1 e1 h1 => ?_
  refine Evl.q_when (Evl.et_test (d_isN (dv rfl h1))) (fun hb H2 e2 => ?_) (fun hb H2 e2 => ?_)
  · refine Evl.s_ret Evl.ev_c fun H3 e3 => k0 ?_ H3 ((e1.trans e2).trans e3)
    unfold TP.step
    cases he : TP.entry Tb u.st (look u.mks u.pl) with
    | none => rfl
    | some en => rw [he] at hb; cases hb
  · cases he : TP.entry Tb u.st (look u.mks u.pl) with
    | none => rw [he] at hb; cases hb
    | some en =>
      rw [he] at h1
      have hst : step Tb u = some ⟨en.n, if en.r then u.pl + 1 else u.pl - 1, setM u.mks u.pl en.w⟩ := by unfold TP.step; rw [he]; rfl
      have e12 := e1.trans e2
      have R2 := R.ex e12
      have h2 := exd e2 h1
      have nx := R.ne
      have hlen := cs.len srt
      refine q_ifK (fun σ' H' => σ' = [some (.ref x), some v] ∧ Mut H H' x d ∧ H' x = some (.ins (CR K) dx [("table", .ref t), ("state", .int (u.st : Nat)), ("place", .int u.pl), ("cells", .ref d)]) ∧ Dp K H' (.ref t) (tblD Tb) ∧ Dp K H' v (entD (some en)) ∧ ∃ kvs', H' d = some (.dK kvs') ∧ Cells kvs' (setM u.mks u.pl en.w))
        (Evl.et_test (Evl.ev_op (EvD.int (d_ixT (dv rfl h2) Evl.ev_c (d := .int en.w) rfl)) Evl.ev_c (Evl.rv_eq rfl))) ?_ (fun hb H3 e3 kk => ?_) (fun hb H3 e3 kk => ?_)
      · rintro σ' H4 ⟨rfl, m4, i4, t4, v4, kvs4, d4, c4⟩
        refine q_ifK (fun σ' H' => σ' = [some (.ref x), some v] ∧ Mut H H' x d ∧ H' x = some (.ins (CR K) dx [("table", .ref t), ("state", .int (u.st : Nat)), ("place", .int (if en.r then u.pl + 1 else u.pl - 1)), ("cells", .ref d)]) ∧ Dp K H' (.ref t) (tblD Tb) ∧ Dp K H' v (entD (some en)) ∧ ∃ kvs', H' d = some (.dK kvs') ∧ Cells kvs' (setM u.mks u.pl en.w))
          (b := en.r) (Evl.et_is (Evl.et_test (Evl.ev_op (EvD.str (d_ixT (dv rfl v4) Evl.ev_c (d := .str (wayS en.r)) rfl)) Evl.ev_c (Evl.rv_eq rfl))) (way_eq en.r)) ?_ (fun hb H5 e5 kk => ?_) (fun hb H5 e5 kk => ?_)
        · rintro σ' H6 ⟨rfl, m6, i6, t6, v6, kvs6, d6, c6⟩
          refine q_fldV (EvD.int (d_ixT (dv rfl v6) Evl.ev_c (d := .int en.n) rfl)) (Evl.ev_var rfl) i6 T.clR (T.noat 70) (by show 4 < 1000; decide) fun H7 e7 => ?_
          refine Evl.s_ret Evl.ev_c fun H8 e8 => k1 _ hst H8 ((m6.trans (upd_comm_mut e7)).trans (.of_ex e8)) (RunAt.ex ⟨upd_same, ?_, kvs6, ?_, c6⟩ e8)
          · exact Dp.keep (keepT_x (e7 _ _ i6)) _ _ (exd e7 t6)
          · rw [upd_ne nx.symm]; exact e7 _ _ d6
        · refine s_fldV (Evl.ev_op (ev_fldI (Evl.ev_var rfl) (e5 _ _ i4) T.clR (T.noat 71) (by rfl)) Evl.ev_c Evl.rv_I0) (Evl.ev_var rfl) (e5 _ _ i4) T.clR (T.noat 71) (by show 4 < 1000; decide) fun H6 e6 => ?_
          have i6 := e6 _ _ (e5 _ _ i4)
          refine kk _ _ ⟨rfl, (m4.trans (.of_ex e5)).trans (upd_comm_mut e6), ?_, ?_, ?_, kvs4, ?_, c4⟩
          · rw [upd_same, if_pos hb]; rfl
          · exact Dp.keep (keepT_x i6) _ _ (exd (e5.trans e6) t4)
          · exact Dp.keep (keepT_x i6) _ _ (exd (e5.trans e6) v4)
          · rw [upd_ne nx.symm]; exact e6 _ _ (e5 _ _ d4)
        · refine s_fldV (Evl.ev_op (ev_fldI (Evl.ev_var rfl) (e5 _ _ i4) T.clR (T.noat 71) (by rfl)) Evl.ev_c Evl.rv_I0) (Evl.ev_var rfl) (e5 _ _ i4) T.clR (T.noat 71) (by show 4 < 1000; decide) fun H6 e6 => ?_
          have i6 := e6 _ _ (e5 _ _ i4)
          refine kk _ _ ⟨rfl, (m4.trans (.of_ex e5)).trans (upd_comm_mut e6), ?_, ?_, ?_, kvs4, ?_, c4⟩
          · rw [upd_same, if_neg (by rw [hb]; decide)]; rfl
          · exact Dp.keep (keepT_x i6) _ _ (exd (e5.trans e6) t4)
          · exact Dp.keep (keepT_x i6) _ _ (exd (e5.trans e6) v4)
          · rw [upd_ne nx.symm]; exact e6 _ _ (e5 _ _ d4)
      · have hw : en.w = 0 := by
          have := of_decide_eq_true hb
          injection this with this
          omega
        have R3 := R2.ex e3
        refine s_pop2 (R3.cells T (Evl.ev_var rfl)) (R3.place T (Evl.ev_var rfl)) Evl.ev_c ((e12.trans e3) _ _ hd) (fun y H4 e4 hy => ?_) (fun H4 e4 hn => ?_)
        · have eA := (e12.trans e3).trans e4
          have d5 := eA _ _ hd
          refine kk _ _ ⟨rfl, (Mut.of_ex eA).trans (upd_comm_mut2 (Evl.Ex.refl _)), ?_, ?_, ?_, _, upd_same, by rw [hw]; exact cs.drop srt⟩
          · rw [upd_ne nx]; exact eA _ _ R.ins
          · exact Dp.keep (keepT_d d5) _ _ (exd eA R.tab)
          · exact Dp.keep (keepT_d d5) _ _ (exd (e3.trans e4) h2)
        · have eA := (e12.trans e3).trans e4
          exact kk _ _ ⟨rfl, Mut.of_ex eA, eA _ _ R.ins, exd eA R.tab, exd (e3.trans e4) h2, kvs, eA _ _ hd, by rw [hw]; exact cs.same srt hn⟩
      · have hw : en.w ≠ 0 := by
          have := of_decide_eq_false hb
          intro z
          rw [z] at this
          exact this rfl
        have R3 := R2.ex e3
        refine s_put1 (EvD.int (d_ixT (dv rfl (exd e3 h2)) Evl.ev_c (d := .int en.w) rfl)) (R3.cells T (Evl.ev_var rfl)) (R3.place T (Evl.ev_var rfl)) ((e12.trans e3) _ _ hd) (by omega) fun H4 e4 => ?_
        have eA := (e12.trans e3).trans e4
        have d5 := eA _ _ hd
        refine kk _ _ ⟨rfl, (Mut.of_ex eA).trans (upd_comm_mut2 (Evl.Ex.refl _)), ?_, ?_, ?_, _, upd_same, cs.put srt hw⟩
        · rw [upd_ne nx]; exact eA _ _ R.ins
        · exact Dp.keep (keepT_d d5) _ _ (exd eA R.tab)
        · exact Dp.keep (keepT_d d5) _ _ (exd (e3.trans e4) h2)
/-! ### Run.shot -/
def RShot (K : PySem.W.Frag) : List Ag → PyData → Hp → Prop := fun as d H => ∃ x e dx t T S c s m, as = [.v (.ref x)] ∧ RunAt K H x e dx t T s ∧ TblOk T S c ∧ runs T m = some s ∧ m ≤ 20000 ∧ d = shD s
theorem d_sortedCells {H : Hp} {σ : L2.St} {te : TE} {x d dx t : Addr} {Tb : Tbl} {s : Sh} (R : RunAt K H x d dx t Tb s) (hs : Srt s.mks) (h : Evl.Ev te σ H (.ref d)) :
    EvD K (tCB (rSortedI K) (tCons (tCB rListD (tCons te tNil)) tNil)) σ H (.list (s.mks.map fun x => .int x.1)) := fun H1 a Q k => by
  obtain ⟨kvs, hd, cs⟩ := R.cel
  refine h H1 a _ fun H2 e2 => ⟨d, kvs, rfl, (a.trans e2) _ _ hd, fun q hq => ⟨q, kvs.map fun kv => unI kv.1, rfl, ?_, fun ns' p hp ho hn => ?_⟩⟩
  · rw [cs.keys]; exact .of upd_same
  · have e := cs.sorted hs hp ho
    refine k _ _ ((e2.trans (Evl.Ex.new hq)).trans (Evl.Ex.new hn)) (.lst (.of upd_same) ?_)
    rw [e]
    have := DpAll.ints (K := K) (H := upd (upd H2 q (.lst (kvs.map fun kv => kV kv.1))) p (.lst ((s.mks.map (·.1)).map V.int))) (s.mks.map (·.1))
    rw [List.map_map (g := PyData.int)] at this
    exact this
theorem ev_cell {H : Hp} {σ : L2.St} {te ty : TE} {x d dx t : Addr} {Tb : Tbl} {s : Sh} (R : RunAt K H x d dx t Tb s) (h : Evl.Ev te σ H (.ref d)) {a : Int × Nat} (hy : Evl.Ev ty σ H (.int a.1)) (hs : Srt s.mks) (ha : a ∈ s.mks) : Evl.Ev (tDGet te ty) σ H (.int (a.2 : Nat)) := fun H1 e Q k => by
  obtain ⟨kvs, hd, cs⟩ := R.cel
  refine h H1 e _ fun H2 e2 => hy H2 (e.trans e2) _ fun H3 e3 => ?_
  have g := dget_k (p := a.1) (((e.trans e2).trans e3) _ _ hd)
  rw [cs.val, look_self hs a ha, if_neg] at g
  · exact ⟨d, _, rfl, g, k H3 (e2.trans e3)⟩
  · intro z
    have h1 := (look_nz (p := a.1) hs).mpr (List.mem_map.mpr ⟨a, ha, rfl⟩)
    rw [look_self hs a ha] at h1
    exact h1 z
theorem sc_Run_shot : FnScope ["self", "marks", "spot"] ["self"] (defScope (inClass (top 16) 2)) := ⟨rfl, rfl, rfl, by decide +kernel, rfl, by decide +kernel, by decide +kernel⟩
theorem h_shot (T : Top K mg) : HasM P w K mg base (CR K) "shot" ["self"] 1 (SpD K (RShot K)) := by
  obtain ⟨fd, F0⟩ := He.SaysD.def_ T.d 49 (d := dm "Run" "shot" "Run.shot" 16 2) (by rfl)
  have F : FunD K "shot" "Run.shot" (defArgs (inClass (top 16) 2)) (defBody (inClass (top 16) 2)) (defScope (inClass (top 16) 2)) [] [] (He.ma K (CR K) "shot") fd := F0
  refine ⟨_, fd, T.clR, He.meth_ok (He.SaysD.fact T.d 74 (f := .meth "Run" "shot") (by rfl)), F.bindsN (ps := ["self"]) (fun _ _ _ _ _ _ us hl => match us, hl with | [_], _ => rfl), ?_⟩
  refine F.ok sc_Run_shot (fun vs H Q E h => len_of h fun as d H h => by obtain ⟨_, _, _, _, _, _, _, _, _, rfl, _⟩ := h; rfl) fun cdv A outer s H vs Q E hr h => ⟨_, PSs.nox (pss_cons (ps_setLc (i := 1) (own := [("spot", 2)]) (g := (gName 2)) (tt := tYes) rfl sc_Run_shot.nd rfl rfl (sw_true rfl rfl rfl (by decide +kernel)) (pi_list (pe_callB cr_sortedI (by rfl) (T.free 58) (by decide +kernel) (pa_cons (pe_callTy (call_list_dK rfl) (by rfl) (T.free 53) (by decide +kernel) (pa_cons (pe_fld (pv 0) rfl) pa_nil)) pa_nil))) (blkOk_by (N := ["self", "marks", "spot"]) (sc := defScope (inClass (top 16) 2)) (by decide +kernel)) (fun _ _ _ _ _ => (pg_name (i := 2) sc_Run_shot.nd rfl (Or.inl rfl))) (fun _ _ _ _ _ => pts_nil) (fun _ _ _ _ _ => (pe_tup (pa_cons (pv 2) (pa_cons (pe_dgetB (pe_fldK (K := K) (pv 0) rfl) (pv 2) (fun _ _ => rfl) (hu_of hr)) pa_nil)))))
      (pss_one (ps_ret (pe_tup (pa_cons (pe_fld (pv 0) rfl) (pa_cons (pe_fld (pv 0) rfl) (pa_cons (pe_callTy call_tuple_of (by rfl) (T.free 52) (by decide +kernel) (pa_cons (pv 1) pa_nil)) pa_nil))))))), ?_⟩
  obtain ⟨as, d, ha, ⟨x, e, dx, t, Tb, S, c, u, m, rfl, R, hT, hm, hz, rfl⟩, k⟩ := h
  rw [vals_v1 ha]
  have srt := runs_srt hm
  have len := runs_len hm
  refine qD_asg (d_is (d_lcL (fun _ => true) mkD (d_sortedCells R srt (R.cells T (Evl.ev_var rfl))) (by omega) (fun x _ _ => noL_mk x) (fun _ => rfl) (fun _ _ _ _ _ _ => et_yes) fun a v H1 ha e1 q _ => ?_) (by rw [filter_yes])) fun v H1 e1 q => ?_
  · cases q
    exact d_tup (ds := [.int a.1, .int a.2]) (as_d (Ev.int (Evl.ev_var rfl)) (as_d (Ev.int (ev_cell (R.ex e1) ((R.ex e1).cells T (Evl.ev_var rfl)) (Evl.ev_var rfl) srt ha)) as_nil))
  · have R1 := R.ex e1
    exact sD_ret (d_tup (ds := [.int u.st, .int u.pl, mksD u.mks]) (as_d (Ev.int (R1.state T (Evl.ev_var rfl))) (as_d (Ev.int (R1.place T (Evl.ev_var rfl))) (as_d (d_tupleOf (dv rfl q)) as_nil)))) fun v H2 e2 q => k v H2 (e1.trans e2) q
end
end WK
end
section
set_option Elab.async false
set_option linter.all false
set_option maxRecDepth 100000
set_option maxHeartbeats 4000000
/-! Walks: runs made, run, told. -/
namespace WK
open PySem PySem.Spec PyProof.Rows L2 HD DT2 TX TP ND EN LC
section
variable {P : Program} {w : World} {K : PySem.W.Frag} {mg : Str → Option Value} {base : Heap}
/-! ### ask_shot -/
def RAsk (K : PySem.W.Frag) : List Ag → PyData → Hp → Prop := fun as d H => ∃ m T S c, as = [.v (.ref m), .d (shD first)] ∧ MachAt K H m T ∧ TblOk T S c ∧ d = .none
theorem sc_ask_shot : FnScope ["machine", "shot", "state", "place", "marks", "last", "spot", "sign"] ["machine", "shot"] (defScope (top 15)) := ⟨rfl, rfl, rfl, by decide +kernel, rfl, by decide +kernel, by decide +kernel⟩
theorem h_ask_shot (T : Top K mg) : Has P w K mg base "ask_shot" ["machine", "shot"] 2 (SpD K (RAsk K)) := by
  have H_is_number : Has P w K mg base "is_number" ["thing", "many"] 1 (SpD K RNum) := h_is_number T
  have H_states_of : Has P w K mg base "states_of" ["machine"] 1 (SpD K (RStates K)) := h_states_of T
  have H_signs_of : Has P w K mg base "signs_of" ["machine"] 1 (SpD K (RSigns K)) := h_signs_of T
  refine mk_has T 4 rfl rfl (fun _ _ _ _ _ _ us hl => match us, hl with | [_, _], _ => rfl) fun fd F => ?_
  refine F.ok sc_ask_shot (fun vs H Q E h => len_of h fun as d H h => by obtain ⟨_, _, _, _, rfl, _⟩ := h; rfl) fun cdv A outer s H vs Q E hr h => ⟨_, PSs.nox (pss_cons (ps_asg (pv 1) (pg_tup rfl (pgs_cons (pg_name (i := 2) sc_ask_shot.nd rfl (Or.inl rfl)) (pgs_cons (pg_name (i := 3) sc_ask_shot.nd rfl (Or.inl rfl)) (pgs_cons (pg_name (i := 4) sc_ask_shot.nd rfl (Or.inl rfl)) pgs_nil)))))
      (pss_cons (ps_if (pt_not (pt_val (pe_callH H_is_number (hr.mono (by decide)) (pa_cons (pv 2) (pa_cons (pe_callH H_states_of (hr.mono (by decide)) (pa_cons (pv 0) pa_nil)) pa_nil))))) (pss_one ps_never) pss_nil)
      (pss_cons (ps_set (i := 5) sc_ask_shot.nd rfl (Or.inl rfl) pe_non)
      (pss_one (ps_for PassesOwn.never rfl (pi_tup (pv 4)) (pg_tup rfl (pgs_cons (pg_name (i := 6) sc_ask_shot.nd rfl (Or.inl rfl)) (pgs_cons (pg_name (i := 7) sc_ask_shot.nd rfl (Or.inl rfl)) pgs_nil))) (pss_cons (ps_if (PW.pt (pw_or (pt_not (pt_val (pe_callH H_is_number (hr.mono (by decide)) (pa_cons (pv 7) (pa_cons (pe_callH H_signs_of (hr.mono (by decide)) (pa_cons (pv 0) pa_nil)) pa_nil))))) (pw_or1 (pt_cmpR op_eq (pv 7) pe_int (nomark _))))) (pss_one ps_never) pss_nil)
      (pss_cons (ps_if (PW.pt (pw_and (pt_cmpR op_notN (pv 5) pe_non (nomark _)) (pw_and1 (pt_cmpR op_le (pv 6) (pv 5) (nomark _))))) (pss_one ps_never) pss_nil)
      (pss_one (ps_set (i := 5) sc_ask_shot.nd rfl (Or.inl rfl) (pv 6)))))))))), ?_⟩
  obtain ⟨as, d, ha, ⟨m, Tb, S, c, rfl, hm, hT, rfl⟩, k⟩ := h
  obtain ⟨x, y, rfl, rfl, h2⟩ := ags2 ha
  refine qD_un (dv rfl h2) rfl fun xs H1 e1 hx => un3 hx fun v1 v2 v3 q1 q2 q3 => ?_
  cases q1
  cases q2
  refine Evl.q_when (b := false) (Evl.et_not (a := true) (Evl.et_B (ev_isnum (m := S) (Evl.ev_var rfl) (EvD.int (d_call (as_v (Evl.ev_var rfl) as_nil) fun H2 e2 => ⟨m, Tb, S, c, rfl, hm.ex (e1.trans e2), hT, rfl⟩)) hT.s1))) (fun z => nomatch z) fun _ H2 e2 => ?_
  refine Evl.q_asg Evl.ev_c fun H3 e3 => ?_
  refine sD_forT (ds := []) (dv rfl (exd (e2.trans e3) q3)) (fun v i σ' H' => Ex H H' ∧ Dp K H' v (.tuple [])) (fun v H4 e4 q => ⟨((e1.trans e2).trans e3).trans e4, q⟩) (fun v i σ' H' _ h => h.2) (fun v i x d σ' H' hi _ _ => by simp at hi) fun v σ' H' h => ?_
  exact k _ _ h.1 .non
/-! ### Run(..) -/
def spRun (K : PySem.W.Frag) : Sp := fun vs H Q _ => ∃ x dx m v T S c, vs = [.ref x, .ref m, v] ∧ H x = some (.ins (CR K) dx []) ∧ MachAt K H m T ∧ TblOk T S c ∧ Dp K H v (shD first) ∧
  ∀ H' d t, (∀ b o, H b = some o → b ≠ x → H' b = some o) → H d = none → RunAt K H' x d dx t T first → Q .non H'
theorem keep_but {H H' : Hp} {x C : Addr} {dx : Addr} {fs : List (Str × V)} (h : H x = some (.ins C dx fs)) (m : ∀ b o, H b = some o → b ≠ x → H' b = some o) : KeepS H H' := fun b u hu r => by
  have hx : b ≠ x := by
    rintro rfl
    rcases r with r | ⟨q, r⟩
    · rw [h] at r
      rcases hu with ⟨xs, rfl⟩ | ⟨xs, rfl⟩ <;> cases r
    · rw [h] at r; cases r
  rcases r with r | ⟨q, r⟩
  · exact .inl (m b _ r hx)
  · exact .inr ⟨q, m b _ r hx⟩
theorem q_fldNew {H : Hp} {σ : L2.St} {D : Ends} {tz : TS} {ta : TE} {x : Addr} {f : Str} {C dx : Addr} {fs : List (Str × V)} (ho : Evl.Ev ta σ H (.ref x)) (hx : H x = some (.ins C dx fs)) (hc : Cls K C) (hn : NoAttr K C f) (hl : fs.length < 1000)
    (k : ∀ p H1, H p = none → Ex H H1 → H1 p = some (.dK []) → tz D σ (upd H1 x (.ins C dx (putF f (.ref p) fs)))) : tSeq (sFld K ta tDNewK f) tz D σ H := fun p hp =>
  (ho.mono (Evl.Ex.new hp)) _ (Evl.Ex.refl _) _ fun H2 e2 => ⟨x, C, dx, fs, rfl, ((Evl.Ex.new hp).trans e2) _ _ hx, hc, hn, hl, k p H2 hp ((Evl.Ex.new hp).trans e2) (e2 _ _ upd_same)⟩
theorem sc_Run_init : FnScope ["self", "machine", "shot", "spot", "sign"] ["self", "machine", "shot"] (defScope (inClass (top 16) 0)) := ⟨rfl, rfl, rfl, by decide +kernel, rfl, by decide +kernel, by decide +kernel⟩
theorem h_Run (T : Top K mg) : HasC P w K mg base (CR K) "Run" ["self", "machine", "shot"] 1 (spRun K) := by
  obtain ⟨fd, F0⟩ := He.SaysD.def_ T.d 47 (d := dm "Run" "__init__" "Run.__init__" 16 0) (by rfl)
  have F : FunD K "__init__" "Run.__init__" (defArgs (inClass (top 16) 0)) (defBody (inClass (top 16) 0)) (defScope (inClass (top 16) 0)) [] [] (He.ma K (CR K) "__init__") fd := F0
  refine ⟨_, fd, T.glo 47, He.mkr_ok (He.SaysD.fact T.d 76 (f := .mkr "Run") (by rfl)), F.bindsN (ps := ["self", "machine", "shot"]) (fun _ _ _ _ _ _ us hl => match us, hl with | [_, _, _], _ => rfl), ?_⟩
  refine F.ok sc_Run_init (fun vs H Q E h => by obtain ⟨_, _, _, _, _, _, _, rfl, _⟩ := h; rfl) fun cdv A outer s H vs Q E hr h => ⟨_, PSs.nox (pss_cons (ps_fld (pv 0) (pe_fld (pv 1) rfl) rfl)
      (pss_cons (ps_fld (pv 0) (pe_ix ix_tup (pv 2) pe_int (fun _ _ => rfl)) rfl)
      (pss_cons (ps_fld (pv 0) (pe_ix ix_tup (pv 2) pe_int (fun _ _ => rfl)) rfl)
      (pss_cons (ps_fld (pv 0) pe_dnewK rfl)
      (pss_one (ps_for PassesOwn.never rfl (pi_tup (pe_ix ix_tup (pv 2) pe_int (fun _ _ => rfl))) (pg_tup rfl (pgs_cons (pg_name (i := 3) sc_Run_init.nd rfl (Or.inl rfl)) (pgs_cons (pg_name (i := 4) sc_Run_init.nd rfl (Or.inl rfl)) pgs_nil))) (pss_one (ps_dput (hu_of hr) (pe_fld (pv 0) rfl) (pv 3) (pv 4) rfl)))))))), ?_⟩
  obtain ⟨x, dx, m, v, Tb, S, c, rfl, hx, hm, hT, hv, k⟩ := h
  obtain ⟨dm, t, hm1, hm2⟩ := hm
  have ne : m ≠ x := fun e => by
    rw [e, hx] at hm1
    injection hm1 with h1
    injection h1 with _ _ h2
    cases h2
  refine q_fldV (v := .ref t) (ev_fldI (Evl.ev_var rfl) hm1 T.clM (T.noat 68) (by rfl)) (Evl.ev_var rfl) hx T.clR (T.noat 69) (by show 0 < 1000; decide) fun H1 e1 => ?_
  have M1 : ∀ b o, H b = some o → b ≠ x → upd H1 x (.ins (CR K) dx [("table", .ref t)]) b = some o := fun b o h hb => by rw [upd_ne hb]; exact e1 b o h
  have k1 := keep_but hx M1
  refine q_fldV (v := .int 0) (fs := [("table", .ref t)]) (EvD.int (d_ixT (dv rfl (Dp.keep k1 _ _ hv)) Evl.ev_c rfl)) (Evl.ev_var rfl) upd_same T.clR (T.noat 70) (by show 1 < 1000; decide) fun H2 e2 => ?_
  have M2 : ∀ b o, H b = some o → b ≠ x → upd H2 x (.ins (CR K) dx [("table", .ref t), ("state", .int 0)]) b = some o := fun b o h hb => by rw [upd_ne hb]; exact e2 b o (M1 b o h hb)
  have k2 := keep_but hx M2
  refine q_fldV (v := .int 0) (fs := [("table", .ref t), ("state", .int 0)]) (EvD.int (d_ixT (dv rfl (Dp.keep k2 _ _ hv)) Evl.ev_c rfl)) (Evl.ev_var rfl) upd_same T.clR (T.noat 71) (by show 2 < 1000; decide) fun H3 e3 => ?_
  have M3 : ∀ b o, H b = some o → b ≠ x → upd H3 x (.ins (CR K) dx [("table", .ref t), ("state", .int 0), ("place", .int 0)]) b = some o := fun b o h hb => by rw [upd_ne hb]; exact e3 b o (M2 b o h hb)
  refine q_fldNew (fs := [("table", .ref t), ("state", .int 0), ("place", .int 0)]) (Evl.ev_var rfl) upd_same T.clR (T.noat 72) (by show 3 < 1000; decide) fun d H4 hd e4 hd4 => ?_
  have M4 : ∀ b o, H b = some o → b ≠ x → upd H4 x (.ins (CR K) dx [("table", .ref t), ("state", .int 0), ("place", .int 0), ("cells", .ref d)]) b = some o := fun b o h hb => by rw [upd_ne hb]; exact e4 b o (M3 b o h hb)
  have k4 := keep_but hx M4
  have ndx : d ≠ x := fun e => by rw [e, upd_same] at hd; cases hd
  have hdH : H d = none := by
    cases q : H d with
    | none => rfl
    | some o =>
      have z : some o = none := (M3 d o q ndx).symm.trans hd
      cases z
  refine sD_forT (ds := []) (d_ixT (d := .tuple []) (dv rfl (Dp.keep k4 _ _ hv)) Evl.ev_c rfl) (fun v i σ' H' => Ex (upd H4 x (.ins (CR K) dx [("table", .ref t), ("state", .int 0), ("place", .int 0), ("cells", .ref d)])) H' ∧ Dp K H' v (.tuple [])) (fun v H5 e5 q => ⟨e5, q⟩) (fun v i σ' H' _ h => h.2) (fun v i x d σ' H' hi _ _ => by simp at hi) fun v5 σ' H' ⟨e5, _⟩ => ?_
  refine k H' d t (fun b o h hb => e5 b o (M4 b o h hb)) hdH ⟨e5 _ _ upd_same, exd e5 (Dp.keep k4 _ _ hm2), [], e5 _ _ (by rw [upd_ne ndx]; exact hd4), .nil⟩
variable {H : Hp} {σ : L2.St} {D : Ends} {tz : TS} {ta te : TE} {x d dx t m : Addr} {Tb : Tbl} {S c n j : Nat} {u : Sh}
theorem s_mkRun {ta : TA} {i : Nat} (h : EvAs K ta σ H [.v (.ref m), .d (shD first)]) (hm : MachAt K H m Tb) (hT : TblOk Tb S c) (k : ∀ x d dx t H', H x = none → H d = none → Ex H H' → RunAt K H' x d dx t Tb first → D.nx (σ.set i (some (.ref x))) H') :
    tAsg (tMake (CR K) (spRun K) [] E0 ta) (gName i) D σ H := h H (Evl.Ex.refl _) _ fun vs H1 e1 q x dx hx hdx ne => by
  obtain ⟨a, v, rfl, rfl, hv⟩ := ags2 q
  have e2 : Ex H1 (upd (upd H1 dx (.own x)) x (.ins (CR K) dx [])) := (Evl.Ex.new hdx).trans (Evl.Ex.new (by rw [upd_ne (Ne.symm ne)]; exact hx))
  have hxH := Evl.fresh_back e1 hx
  refine ⟨x, dx, m, v, Tb, S, c, rfl, upd_same, hm.ex (e1.trans e2), hT, exd e2 hv, fun H' d t mm hd R => ⟨rfl, ?_⟩⟩
  exact k x d dx t H' hxH (Evl.fresh_back (e1.trans e2) hd) (fun b o hb => mm b o ((e1.trans e2) b o hb) (ne_of_none hb hxH)) R
theorem q_mkRun {ta : TA} {i : Nat} (h : EvAs K ta σ H [.v (.ref m), .d (shD first)]) (hm : MachAt K H m Tb) (hT : TblOk Tb S c) (k : ∀ x d dx t H', H x = none → H d = none → Ex H H' → RunAt K H' x d dx t Tb first → tz D (σ.set i (some (.ref x))) H') :
    tSeq (tAsg (tMake (CR K) (spRun K) [] E0 ta) (gName i)) tz D σ H := s_mkRun (D := { D with nx := tz D }) h hm hT k
/-! ### a step, a shot -/
theorem b_step {Q : Bool → Hp → Prop} (h : Evl.Ev te σ H (.ref x)) (R : RunAt K H x d dx t Tb u) (hT : TblOk Tb S c) (hm : runs Tb j = some u) (hz : j ≤ 20000) (k0 : step Tb u = none → ∀ H', Ex H H' → Q false H') (k1 : ∀ s', step Tb u = some s' → ∀ H', Mut H H' x d → RunAt K H' x d dx t Tb s' → Q true H') :
    tB (tMeth (CR K) "step" (spStep K) [] E0 te tNil) σ H Q := h H (Evl.Ex.refl _) _ fun H1 e1 => by
  have R1 := R.ex e1
  exact ⟨x, dx, _, rfl, R1.ins, by rfl, x, d, dx, t, Tb, S, c, u, j, rfl, R1, hT, hm, hz, fun hs H' e => ⟨false, rfl, k0 hs H' (e1.trans e)⟩, fun s' hs H' mm R' => ⟨true, rfl, k1 s' hs H' ((Mut.of_ex e1).trans mm) R'⟩⟩
theorem d_shot (h : Evl.Ev te σ H (.ref x)) (R : RunAt K H x d dx t Tb u) (hT : TblOk Tb S c) (hm : runs Tb j = some u) (hz : j ≤ 20000) : EvD K (tMeth (CR K) "shot" (SpD K (RShot K)) [] E0 te tNil) σ H (shD u) := fun H1 a Q k =>
  h H1 a _ fun H2 e2 => by
    have R2 := R.ex (a.trans e2)
    exact ⟨x, dx, _, rfl, R2.ins, by rfl, [.v (.ref x)], _, .cons rfl .nil, ⟨x, d, dx, t, Tb, S, c, u, j, rfl, R2, hT, hm, hz, rfl⟩, fun v H3 e3 q => k v H3 (e2.trans e3) q⟩
/-! ### ran -/
def spRan (K : PySem.W.Frag) : Sp := fun vs H Q _ => ∃ x d dx t T S c s m n, vs = [.ref x, .int (n : Nat)] ∧ RunAt K H x d dx t T s ∧ TblOk T S c ∧ runs T m = some s ∧ m + n ≤ 20000 ∧
  ∀ H', Mut H H' x d → RunAt K H' x d dx t T (go T n s).1 → Q (.int ((go T n s).2 : Nat)) H'
theorem runs_add {T : Tbl} {m j : Nat} {s u : Sh} (h : runs T m = some s) (q : runF T s j = some u) : runs T (m + j) = some u := by
  show runF T first (m + j) = some u
  rw [runF_add]
  have h' : runF T first m = some s := h
  rw [h']; exact q
theorem sc_ran : FnScope ["run", "steps", "done"] ["run", "steps"] (defScope (top 17)) := ⟨rfl, rfl, rfl, by decide +kernel, rfl, by decide +kernel, by decide +kernel⟩
theorem h_ran (T : Top K mg) : Has P w K mg base "ran" ["run", "steps"] 2 (spRan K) := by
  have H_step : HasM P w K mg base (CR K) "step" ["self"] 1 (spStep K) := h_step T
  refine mk_has T 5 rfl rfl (fun _ _ _ _ _ _ us hl => match us, hl with | [_, _], _ => rfl) fun fd F => ?_
  refine F.ok sc_ran (fun vs H Q E h => by obtain ⟨_, _, _, _, _, _, _, _, _, _, rfl, _⟩ := h; rfl) fun cdv A outer s H vs Q E hr h => ⟨_, PSs.nox (pss_cons (ps_set (i := 2) sc_ran.nd rfl (Or.inl rfl) pe_int)
      (pss_cons (ps_while PassesOwn.never (PW.pt (pw_and (pt_cmpR op_lt (pv 2) (pv 1) (nomark _)) (pw_and1 (pt_val (pe_methH H_step (hr.mono (by decide)) (pv 0)))))) (pss_one (ps_aug (i := 2) sc_ran.nd rfl (Or.inl rfl) pe_int ip_add)))
      (pss_one (ps_ret (pv 2))))), ?_⟩
  obtain ⟨x, d, dx, t, Tb, S, c, u, m, n, rfl, R, hT, hm, hz, k⟩ := h
  refine Evl.q_asg Evl.ev_c fun H1 e1 => ?_
  refine ⟨fun i σ' H' => ∃ j v, i = n - j ∧ σ' = [some (.ref x), some (.int (n : Nat)), some (.int (j : Nat))] ∧ j ≤ n ∧ runF Tb u j = some v ∧ RunAt K H' x d dx t Tb v ∧ Mut H H' x d, ⟨n, 0, u, rfl, rfl, Nat.zero_le _, rfl, R.ex e1, .of_ex e1⟩, ?_⟩
  rintro i σ' H2 ⟨j, v, rfl, rfl, hj, hv, R2, m2⟩
  refine et_andS (Evl.et_test (Evl.ev_op (Evl.ev_var rfl) (Evl.ev_var rfl) Evl.rv_I0)) (fun hb H3 e3 => ?_) (fun hb H3 e3 => ?_)
  · have hlt : j < n := by have := of_decide_eq_true hb; omega
    refine b_step (Evl.ev_var rfl) (R2.ex e3) hT (runs_add hm hv) (by omega) (fun hs H4 e4 => ?_) fun s' hs H4 m4 R4 => ?_
    · rw [if_neg Bool.false_ne_true]
      refine Evl.s_ret (Evl.ev_var rfl) fun H5 e5 => ?_
      have e := go_stop hv hs hj
      have g := k H5 ((((m2.trans (.of_ex e3)).trans (.of_ex e4)).trans (.of_ex e5)))
      rw [e] at g
      exact g (((R2.ex e3).ex e4).ex e5)
    · rw [if_pos rfl]
      refine ⟨fun σ3 H5 => ∃ j' v, j < j' ∧ σ3 = [some (.ref x), some (.int (n : Nat)), some (.int (j' : Nat))] ∧ j' ≤ n ∧ runF Tb u j' = some v ∧ RunAt K H5 x d dx t Tb v ∧ Mut H H5 x d, fun σ3 H5 ⟨j', v, h1, h2, h3, h4, h5, h6⟩ => ⟨n - j', by omega, j', v, rfl, h2, h3, h4, h5, h6⟩, ?_⟩
      refine Evl.s_aug rfl Evl.ev_c fun H5 e5 => ⟨j + 1, s', Nat.lt_succ_self _, rfl, hlt, runF_next hv hs, R4.ex e5, ((m2.trans (.of_ex e3)).trans m4).trans (.of_ex e5)⟩
  · have hlt : j = n := by have := of_decide_eq_false hb; omega
    rw [if_neg Bool.false_ne_true]
    refine Evl.s_ret (Evl.ev_var rfl) fun H5 e5 => ?_
    subst hlt
    have e := go_of_run Tb j u v hv
    have g := k H5 ((m2.trans (.of_ex e3)).trans (.of_ex e5))
    rw [e] at g
    exact g ((R2.ex e3).ex e5)
theorem s_ran {ta : TA} {i : Nat} (h : Evl.EvA ta σ H [.ref x, .int (n : Nat)]) (R : RunAt K H x d dx t Tb u) (hT : TblOk Tb S c) (hm : runs Tb j = some u) (hz : j + n ≤ 20000) (k : ∀ H', Mut H H' x d → RunAt K H' x d dx t Tb (go Tb n u).1 → D.nx (σ.set i (some (.int ((go Tb n u).2 : Nat)))) H') :
    tAsg (tCall (spRan K) [] E0 ta) (gName i) D σ H := h H (Evl.Ex.refl _) _ fun H1 e1 => ⟨x, d, dx, t, Tb, S, c, u, j, n, rfl, R.ex e1, hT, hm, hz, fun H' mm R' => k H' ((Mut.of_ex e1).trans mm) R'⟩
theorem q_ran {ta : TA} {i : Nat} (h : Evl.EvA ta σ H [.ref x, .int (n : Nat)]) (R : RunAt K H x d dx t Tb u) (hT : TblOk Tb S c) (hm : runs Tb j = some u) (hz : j + n ≤ 20000) (k : ∀ H', Mut H H' x d → RunAt K H' x d dx t Tb (go Tb n u).1 → tz D (σ.set i (some (.int ((go Tb n u).2 : Nat)))) H') :
    tSeq (tAsg (tCall (spRan K) [] E0 ta) (gName i)) tz D σ H := s_ran (D := { D with nx := tz D }) h R hT hm hz k
theorem go_runs (T : Tbl) (n : Nat) : runs T (go T n first).2 = some (go T n first).1 := (go_run T n first).1
theorem go_small (T : Tbl) {n : Nat} (h : n ≤ 20000) : (go T n first).2 ≤ 20000 := Nat.le_trans (go_le T n first) h
/-! ### after_from, after -/
def afterD (T : Tbl) (n : Nat) : PyData := .tuple [shD (go T n first).1, .int ((go T n first).2 : Nat)]
def RAfterFrom (K : PySem.W.Frag) : List Ag → PyData → Hp → Prop := fun as d H => ∃ m T S c n, as = [.v (.ref m), .d (shD first), .v (.int (n : Nat))] ∧ MachAt K H m T ∧ TblOk T S c ∧ n ≤ 20000 ∧ d = afterD T n
def RAfter (K : PySem.W.Frag) : List Ag → PyData → Hp → Prop := fun as d H => ∃ m T S c n, as = [.v (.ref m), .v (.int (n : Nat))] ∧ MachAt K H m T ∧ TblOk T S c ∧ n ≤ 20000 ∧ d = afterD T n
theorem sc_after_from : FnScope ["machine", "shot", "steps", "run", "done"] ["machine", "shot", "steps"] (defScope (top 18)) := ⟨rfl, rfl, rfl, by decide +kernel, rfl, by decide +kernel, by decide +kernel⟩
theorem h_after_from (T : Top K mg) : Has P w K mg base "after_from" ["machine", "shot", "steps"] 3 (SpD K (RAfterFrom K)) := by
  have H_ask_shot : Has P w K mg base "ask_shot" ["machine", "shot"] 2 (SpD K (RAsk K)) := h_ask_shot T
  have H_ran : Has P w K mg base "ran" ["run", "steps"] 2 (spRan K) := h_ran T
  have H_Run : HasC P w K mg base (CR K) "Run" ["self", "machine", "shot"] 1 (spRun K) := h_Run T
  have H_shot : HasM P w K mg base (CR K) "shot" ["self"] 1 (SpD K (RShot K)) := h_shot T
  refine mk_has T 6 rfl rfl (fun _ _ _ _ _ _ us hl => match us, hl with | [_, _, _], _ => rfl) fun fd F => ?_
  refine F.ok sc_after_from (fun vs H Q E h => len_of h fun as d H h => by obtain ⟨_, _, _, _, _, rfl, _⟩ := h; rfl) fun cdv A outer s H vs Q E hr h => ⟨_, PSs.nox (pss_cons (ps_expr (pe_callH H_ask_shot (hr.mono (by decide)) (pa_cons (pv 0) (pa_cons (pv 1) pa_nil))))
      (pss_cons (ps_set (i := 3) sc_after_from.nd rfl (Or.inl rfl) (pe_makeH H_Run (hr.mono (by decide)) (pa_cons (pv 0) (pa_cons (pv 1) pa_nil))))
      (pss_cons (ps_set (i := 4) sc_after_from.nd rfl (Or.inl rfl) (pe_callH H_ran (hr.mono (by decide)) (pa_cons (pv 3) (pa_cons (pv 2) pa_nil))))
      (pss_one (ps_ret (pe_tup (pa_cons (pe_methH H_shot (hr.mono (by decide)) (pv 3)) (pa_cons (pv 4) pa_nil)))))))), ?_⟩
  obtain ⟨as, d, ha, ⟨m, Tb, S, c, n, rfl, hm, hT, hn, rfl⟩, k⟩ := h
  obtain ⟨x, y, z, rfl, rfl, h2, rfl⟩ := ags3 ha
  refine Evl.q_drop (EvD.non (d_call (as_v (Evl.ev_var rfl) (as_d (dv rfl h2) as_nil)) fun H1 e1 => ⟨m, Tb, S, c, rfl, hm.ex e1, hT, rfl⟩)) fun H1 e1 => ?_
  refine q_mkRun (as_v (Evl.ev_var rfl) (as_d (dv rfl (exd e1 h2)) as_nil)) (hm.ex e1) hT fun x d dx t H2 hx hd e2 R => ?_
  refine q_ran (Evl.ea_cons (Evl.ev_var rfl) (Evl.ea_cons (Evl.ev_var rfl) Evl.ea_nil)) R hT (j := 0) rfl (by omega) fun H3 m3 R3 => ?_
  have e3 := m3.ex e2 hx hd
  exact sD_ret (d_tup (ds := [shD (go Tb n first).1, .int ((go Tb n first).2 : Nat)]) (as_d (d_shot (Evl.ev_var rfl) R3 hT (go_runs Tb n) (go_small Tb hn)) (as_d (Ev.int (Evl.ev_var rfl)) as_nil))) fun v H4 e4 q => k v H4 ((e1.trans e3).trans e4) q
theorem sc_after : FnScope ["machine", "steps"] ["machine", "steps"] (defScope (top 19)) := ⟨rfl, rfl, rfl, by decide +kernel, rfl, by decide +kernel, by decide +kernel⟩
theorem h_after (T : Top K mg) : Has P w K mg base "after" ["machine", "steps"] 4 (SpD K (RAfter K)) := by
  have H_after_from : Has P w K mg base "after_from" ["machine", "shot", "steps"] 3 (SpD K (RAfterFrom K)) := h_after_from T
  refine mk_has T 7 rfl rfl (fun _ _ _ _ _ _ us hl => match us, hl with | [_, _], _ => rfl) fun fd F => ?_
  refine F.ok sc_after (fun vs H Q E h => len_of h fun as d H h => by obtain ⟨_, _, _, _, _, rfl, _⟩ := h; rfl) fun cdv A outer s H vs Q E hr h => ⟨_, PSs.nox (pss_one (ps_ret (pe_callH H_after_from (hr.mono (by decide)) (pa_cons (pv 0) (pa_cons (pe_glob (v := .ref (He.ga K "FIRST")) rfl (T.glo 48) rfl) (pa_cons (pv 1) pa_nil)))))), ?_⟩
  obtain ⟨as, d, ha, ⟨m, Tb, S, c, n, rfl, hm, hT, hn, rfl⟩, k⟩ := h
  rw [vals_v2 ha]
  exact sD_ret (d_call (as_v (Evl.ev_var rfl) (as_d (.of Evl.ev_c (T.first H)) (as_v (Evl.ev_var rfl) as_nil))) fun H1 e1 => ⟨m, Tb, S, c, n, rfl, hm.ex e1, hT, hn, rfl⟩) fun v H4 e4 q => k v H4 e4 q
/-! ### stops_at -/
def stopsD (T : Tbl) (n : Nat) : PyData := if step T (go T n first).1 = none then .int ((go T n first).2 : Nat) else .none
def RStops (K : PySem.W.Frag) : List Ag → PyData → Hp → Prop := fun as d H => ∃ m T S c n, as = [.v (.ref m), .v (.int (n : Nat))] ∧ MachAt K H m T ∧ TblOk T S c ∧ n ≤ 20000 ∧ d = stopsD T n
theorem step_none {T : Tbl} {s : Sh} : isNone (entD (TP.entry T s.st (look s.mks s.pl))) = decide (step T s = none) := by
  unfold TP.step
  cases TP.entry T s.st (look s.mks s.pl) <;> rfl
theorem sc_stops_at : FnScope ["machine", "most", "run", "done"] ["machine", "most"] (defScope (top 20)) := ⟨rfl, rfl, rfl, by decide +kernel, rfl, by decide +kernel, by decide +kernel⟩
theorem h_stops_at (T : Top K mg) : Has P w K mg base "stops_at" ["machine", "most"] 3 (SpD K (RStops K)) := by
  have H_ran : Has P w K mg base "ran" ["run", "steps"] 2 (spRan K) := h_ran T
  have H_Run : HasC P w K mg base (CR K) "Run" ["self", "machine", "shot"] 1 (spRun K) := h_Run T
  refine mk_has T 8 rfl rfl (fun _ _ _ _ _ _ us hl => match us, hl with | [_, _], _ => rfl) fun fd F => ?_
  refine F.ok sc_stops_at (fun vs H Q E h => len_of h fun as d H h => by obtain ⟨_, _, _, _, _, rfl, _⟩ := h; rfl) fun cdv A outer s H vs Q E hr h => ⟨_, PSs.nox (pss_cons (ps_set (i := 2) sc_stops_at.nd rfl (Or.inl rfl) (pe_makeH H_Run (hr.mono (by decide)) (pa_cons (pv 0) (pa_cons (pe_glob (v := .ref (He.ga K "FIRST")) rfl (T.glo 48) rfl) pa_nil))))
      (pss_cons (ps_set (i := 3) sc_stops_at.nd rfl (Or.inl rfl) (pe_callH H_ran (hr.mono (by decide)) (pa_cons (pv 2) (pa_cons (pv 1) pa_nil))))
      (pss_cons (ps_if (PW.pt (pw_and (pt_cmpR op_ge (pv 1) pe_int (nomark _)) (pw_and1 (pt_cmpR op_isN (pe_ix ix_tup (pe_ix ix_tup (pe_fld (pv 0) rfl) (pe_fld (pv 2) rfl) (fun _ _ => rfl)) (pe_dget2 (hu_of hr) (pe_fld (pv 2) rfl) (pe_fld (pv 2) rfl) pe_int ⟨rfl, rfl, rfl, rfl⟩) (fun _ _ => rfl)) pe_non (nomark _))))) (pss_one (ps_ret (pv 3))) pss_nil)
      (pss_one (ps_ret pe_non))))), ?_⟩
  obtain ⟨as, d, ha, ⟨m, Tb, S, c, n, rfl, hm, hT, hn, rfl⟩, k⟩ := h
  rw [vals_v2 ha]
  refine q_mkRun (as_v (Evl.ev_var rfl) (as_d (.of Evl.ev_c (T.first H)) as_nil)) hm hT fun x d dx t H2 hx hd e2 R => ?_
  refine q_ran (Evl.ea_cons (Evl.ev_var rfl) (Evl.ea_cons (Evl.ev_var rfl) Evl.ea_nil)) R hT (j := 0) rfl (by omega) fun H3 m3 R3 => ?_
  have e3 := m3.ex e2 hx hd
  refine Evl.q_when (b := decide (step Tb (go Tb n first).1 = none)) (Evl.et_is (Evl.et_and (Evl.et_test (Evl.ev_op (Evl.ev_var rfl) Evl.ev_c Evl.rv_I0)) fun _ => Evl.et_test (d_isN (R3.entry T hT (runs_ok hT (go_runs Tb n)) (d_table T (Evl.ev_var rfl) (hm.ex e3)) (Evl.ev_var rfl) Evl.ev_c))) (by rw [step_none, decide_eq_true (by omega)]; rfl)) (fun hb H4 e4 => ?_) (fun hb H4 e4 => ?_)
  · have hb := of_decide_eq_true hb
    exact sD_ret (d_is (Ev.int (Evl.ev_var rfl)) (by unfold stopsD; rw [if_pos hb])) fun v H5 e5 q => k v H5 ((e3.trans e4).trans e5) q
  · have hb := of_decide_eq_false hb
    exact sD_ret (d_is (Ev.non Evl.ev_c) (by unfold stopsD; rw [if_neg hb])) fun v H5 e5 q => k v H5 ((e3.trans e4).trans e5) q
/-! ### trail -/
theorem q_asgNL {ds : List PyData} {i : Nat} {ta : TA} (h : EvAs K ta σ H (ds.map .d)) (hl : ds.length ≤ 100000) (k : ∀ l vs H1, H l = none → Ex H H1 → H1 l = some (.lst vs) → DpAll K H1 vs ds → tz D (σ.set i (some (.ref l))) H1) : tSeq (tAsg (tLst ta) (gName i)) tz D σ H :=
  h H (Evl.Ex.refl _) _ fun vs H1 e1 q => by
    have q' := args_data q
    exact ⟨Evl.sz_of (by rw [q'.length]; exact hl), fun p hp => k p vs _ (Evl.fresh_back e1 hp) (e1.trans (Evl.Ex.new hp)) upd_same (exa (Evl.Ex.new hp) q')⟩
def trailD (T : Tbl) (n : Nat) : PyData := .list ((tr T n first).map shD)
def RTrail (K : PySem.W.Frag) : List Ag → PyData → Hp → Prop := fun as d H => ∃ m T S c n, as = [.v (.ref m), .v (.int (n : Nat))] ∧ MachAt K H m T ∧ TblOk T S c ∧ n ≤ 20000 ∧ d = trailD T n
theorem noLs_sh (l : List Sh) : noLs (l.map shD) = true := noLs_map noL_sh l
theorem dp_lst_ref {v : V} {ds : List PyData} (h : Dp K H v (.list ds)) : ∃ p, v = .ref p := by
  obtain ⟨p, _, rfl, _⟩ := dp_lst h
  exact ⟨p, rfl⟩
theorem sc_trail : FnScope ["machine", "steps", "run", "shots", "done"] ["machine", "steps"] (defScope (top 21)) := ⟨rfl, rfl, rfl, by decide +kernel, rfl, by decide +kernel, by decide +kernel⟩
theorem h_trail (T : Top K mg) : Has P w K mg base "trail" ["machine", "steps"] 3 (SpD K (RTrail K)) := by
  have H_step : HasM P w K mg base (CR K) "step" ["self"] 1 (spStep K) := h_step T
  have H_Run : HasC P w K mg base (CR K) "Run" ["self", "machine", "shot"] 1 (spRun K) := h_Run T
  have H_shot : HasM P w K mg base (CR K) "shot" ["self"] 1 (SpD K (RShot K)) := h_shot T
  refine mk_has T 9 rfl rfl (fun _ _ _ _ _ _ us hl => match us, hl with | [_, _], _ => rfl) fun fd F => ?_
  refine F.ok sc_trail (fun vs H Q E h => len_of h fun as d H h => by obtain ⟨_, _, _, _, _, rfl, _⟩ := h; rfl) fun cdv A outer s H vs Q E hr h => ⟨_, PSs.nox (pss_cons (ps_set (i := 2) sc_trail.nd rfl (Or.inl rfl) (pe_makeH H_Run (hr.mono (by decide)) (pa_cons (pv 0) (pa_cons (pe_glob (v := .ref (He.ga K "FIRST")) rfl (T.glo 48) rfl) pa_nil))))
      (pss_cons (ps_set (i := 3) sc_trail.nd rfl (Or.inl rfl) (pe_lst (pa_cons (pe_methH H_shot (hr.mono (by decide)) (pv 2)) pa_nil)))
      (pss_cons (ps_set (i := 4) sc_trail.nd rfl (Or.inl rfl) pe_int)
      (pss_cons (ps_while PassesOwn.never (PW.pt (pw_and (pt_cmpR op_lt (pv 4) (pv 1) (nomark _)) (pw_and1 (pt_val (pe_methH H_step (hr.mono (by decide)) (pv 2)))))) (pss_cons (ps_expr (pe_bm PySem.F.plainAttrs_list PySem.F.slot_list_append PySem.F.type_list_append mt_append (pv 3) (pa_cons (pe_methH H_shot (hr.mono (by decide)) (pv 2)) pa_nil)))
      (pss_one (ps_aug (i := 4) sc_trail.nd rfl (Or.inl rfl) pe_int ip_add))))
      (pss_one (ps_ret (pv 3))))))), ?_⟩
  obtain ⟨as, d, ha, ⟨m, Tb, S, c, n, rfl, hm, hT, hn, rfl⟩, k⟩ := h
  rw [vals_v2 ha]
  refine q_mkRun (as_v (Evl.ev_var rfl) (as_d (.of Evl.ev_c (T.first H)) as_nil)) hm hT fun x d dx t H2 hx hd e2 R => ?_
  refine q_asgNL (ds := [shD first]) (as_d (d_shot (Evl.ev_var rfl) R hT (j := 0) rfl (by omega)) as_nil) (by simp) fun l vs H4 hl e4 h4 q3 => ?_
  have hlH : H l = none := Evl.fresh_back e2 hl
  have nxl : l ≠ x := fun e => by rw [e, R.ins] at hl; cases hl
  have ndl : l ≠ d := fun e => by
    obtain ⟨kvs, hk, _⟩ := R.cel
    rw [e, hk] at hl; cases hl
  refine Evl.q_asg Evl.ev_c fun H5 e5 => ?_
  refine ⟨fun i σ' H' => ∃ j v ws, i = n - j ∧ σ' = [some (.ref m), some (.int (n : Nat)), some (.ref x), some (.ref l), some (.int (j : Nat))] ∧ j ≤ n ∧ runs Tb j = some v ∧ RunAt K H' x d dx t Tb v ∧ Ex H H' ∧ H' l = some (.lst ws) ∧ DpAll K H' ws ((tr Tb j first).map shD),
    ⟨n, 0, first, vs, rfl, rfl, Nat.zero_le _, rfl, (R.ex e4).ex e5, (e2.trans e4).trans e5, e5 _ _ h4, exa e5 q3⟩, ?_⟩
  rintro i σ' H6 ⟨j, v, ws, rfl, rfl, hj, hv, R6, e6, hw, hws⟩
  have hlen : ws.length = j + 1 := by rw [hws.length, List.length_map, tr_len, go_of_run Tb j first v hv]
  refine et_andS (Evl.et_test (Evl.ev_op (Evl.ev_var rfl) (Evl.ev_var rfl) Evl.rv_I0)) (fun hb H7 e7 => ?_) (fun hb H7 e7 => ?_)
  · have hlt : j < n := by have := of_decide_eq_true hb; omega
    refine b_step (Evl.ev_var rfl) (R6.ex e7) hT hv (by omega) (fun hs H8 e8 => ?_) fun s' hs H8 m8 R8 => ?_
    · rw [if_neg Bool.false_ne_true]
      refine sD_ret (dv rfl (.lst (.of (e8 _ _ (e7 _ _ hw))) (exa (e7.trans e8) hws))) fun v9 H9 e9 q9 => k v9 H9 ((((e6.trans e7).trans e8).trans e9)) ?_
      have e := tr_stop (s := first) hv hs (n - j)
      unfold trailD
      rw [show n = j + (n - j) by omega, e]
      exact q9
    · rw [if_pos rfl]
      refine ⟨fun σ3 H9 => ∃ j' v ws, j < j' ∧ σ3 = [some (.ref m), some (.int (n : Nat)), some (.ref x), some (.ref l), some (.int (j' : Nat))] ∧ j' ≤ n ∧ runs Tb j' = some v ∧ RunAt K H9 x d dx t Tb v ∧ Ex H H9 ∧ H9 l = some (.lst ws) ∧ DpAll K H9 ws ((tr Tb j' first).map shD), fun σ3 H9 ⟨j', v, ws, h1, h2, h3⟩ => ⟨n - j', by omega, j', v, ws, rfl, h2, h3⟩, ?_⟩
      have w8 : H8 l = some (.lst ws) := m8 _ _ (e7 _ _ hw) nxl ndl
      have d8 : DpAll K H8 ws ((tr Tb j first).map shD) := DpAll.keep ((R6.ex e7).keep m8) _ _ (exa e7 hws)
      refine qD_app w8 (Evl.ev_var rfl) (d_shot (Evl.ev_var rfl) R8 hT (runF_next hv hs) (by omega)) (by omega) fun v9 H9 e9 q9 w9 => ?_
      refine Evl.s_aug rfl Evl.ev_c fun H10 e10 => ⟨j + 1, s', ws ++ [v9], Nat.lt_succ_self _, rfl, hlt, runF_next hv hs, ?_, ?_, e10 _ _ upd_same, ?_⟩
      · obtain ⟨kvs, hk, cs⟩ := R8.cel
        refine RunAt.ex ⟨by rw [upd_ne nxl.symm]; exact e9 _ _ R8.ins, ?_, kvs, by rw [upd_ne ndl.symm]; exact e9 _ _ hk, cs⟩ e10
        exact dpT (KeepT.lst w9) _ _ (by rw [tblD, noL]; exact noLs_map noL_row Tb) (exd e9 R8.tab)
      · have : Ex H H9 := (m8.ex (e6.trans e7) hx hd).trans e9
        exact (Evl.Ex.mut this hlH).trans e10
      · rw [tr_next (s := first) hv hs, List.map_append]
        refine exa e10 (dpTs (KeepT.lst w9) _ _ ?_ ((exa e9 d8).snoc q9))
        have := noLs_sh (tr Tb j first ++ [s'])
        rw [List.map_append] at this
        exact this
  · have hlt : j = n := by have := of_decide_eq_false hb; omega
    rw [if_neg Bool.false_ne_true]
    subst hlt
    exact sD_ret (dv rfl (.lst (.of (e7 _ _ hw)) (exa e7 hws))) fun v9 H9 e9 q9 => k v9 H9 ((e6.trans e7).trans e9) q9
end
end WK
end
section
set_option Elab.async false
set_option linter.all false
set_option maxRecDepth 100000
set_option maxHeartbeats 4000000
/-! Walks: coming round. -/
namespace WK
open PySem PySem.Spec PyProof.Rows L2 HD DT2 TX TP ND EN LC
section
variable {P : Program} {w : World} {K : PySem.W.Frag} {mg : Str → Option Value} {base : Heap}
/-- a promise of what is handed back, not just which -/
def SpP (K : PySem.W.Frag) (Pre : List Ag → Hp → Prop) (Post : List Ag → PyData → Prop) : Sp := fun vs H Q _ => ∃ as, AgsAre K H vs as ∧ Pre as H ∧ ∀ d v H', Post as d → Ex H H' → Dp K H' v d → Q v H'
section
variable {H : Hp} {σ : L2.St} {D : Ends} {tu tz : TS} {ta te tb : TE} {tr : TA} {x d dx t m : Addr} {Tb : Tbl} {S c n j : Nat} {u : Sh}
theorem s_asgP {i : Nat} {Pre : List Ag → Hp → Prop} {Post : List Ag → PyData → Prop} {E : XK} {as : List Ag} (h : EvAs K tr σ H as) (hp : ∀ H1, Ex H H1 → Pre as H1) (k : ∀ d v H1, Post as d → Ex H H1 → Dp K H1 v d → D.nx (σ.set i (some v)) H1) :
    tAsg (tCall (SpP K Pre Post) [] E tr) (gName i) D σ H := h H (Evl.Ex.refl _) _ fun vs H1 e1 q => ⟨as, by rw [List.append_nil]; exact q, hp H1 e1, fun d v H2 hd e2 hv => k d v H2 hd (e1.trans e2) hv⟩
theorem q_asgP {i : Nat} {Pre : List Ag → Hp → Prop} {Post : List Ag → PyData → Prop} {E : XK} {as : List Ag} (h : EvAs K tr σ H as) (hp : ∀ H1, Ex H H1 → Pre as H1) (k : ∀ d v H1, Post as d → Ex H H1 → Dp K H1 v d → tz D (σ.set i (some v)) H1) :
    tSeq (tAsg (tCall (SpP K Pre Post) [] E tr) (gName i)) tz D σ H := s_asgP (D := { D with nx := tz D }) h hp k
theorem pre_len {Pre : List Ag → Hp → Prop} {Post : List Ag → PyData → Prop} {vs : List V} {Q : VK} {E : XK} {n : Nat} (h : SpP K Pre Post vs H Q E) (hR : ∀ as H, Pre as H → as.length = n) : vs.length = n := by
  obtain ⟨as, h1, h2, _⟩ := h
  have e := Paired.length h1
  rw [hR _ _ h2] at e
  exact e
theorem e_ran {Q : VK} {E : XK} (h : Evl.EvA tr σ H [.ref x, .int (n : Nat)]) (R : RunAt K H x d dx t Tb u) (hT : TblOk Tb S c) (hm : runs Tb j = some u) (hz : j + n ≤ 20000) (k : ∀ H', Mut H H' x d → RunAt K H' x d dx t Tb (go Tb n u).1 → Q (.int ((go Tb n u).2 : Nat)) H') :
    tCall (spRan K) [] E tr σ H Q := h H (Evl.Ex.refl _) _ fun H1 e1 => ⟨x, d, dx, t, Tb, S, c, u, j, n, rfl, R.ex e1, hT, hm, hz, fun H' mm R' => k H' ((Mut.of_ex e1).trans mm) R'⟩
theorem qD_forT {g : TG} {tl : TE} {ds : List PyData} (h : EvD K tl σ H (.tuple ds)) (Pv : V → Nat → L2.St → Hp → Prop) (h0 : ∀ v H1, Ex H H1 → Dp K H1 v (.tuple ds) → Pv v 0 σ H1) (hl : ∀ v i σ' H', i ≤ ds.length → Pv v i σ' H' → Dp K H' v (.tuple ds))
    (hs : ∀ v i x d σ' H', ds[i]? = some d → Dp K H' x d → Pv v i σ' H' → g x σ' H' fun σ2 H2 => tu { D with nx := Pv v (i + 1), ct := Pv v (i + 1), bk := tz D } σ2 H2) (hd : ∀ v σ' H', Pv v ds.length σ' H' → tz D σ' H') : tSeq (tFor (iTup K tl) g tu) tz D σ H :=
  sD_forT (D := { D with nx := tz D }) h Pv h0 hl hs hd
theorem qD_forL {g : TG} {tl : TE} {ds : List PyData} (h : EvD K tl σ H (.list ds)) (Pv : V → Nat → L2.St → Hp → Prop) (h0 : ∀ v H1, Ex H H1 → Dp K H1 v (.list ds) → Pv v 0 σ H1) (hl : ∀ v i σ' H', i ≤ ds.length → Pv v i σ' H' → Dp K H' v (.list ds))
    (hs : ∀ v i x d σ' H', ds[i]? = some d → Dp K H' x d → Pv v i σ' H' → g x σ' H' fun σ2 H2 => tu { D with nx := Pv v (i + 1), ct := Pv v (i + 1), bk := tz D } σ2 H2) (hd : ∀ v σ' H', Pv v ds.length σ' H' → tz D σ' H') : tSeq (tFor (iList K tl) g tu) tz D σ H :=
  sD_forL (D := { D with nx := tz D }) h Pv h0 hl hs hd
theorem qD_forE {g : TG} {tl : TE} {ds : List PyData} (h : EvD K tl σ H (.list ds)) (Pv : V → Nat → L2.St → Hp → Prop) (h0 : ∀ v H1, Ex H H1 → Dp K H1 v (.list ds) → Pv v 0 σ H1) (hl : ∀ v i σ' H', i ≤ ds.length → Pv v i σ' H' → Dp K H' v (.list ds))
    (hs : ∀ v i x d σ' H' H2, ds[i]? = some d → Ex H' H2 → Dp K H2 x (.tuple [.int (i : Nat), d]) → Pv v i σ' H' → g x σ' H2 fun σ3 H3 => tu { D with nx := Pv v (i + 1), ct := Pv v (i + 1), bk := tz D } σ3 H3) (hd : ∀ v σ' H', Pv v ds.length σ' H' → tz D σ' H') : tSeq (tFor (iEnum K (tCons tl tNil)) g tu) tz D σ H :=
  sD_forE (D := { D with nx := tz D }) h Pv h0 hl hs hd
/-- a slice of a tuple -/
def cutD (ds : List PyData) (lo hi : Option Int) : List PyData := (ds.drop (HT.sIx ds.length 0 lo)).take (HT.sIx ds.length ds.length hi - HT.sIx ds.length 0 lo)
theorem dpa_drop {H : Hp} : ∀ {n : Nat} {vs : List V} {ds : List PyData}, DpAll K H vs ds → DpAll K H (vs.drop n) (ds.drop n)
  | 0, _, _, h => h
  | n + 1, [], _, h => by cases h; exact .nil
  | n + 1, _ :: _, _, h => by
    cases h with
    | cons h1 h2 => rw [List.drop_succ_cons, List.drop_succ_cons]; exact dpa_drop h2
theorem dpa_take {H : Hp} : ∀ {n : Nat} {vs : List V} {ds : List PyData}, DpAll K H vs ds → DpAll K H (vs.take n) (ds.take n)
  | 0, _, _, h => by rw [List.take_zero, List.take_zero]; exact .nil
  | n + 1, [], _, h => by cases h; exact .nil
  | n + 1, _ :: _, _, h => by
    cases h with
    | cons h1 h2 => rw [List.take_succ_cons, List.take_succ_cons]; exact .cons h1 (dpa_take h2)
theorem d_sl {ds : List PyData} {tl th : TO} {lo hi : Option Int} (h : EvD K te σ H (.tuple ds)) (h1 : Evl.EvO tl σ H lo) (h2 : Evl.EvO th σ H hi) : EvD K (tSl (rSlA K) te tl th) σ H (.tuple (cutD ds lo hi)) := fun H0 a Q k =>
  h H0 a _ fun v H3 e3 q => h1 H3 (a.trans e3) _ fun H4 e4 => h2 H4 ((a.trans e3).trans e4) _ fun H5 e5 => by
    obtain ⟨p, xs, rfl, g1, g2⟩ := dp_tup (exd (e4.trans e5) q)
    have hl := g2.length
    have hc : DpAll K H5 (cutV xs lo hi) (cutD ds lo hi) := by
      unfold cutV cutD
      rw [hl]
      exact dpa_take (dpa_drop g2)
    refine ⟨p, xs, rfl, g1, fun hw => ?_, fun hw p' hp => ?_⟩
    · refine k _ _ ((e3.trans e4).trans e5) ?_
      have e : cutD ds lo hi = ds := by
        unfold cutD
        rw [hl] at hw
        rw [hw.1, hw.2]
        simp
      rw [e]
      exact exd (e4.trans e5) q
    · exact k _ _ (((e3.trans e4).trans e5).trans (Evl.Ex.new hp)) (.tup (.of upd_same) (exa (Evl.Ex.new hp) hc))
end
/-! ### is_round -/
def roundD (k : Str) (i j : Int) : PyData := .tuple [.str k, .int i, .int j]
def RRound : List Ag → PyData → Hp → Prop := fun as d _ => ∃ k i j, as = [.d (roundD k i j), .v (.str k)] ∧ d = .bool (decide (0 ≤ i) && decide (i < j))
theorem sc_is_round : FnScope ["paper", "kind", "number"] ["paper", "kind"] (defScope (top 23)) := ⟨rfl, rfl, rfl, by decide +kernel, rfl, by decide +kernel, by decide +kernel⟩
theorem h_is_round (T : Top K mg) : Has P w K mg base "is_round" ["paper", "kind"] 1 (SpD K RRound) := by
  refine mk_has T 10 rfl rfl (fun _ _ _ _ _ _ us hl => match us, hl with | [_, _], _ => rfl) fun fd F => ?_
  refine F.ok sc_is_round (fun vs H Q E h => len_of h fun as d H h => by obtain ⟨_, _, _, rfl, _⟩ := h; rfl) fun cdv A outer s H vs Q E hr h => ⟨_, PSs.nox (pss_cons (ps_if (PW.pt (pw_or (pt_not (pt_val (pe_callB call_isi (by rfl) (T.free 49) (by decide +kernel) (pa_cons (pv 0) (pa_cons (pe_bltn (v := .ty "tuple") (by rfl) (T.free 52) (by decide +kernel) rfl) pa_nil))))) (pw_or (pt_cmpR op_ne (pe_callB call_len_seq (by rfl) (T.free 56) (by decide +kernel) (pa_cons (pv 0) pa_nil)) pe_int (nomark _)) (pw_or1 (pt_cmpR op_ne (pe_ix ix_tup (pv 0) pe_int (fun _ _ => rfl)) (pv 1) (nomark _)))))) (pss_one (ps_ret pe_bl)) pss_nil)
      (pss_cons (ps_for PassesOwn.never rfl (pi_tup (pe_slice sl_tupA (pv 0) (po_some pe_int) po_none)) (pg_name (i := 2) sc_is_round.nd rfl (Or.inl rfl)) (pss_one (ps_if (PW.pt (pw_or (pt_not (pt_val (pe_callB call_isi (by rfl) (T.free 49) (by decide +kernel) (pa_cons (pv 2) (pa_cons (pe_bltn (v := .ty "int") (by rfl) (T.free 50) (by decide +kernel) rfl) pa_nil))))) (pw_or1 (pt_val (pe_callB call_isi (by rfl) (T.free 49) (by decide +kernel) (pa_cons (pv 2) (pa_cons (pe_bltn (v := .ty "bool") (by rfl) (T.free 51) (by decide +kernel) rfl) pa_nil))))))) (pss_one (ps_ret pe_bl)) pss_nil)))
      (pss_one (ps_ret (pe_chain op_le op_lt pe_int (pe_ix ix_tup (pv 0) pe_int (fun _ _ => rfl)) (pe_ix ix_tup (pv 0) pe_int (fun _ _ => rfl))))))), ?_⟩
  obtain ⟨as, d, ha, ⟨kd, i, j, rfl, rfl⟩, k⟩ := h
  obtain ⟨x, y, rfl, h1, rfl⟩ := ags2 ha
  refine Evl.q_when (b := false) (Evl.et_is (Evl.et_or (a := false) (b := false) (Evl.et_not (a := true) (Evl.et_B (d_isi (dv rfl h1) kit_tuple_tuple))) fun _ => Evl.et_or (a := false) (b := false) (Evl.et_is (Evl.et_test (Evl.ev_op (lenT (n := 3) (dv rfl h1) rfl) Evl.ev_c (Evl.rv_ne rfl))) rfl) fun _ => Evl.et_is (Evl.et_test (Evl.ev_op (EvD.str (d_ixT (d := .str kd) (dv rfl h1) Evl.ev_c rfl)) (Evl.ev_var rfl) (Evl.rv_ne rfl))) (by rw [decide_eq_true rfl]; rfl)) rfl) (fun z => nomatch z) fun _ H1 e1 => ?_
  refine qD_forT (ds := [.int i, .int j]) (d_is (d_sl (ds := [.str kd, .int i, .int j]) (dv rfl (exd e1 h1)) (Evl.eo_some (i := 1) Evl.ev_c) Evl.eo_none) rfl) (fun v a σ' H' => ∃ u, σ' = [some x, some (.str kd), u] ∧ Ex H H' ∧ Dp K H' v (.tuple [.int i, .int j])) (fun v H2 e2 q => ⟨none, rfl, e1.trans e2, q⟩) (fun v a σ' H' _ h => by obtain ⟨_, _, _, h⟩ := h; exact h) ?_ ?_
  · rintro v a y dd σ' H' hi hy ⟨u, rfl, e, q⟩
    obtain ⟨z, rfl⟩ : ∃ z, dd = .int z := by
      match a, hi with
      | 0, hi => exact ⟨i, (Option.some.inj hi).symm⟩
      | 1, hi => exact ⟨j, (Option.some.inj hi).symm⟩
    cases hy
    exact Evl.s_when (b := false) (Evl.et_or (a := false) (b := false) (Evl.et_not (a := true) (Evl.et_B (d_isi (dv rfl (.int z)) kit_int_int))) fun _ => Evl.et_B (d_isi (dv rfl (.int z)) kit_int_bool)) (fun z => nomatch z) fun _ H2 e2 => ⟨some (.int z), rfl, e.trans e2, exd e2 q⟩
  · rintro v σ' H' ⟨u, rfl, e, q⟩
    refine sD_ret (Ev.bl (ev_num (EvD.int (d_ixT (d := .int i) (dv rfl (exd e h1)) Evl.ev_c rfl)) (EvD.int (d_ixT (d := .int j) (dv rfl (exd e h1)) Evl.ev_c rfl)))) fun v H2 e2 q => k v H2 (e.trans e2) q
/-! ### takes_same -/
def RTSame (K : PySem.W.Frag) : List Ag → PyData → Hp → Prop := fun as d H => ∃ m T S c s, ∃ f l : Nat, as = [.v (.ref m), .d (roundD "same" f l)] ∧ MachAt K H m T ∧ TblOk T S c ∧ f < l ∧ l ≤ 20000 ∧ runs T f = some s ∧ runs T l = some s ∧ d = .bool true
theorem ev_round {H : Hp} {σ : L2.St} {te : TE} {E : XK} {k : Str} {i j : Nat} (h : EvD K te σ H (roundD k i j)) (hlt : i < j) : Evl.Ev (tCall (SpD K RRound) [] E (tCons te (tCons (tC (.str k)) tNil))) σ H (.bl true) :=
  EvD.bl (d_call (as_d h (as_v Evl.ev_c as_nil)) fun H1 e1 => ⟨k, i, j, rfl, by rw [decide_eq_true (show (0 : Int) ≤ i by omega), decide_eq_true (show (i : Int) < j by omega)]; rfl⟩)
theorem sc_takes_same : FnScope ["machine", "paper", "kind", "first", "later", "run", "shot"] ["machine", "paper"] (defScope (top 24)) := ⟨rfl, rfl, rfl, by decide +kernel, rfl, by decide +kernel, by decide +kernel⟩
theorem h_takes_same (T : Top K mg) : Has P w K mg base "takes_same" ["machine", "paper"] 3 (SpD K (RTSame K)) := by
  have H_is_round : Has P w K mg base "is_round" ["paper", "kind"] 1 (SpD K RRound) := h_is_round T
  have H_ran : Has P w K mg base "ran" ["run", "steps"] 2 (spRan K) := h_ran T
  have H_Run : HasC P w K mg base (CR K) "Run" ["self", "machine", "shot"] 1 (spRun K) := h_Run T
  have H_shot : HasM P w K mg base (CR K) "shot" ["self"] 1 (SpD K (RShot K)) := h_shot T
  refine mk_has T 11 rfl rfl (fun _ _ _ _ _ _ us hl => match us, hl with | [_, _], _ => rfl) fun fd F => ?_
  refine F.ok sc_takes_same (fun vs H Q E h => len_of h fun as d H h => by obtain ⟨_, _, _, _, _, _, _, rfl, _⟩ := h; rfl) fun cdv A outer s H vs Q E hr h => ⟨_, PSs.nox (pss_cons (ps_if (pt_not (pt_val (pe_callH H_is_round (hr.mono (by decide)) (pa_cons (pv 1) (pa_cons pe_str pa_nil))))) (pss_one (ps_ret pe_bl)) pss_nil)
      (pss_cons (ps_asg (pv 1) (pg_tup rfl (pgs_cons (pg_name (i := 2) sc_takes_same.nd rfl (Or.inl rfl)) (pgs_cons (pg_name (i := 3) sc_takes_same.nd rfl (Or.inl rfl)) (pgs_cons (pg_name (i := 4) sc_takes_same.nd rfl (Or.inl rfl)) pgs_nil)))))
      (pss_cons (ps_set (i := 5) sc_takes_same.nd rfl (Or.inl rfl) (pe_makeH H_Run (hr.mono (by decide)) (pa_cons (pv 0) (pa_cons (pe_glob (v := .ref (He.ga K "FIRST")) rfl (T.glo 48) rfl) pa_nil))))
      (pss_cons (ps_if (pt_cmpR op_lt (pe_callH H_ran (hr.mono (by decide)) (pa_cons (pv 5) (pa_cons (pv 3) pa_nil))) (pv 3) (nomark _)) (pss_one (ps_ret pe_bl)) pss_nil)
      (pss_cons (ps_set (i := 6) sc_takes_same.nd rfl (Or.inl rfl) (pe_methH H_shot (hr.mono (by decide)) (pv 5)))
      (pss_one (ps_ret (pe_and (pe_cmpR op_eq (pe_callH H_ran (hr.mono (by decide)) (pa_cons (pv 5) (pa_cons (pe_op op_sub (pv 4) (pv 3)) pa_nil))) (pe_op op_sub (pv 4) (pv 3)) (nomark _)) (pe_one (pe_cmpR (op_eqD hr.units) (pe_methH H_shot (hr.mono (by decide)) (pv 5)) (pv 6) (nomark _))))))))))), ?_⟩
  obtain ⟨as, d, ha, ⟨m, Tb, S, c, u, f, l, rfl, hm, hT, hlt, hz, hf, hl, rfl⟩, k⟩ := h
  obtain ⟨x, y, rfl, rfl, h1⟩ := ags2 ha
  refine Evl.q_when (b := false) (Evl.et_not (a := true) (Evl.et_B (ev_round (dv rfl h1) hlt))) (fun z => nomatch z) fun _ H1 e1 => ?_
  refine qD_un (ds := [.str "same", .int f, .int l]) (dv rfl (exd e1 h1)) rfl fun xs H2 e2 hx => un3 hx fun v1 v2 v3 q1 q2 q3 => ?_
  cases q1
  cases q2
  cases q3
  refine q_mkRun (as_v (Evl.ev_var rfl) (as_d (.of Evl.ev_c (T.first _)) as_nil)) (hm.ex (e1.trans e2)) hT fun r d dx t H3 hx hd e3 R3 => ?_
  have g1 := go_of_run Tb f first u hf
  refine e_ran (n := f) (Evl.ea_cons (Evl.ev_var rfl) (Evl.ea_cons (Evl.ev_var rfl) Evl.ea_nil)) R3 hT (j := 0) rfl (by omega) fun H4 m4 R4 => ?_
  rw [g1] at R4 ⊢
  have e4 := m4.ex e3 hx hd
  refine Evl.ev_var (i := 3) rfl H4 (Evl.Ex.refl _) _ fun H5 e5 => ⟨(f : Nat), (f : Nat), rfl, rfl, false, congrArg V.bl (decide_eq_false (by omega)), iteF ?_⟩
  have R5 := R4.ex e5
  refine qD_asg (d_shot (Evl.ev_var rfl) R5 hT hf (by omega)) fun v6 H6 e6 q6 => ?_
  have R6 := R5.ex e6
  have g2 : go Tb (l - f) u = (u, l - f) := go_of_run Tb (l - f) u u (by
    have := runF_add Tb first f (l - f)
    rw [show f + (l - f) = l by omega] at this
    have hf' : runF Tb first f = some u := hf
    have hl' : runF Tb first l = some u := hl
    rw [hf', hl'] at this
    exact this.symm)
  have sub : ∀ H', Evl.Ev (tOp (rI0 fun i j => .int (i - j)) (tVar 4) (tVar 3)) [some (.ref m), some y, some (.str "same"), some (.int (f : Nat)), some (.int (l : Nat)), some (.ref r), some v6] H' (.int ((l - f : Nat) : Nat)) := fun H' => Evl.ev_is (Evl.ev_op (Evl.ev_var rfl) (Evl.ev_var rfl) Evl.rv_I0) (by congr 1; omega)
  refine e_ran (n := l - f) (Evl.ea_cons (Evl.ev_var rfl) (Evl.ea_cons (sub _) Evl.ea_nil)) R6 hT hf (by omega) fun H7 m7 R7 => ?_
  rw [g2] at R7 ⊢
  refine sub H7 H7 (Evl.Ex.refl _) _ fun H8 e8 => ⟨rfl, true, congrArg V.bl (decide_eq_true rfl), iteT ?_⟩
  have q8 : Dp K H8 v6 (shD u) := exd e8 (Dp.keep (R6.keep m7) _ _ q6)
  have ee : Ex H H8 := ((e1.trans e2).trans (m7.ex (((e4.trans e5).trans e6)) hx hd)).trans e8
  refine d_eq (d_shot (Evl.ev_var rfl) (R7.ex e8) hT hf (by omega)) (dv rfl q8) (sh_shaped u) (sh_shaped u) H8 (Evl.Ex.refl _) _ fun H9 e9 => k _ H9 (ee.trans e9) ?_
  rw [eqv_sh, decide_eq_true rfl]
  exact .bl true
/-! ### cells_from, is_shifted -/
def RCells : List Ag → PyData → Hp → Prop := fun as d _ => ∃ s, ∃ e y : Int, as = [.d (shD s), .v (.int e), .v (.int y)] ∧ s.mks.length ≤ 40000 ∧ (y = 1 ∨ y = -1) ∧ d = .list ((TP.cellsFrom s e y).map mkD)
theorem sc_cells_from : FnScope ["shot", "edge", "way", "state", "place", "marks", "spot", "sign"] ["shot", "edge", "way"] (defScope (top 25)) := ⟨rfl, rfl, rfl, by decide +kernel, rfl, by decide +kernel, by decide +kernel⟩
theorem h_cells_from (T : Top K mg) : Has P w K mg base "cells_from" ["shot", "edge", "way"] 1 (SpD K RCells) := by
  refine mk_has T 12 rfl rfl (fun _ _ _ _ _ _ us hl => match us, hl with | [_, _, _], _ => rfl) fun fd F => ?_
  refine F.ok sc_cells_from (fun vs H Q E h => len_of h fun as d H h => by obtain ⟨_, _, _, rfl, _⟩ := h; rfl) fun cdv A outer s H vs Q E hr h => ⟨_, PSs.nox (pss_cons (ps_asg (pv 0) (pg_tup rfl (pgs_cons (pg_name (i := 3) sc_cells_from.nd rfl (Or.inl rfl)) (pgs_cons (pg_name (i := 4) sc_cells_from.nd rfl (Or.inr rfl)) (pgs_cons (pg_name (i := 5) sc_cells_from.nd rfl (Or.inl rfl)) pgs_nil)))))
      (pss_one (ps_ret (pe_lc (own := [("spot", 6), ("sign", 7)]) (g := (gTup _ 2 (gCons (gName 6) (gCons (gName 7) gNil)))) rfl sc_cells_from.nd (pi_tup (pv 5)) (blkOk_by (N := ["shot", "edge", "way", "state", "place", "marks", "spot", "sign"]) (sc := defScope (top 25)) (by decide +kernel)) (fun _ _ _ _ _ => (pg_tup rfl (pgs_cons (pg_name (i := 6) sc_cells_from.nd rfl (Or.inl rfl)) (pgs_cons (pg_name (i := 7) sc_cells_from.nd rfl (Or.inl rfl)) pgs_nil)))) (fun _ _ _ _ _ => pts_one (pt_cmpR op_ge (pe_op op_mul (pe_op op_sub (pe_op op_sub (pv 6) (pv 4)) (pv 1)) (pv 2)) pe_int (nomark _))) (fun _ _ _ _ _ => (pe_tup (pa_cons (pe_op op_sub (pv 6) (pv 4)) (pa_cons (pv 7) pa_nil)))))))), ?_⟩
  obtain ⟨as, d, ha, ⟨u, ed, wy, rfl, hz, hw, rfl⟩, k⟩ := h
  obtain ⟨x, y, z, rfl, h1, rfl, rfl⟩ := ags3 ha
  refine qD_un (ds := [.int u.st, .int u.pl, mksD u.mks]) (dv rfl h1) rfl fun xs H2 e2 hx => un3 hx fun v1 v2 v3 q1 q2 q3 => ?_
  cases q1
  cases q2
  refine sD_ret (d_is (d_lcT2 (xs := u.mks) (d1 := fun a => .int a.1) (d2 := fun a => .int (a.2 : Nat)) (fun a => decide (0 ≤ (a.1 - u.pl - ed) * wy)) (fun a => mkD (a.1 - u.pl, a.2)) (dv rfl q3) hz (fun a _ _ => noL_mk _) (fun _ _ => rfl) ?_ ?_) ?_) fun v H3 e3 q => k v H3 (e2.trans e3) q
  · intro a va ua H3 _ _ qa qb
    cases qa
    cases qb
    exact Evl.et_is (Evl.et_test (Evl.ev_op (Evl.ev_op (Evl.ev_op (Evl.ev_op (Evl.ev_var rfl) (Evl.ev_var rfl) Evl.rv_I0) (Evl.ev_var rfl) Evl.rv_I0) (Evl.ev_var rfl) (Evl.rv_I (.inr (by rcases hw with rfl | rfl <;> decide)))) Evl.ev_c Evl.rv_I0)) rfl
  · intro a va ua H3 _ _ qa qb _
    cases qa
    cases qb
    exact d_tup (ds := [.int (a.1 - u.pl), .int (a.2 : Nat)]) (as_d (Ev.int (Evl.ev_op (Evl.ev_var rfl) (Evl.ev_var rfl) Evl.rv_I0)) (as_d (Ev.int (Evl.ev_var rfl)) as_nil))
  · unfold TP.cellsFrom
    rw [List.map_map]
    rfl
def RIsSh : List Ag → PyData → Hp → Prop := fun as d _ => ∃ a b, ∃ lo hi : Int, as = [.d (shD a), .d (shD b), .v (.int lo), .v (.int hi)] ∧ a.mks.length ≤ 40000 ∧ b.mks.length ≤ 40000 ∧ d = .bool (isShifted a b lo hi)
theorem sh_st {H : Hp} {σ : L2.St} {te tj : TE} {s : Sh} (h : EvD K te σ H (shD s)) (hj : Evl.Ev tj σ H (.int 0)) : Evl.Ev (tOp (rIxT K) te tj) σ H (.int (s.st : Nat)) := EvD.int (d_ixT h hj rfl)
theorem sh_pl {H : Hp} {σ : L2.St} {te tj : TE} {s : Sh} (h : EvD K te σ H (shD s)) (hj : Evl.Ev tj σ H (.int 1)) : Evl.Ev (tOp (rIxT K) te tj) σ H (.int s.pl) := EvD.int (d_ixT h hj rfl)
theorem sc_is_shifted : FnScope ["one", "other", "low", "high"] ["one", "other", "low", "high"] (defScope (top 26)) := ⟨rfl, rfl, rfl, by decide +kernel, rfl, by decide +kernel, by decide +kernel⟩
theorem h_is_shifted (T : Top K mg) : Has P w K mg base "is_shifted" ["one", "other", "low", "high"] 2 (SpD K RIsSh) := by
  have H_cells_from : Has P w K mg base "cells_from" ["shot", "edge", "way"] 1 (SpD K RCells) := h_cells_from T
  refine mk_has T 13 rfl rfl (fun _ _ _ _ _ _ us hl => match us, hl with | [_, _, _, _], _ => rfl) fun fd F => ?_
  refine F.ok sc_is_shifted (fun vs H Q E h => len_of h fun as d H h => by obtain ⟨_, _, _, _, rfl, _⟩ := h; rfl) fun cdv A outer s H vs Q E hr h => ⟨_, PSs.nox (pss_cons (ps_if (PW.pt (pw_or (pt_cmpR op_ne (pe_ix ix_tup (pv 0) pe_int (fun _ _ => rfl)) (pe_ix ix_tup (pv 1) pe_int (fun _ _ => rfl)) (nomark _)) (pw_or1 (pt_cmpR op_eq (pe_ix ix_tup (pv 0) pe_int (fun _ _ => rfl)) (pe_ix ix_tup (pv 1) pe_int (fun _ _ => rfl)) (nomark _))))) (pss_one (ps_ret pe_bl)) pss_nil)
      (pss_cons (ps_if (pt_cmpR op_lt (pe_ix ix_tup (pv 0) pe_int (fun _ _ => rfl)) (pe_ix ix_tup (pv 1) pe_int (fun _ _ => rfl)) (nomark _)) (pss_one (ps_ret (pe_cmpR (op_eqD hr.units) (pe_callH H_cells_from (hr.mono (by decide)) (pa_cons (pv 0) (pa_cons (pe_un un_neg (pv 2)) (pa_cons pe_int pa_nil)))) (pe_callH H_cells_from (hr.mono (by decide)) (pa_cons (pv 1) (pa_cons (pe_un un_neg (pv 2)) (pa_cons pe_int pa_nil)))) (nomark _)))) pss_nil)
      (pss_one (ps_ret (pe_cmpR (op_eqD hr.units) (pe_callH H_cells_from (hr.mono (by decide)) (pa_cons (pv 0) (pa_cons (pv 3) (pa_cons (pe_un un_neg pe_int) pa_nil)))) (pe_callH H_cells_from (hr.mono (by decide)) (pa_cons (pv 1) (pa_cons (pv 3) (pa_cons (pe_un un_neg pe_int) pa_nil)))) (nomark _)))))), ?_⟩
  obtain ⟨as, d, ha, ⟨a, b, lo, hi, rfl, z1, z2, rfl⟩, k⟩ := h
  obtain ⟨x, y, z, u, rfl, h1, h2, rfl, rfl⟩ := ags4 ha
  unfold isShifted at k
  refine Evl.q_when (Evl.et_or (Evl.et_test (Evl.ev_op (sh_st (dv rfl h1) Evl.ev_c) (sh_st (dv rfl h2) Evl.ev_c) (Evl.rv_ne rfl))) fun _ => Evl.et_test (Evl.ev_op (sh_pl (dv rfl h1) Evl.ev_c) (sh_pl (dv rfl h2) Evl.ev_c) (Evl.rv_eq rfl))) (fun hb H1 e1 => ?_) fun hb H1 e1 => ?_
  · rw [if_pos] at k
    · exact sD_ret (Ev.bl Evl.ev_c) fun v H2 e2 q => k v H2 (e1.trans e2) q
    · rcases Bool.or_eq_true_iff.mp hb with hb | hb
      · refine .inl fun e => ?_
        rw [e, decide_eq_true rfl] at hb
        cases hb
      · exact .inr (by have := of_decide_eq_true hb; injection this)
  · have hn : ¬ (a.st ≠ b.st ∨ a.pl = b.pl) := by
      obtain ⟨b1, b2⟩ := Bool.or_eq_false_iff.mp hb
      rintro (q | q)
      · refine q ?_
        have := of_decide_eq_true (Bool.not_eq_false' .. ▸ b1)
        injection this with this
        omega
      · exact of_decide_eq_false b2 (by rw [q])
    rw [if_neg hn] at k
    have h1' := exd e1 h1
    have h2' := exd e1 h2
    refine Evl.q_when (Evl.et_test (Evl.ev_op (sh_pl (dv rfl h1') Evl.ev_c) (sh_pl (dv rfl h2') Evl.ev_c) Evl.rv_I0)) (fun hb H2 e2 => ?_) fun hb H2 e2 => ?_
    · rw [if_pos (of_decide_eq_true hb)] at k
      have cl : ∀ (s : Sh) (H3 : Hp) (te : TE), s.mks.length ≤ 40000 → EvD K te [some x, some y, some (.int lo), some (.int hi)] H3 (shD s) → EvD K (tCall (SpD K RCells) [] E0 (tCons te (tCons (tUn (rU fun i => .int (-i)) (tVar 2)) (tCons (tC (.int 1)) tNil)))) [some x, some y, some (.int lo), some (.int hi)] H3 (.list ((TP.cellsFrom s (-lo) 1).map mkD)) :=
        fun s H3 te hz hs => d_call (as_d hs (as_v (Evl.ev_un (Evl.ev_var rfl) Evl.ru_neg) (as_v Evl.ev_c as_nil))) fun H4 e4 => ⟨s, -lo, 1, rfl, hz, .inl rfl, rfl⟩
      refine sD_ret (Ev.bl (Evl.ev_is (d_eq (cl a _ _ z1 (dv rfl (exd e2 h1'))) (cl b _ _ z2 (dv rfl (exd e2 h2'))) (mks_shaped _) (mks_shaped _)) (by rw [eqv_mks]))) fun v H3 e3 q => k v H3 ((e1.trans e2).trans e3) q
    · rw [if_neg (of_decide_eq_false hb)] at k
      have cl : ∀ (s : Sh) (H3 : Hp) (te : TE), s.mks.length ≤ 40000 → EvD K te [some x, some y, some (.int lo), some (.int hi)] H3 (shD s) → EvD K (tCall (SpD K RCells) [] E0 (tCons te (tCons (tVar 3) (tCons (tUn (rU fun i => .int (-i)) (tC (.int 1))) tNil)))) [some x, some y, some (.int lo), some (.int hi)] H3 (.list ((TP.cellsFrom s hi (-1)).map mkD)) :=
        fun s H3 te hz hs => d_call (as_d hs (as_v (Evl.ev_var rfl) (as_v (Evl.ev_un Evl.ev_c Evl.ru_neg) as_nil))) fun H4 e4 => ⟨s, hi, -1, rfl, hz, .inr rfl, rfl⟩
      refine sD_ret (Ev.bl (Evl.ev_is (d_eq (cl a _ _ z1 (dv rfl (exd e2 h1'))) (cl b _ _ z2 (dv rfl (exd e2 h2'))) (mks_shaped _) (mks_shaped _)) (by rw [eqv_mks]))) fun v H3 e3 q => k v H3 ((e1.trans e2).trans e3) q
end
end WK
end
section
set_option Elab.async false
set_option linter.all false
set_option maxRecDepth 100000
set_option maxHeartbeats 4000000
/-! Walks: coming round elsewhere; the makers. -/
namespace WK
open PySem PySem.Spec PyProof.Rows L2 HD DT2 TX TP ND EN LC
section
variable {P : Program} {w : World} {K : PySem.W.Frag} {mg : Str → Option Value} {base : Heap}
/-! ### takes_shifted -/
def RTShift (K : PySem.W.Frag) : List Ag → PyData → Hp → Prop := fun as d H => ∃ m T S c, ∃ f l : Nat, as = [.v (.ref m), .d (roundD "shifted" f l)] ∧ MachAt K H m T ∧ TblOk T S c ∧ ShiftOk T f l ∧ l ≤ 20000 ∧ d = .bool true
theorem high_next {ps : Nat → Int} {f l : Nat} {a : Int} (x : IsLow (neg ps) f l a) (h : f ≤ l) : IsLow (neg ps) f (l + 1) (if ps (l + 1) - ps f > a then ps (l + 1) - ps f else a) := by
  have := x.next h
  have e : neg ps f - neg ps (l + 1) = ps (l + 1) - ps f := by simp only [neg]; omega
  rw [e] at this
  exact this
theorem ev_max2' {σ : L2.St} {H : Hp} {ta tb : TE} {i j : Int} (ha : Evl.Ev ta σ H (.int i)) (hb : Evl.Ev tb σ H (.int j)) : Evl.Ev (tCB (fun xs H Q => ∃ i j, xs = [.int i, .int j] ∧ Q (.int (if j > i then j else i)) H) (tCons ta (tCons tb tNil))) σ H (.int (if j > i then j else i)) := fun H1 e Q q =>
  ha H1 e _ fun H2 e2 => hb H2 (e.trans e2) _ fun H3 e3 => ⟨i, j, rfl, q H3 (e2.trans e3)⟩
theorem ev_min2' {σ : L2.St} {H : Hp} {ta tb : TE} {i j : Int} (ha : Evl.Ev ta σ H (.int i)) (hb : Evl.Ev tb σ H (.int j)) : Evl.Ev (tCB (fun xs H Q => ∃ i j, xs = [.int i, .int j] ∧ Q (.int (if j < i then j else i)) H) (tCons ta (tCons tb tNil))) σ H (.int (if j < i then j else i)) := fun H1 e Q q =>
  ha H1 e _ fun H2 e2 => hb H2 (e.trans e2) _ fun H3 e3 => ⟨i, j, rfl, q H3 (e2.trans e3)⟩
theorem runs_next {T : Tbl} {j : Nat} {u v : Sh} (h : runs T j = some u) (h2 : runs T (j + 1) = some v) : step T u = some v := by
  have h2 : (runF T first j).bind (step T) = some v := h2
  have h : runF T first j = some u := h
  rw [h] at h2
  exact h2
theorem q_unlessStep {H : Hp} {σ : L2.St} {D : Ends} {tu tz : TS} {te : TE} {x d dx t : Addr} {Tb : Tbl} {S c j : Nat} {u s' : Sh} (h : Evl.Ev te σ H (.ref x)) (R : RunAt K H x d dx t Tb u) (hT : TblOk Tb S c) (hm : runs Tb j = some u) (hz : j ≤ 20000) (hs : TP.step Tb u = some s') (k : ∀ H', Mut H H' x d → RunAt K H' x d dx t Tb s' → tz D σ H') :
    tSeq (tIfS (tNot (tB (tMeth (CR K) "step" (spStep K) [] E0 te tNil))) tu tNext) tz D σ H :=
  b_step (Q := fun c H1 => if (!c) = true then tu { D with nx := tz D } σ H1 else tz D σ H1) h R hT hm hz (fun hn => by rw [hs] at hn; cases hn) fun s'' hs' H' mm R' => by
    rw [hs] at hs'
    cases hs'
    exact iteF (k H' mm R')
theorem sc_takes_shifted : FnScope ["machine", "paper", "kind", "first", "later", "run", "shot", "low", "high", "k"] ["machine", "paper"] (defScope (top 27)) := ⟨rfl, rfl, rfl, by decide +kernel, rfl, by decide +kernel, by decide +kernel⟩
theorem h_takes_shifted (T : Top K mg) : Has P w K mg base "takes_shifted" ["machine", "paper"] 3 (SpD K (RTShift K)) := by
  have H_is_round : Has P w K mg base "is_round" ["paper", "kind"] 1 (SpD K RRound) := h_is_round T
  have H_ran : Has P w K mg base "ran" ["run", "steps"] 2 (spRan K) := h_ran T
  have H_Run : HasC P w K mg base (CR K) "Run" ["self", "machine", "shot"] 1 (spRun K) := h_Run T
  have H_shot : HasM P w K mg base (CR K) "shot" ["self"] 1 (SpD K (RShot K)) := h_shot T
  have H_step : HasM P w K mg base (CR K) "step" ["self"] 1 (spStep K) := h_step T
  have H_is_shifted : Has P w K mg base "is_shifted" ["one", "other", "low", "high"] 2 (SpD K RIsSh) := h_is_shifted T
  refine mk_has T 14 rfl rfl (fun _ _ _ _ _ _ us hl => match us, hl with | [_, _], _ => rfl) fun fd F => ?_
  refine F.ok sc_takes_shifted (fun vs H Q E h => len_of h fun as d H h => by obtain ⟨_, _, _, _, _, _, rfl, _⟩ := h; rfl) fun cdv A outer s H vs Q E hr h => ⟨_, PSs.nox (pss_cons (ps_if (pt_not (pt_val (pe_callH H_is_round (hr.mono (by decide)) (pa_cons (pv 1) (pa_cons pe_str pa_nil))))) (pss_one (ps_ret pe_bl)) pss_nil)
      (pss_cons (ps_asg (pv 1) (pg_tup rfl (pgs_cons (pg_name (i := 2) sc_takes_shifted.nd rfl (Or.inl rfl)) (pgs_cons (pg_name (i := 3) sc_takes_shifted.nd rfl (Or.inl rfl)) (pgs_cons (pg_name (i := 4) sc_takes_shifted.nd rfl (Or.inl rfl)) pgs_nil)))))
      (pss_cons (ps_set (i := 5) sc_takes_shifted.nd rfl (Or.inl rfl) (pe_makeH H_Run (hr.mono (by decide)) (pa_cons (pv 0) (pa_cons (pe_glob (v := .ref (He.ga K "FIRST")) rfl (T.glo 48) rfl) pa_nil))))
      (pss_cons (ps_if (pt_cmpR op_lt (pe_callH H_ran (hr.mono (by decide)) (pa_cons (pv 5) (pa_cons (pv 3) pa_nil))) (pv 3) (nomark _)) (pss_one (ps_ret pe_bl)) pss_nil)
      (pss_cons (ps_set (i := 6) sc_takes_shifted.nd rfl (Or.inl rfl) (pe_methH H_shot (hr.mono (by decide)) (pv 5)))
      (pss_cons (ps_set (i := 7) sc_takes_shifted.nd rfl (Or.inl rfl) pe_int)
      (pss_cons (ps_set (i := 8) sc_takes_shifted.nd rfl (Or.inl rfl) pe_int)
      (pss_cons (ps_for PassesOwn.never rfl (pi_range1 (by rfl) (T.free 59) (pa_cons (pe_op op_sub (pv 4) (pv 3)) pa_nil)) (pg_name (i := 9) sc_takes_shifted.nd rfl (Or.inl rfl)) (pss_cons (ps_if (pt_not (pt_val (pe_methH H_step (hr.mono (by decide)) (pv 5)))) (pss_one (ps_ret pe_bl)) pss_nil)
      (pss_cons (ps_set (i := 7) sc_takes_shifted.nd rfl (Or.inl rfl) (pe_callB (call_max2 rfl) (by rfl) (T.free 63) (by decide +kernel) (pa_cons (pv 7) (pa_cons (pe_op op_sub (pe_ix ix_tup (pv 6) pe_int (fun _ _ => rfl)) (pe_fld (pv 5) rfl)) pa_nil))))
      (pss_one (ps_set (i := 8) sc_takes_shifted.nd rfl (Or.inl rfl) (pe_callB (call_max2 rfl) (by rfl) (T.free 63) (by decide +kernel) (pa_cons (pv 8) (pa_cons (pe_op op_sub (pe_fld (pv 5) rfl) (pe_ix ix_tup (pv 6) pe_int (fun _ _ => rfl))) pa_nil))))))))
      (pss_one (ps_ret (pe_callH H_is_shifted (hr.mono (by decide)) (pa_cons (pv 6) (pa_cons (pe_methH H_shot (hr.mono (by decide)) (pv 5)) (pa_cons (pv 7) (pa_cons (pv 8) pa_nil))))))))))))))), ?_⟩
  obtain ⟨as, d, ha, ⟨m, Tb, S, c, f, l, rfl, hm, hT, hS, hz, rfl⟩, k⟩ := h
  obtain ⟨x, y, rfl, rfl, h1⟩ := ags2 ha
  have hlt := hS.lt
  obtain ⟨a, b, low, high, hf, hl, hlow, hhigh, hsh⟩ := hS.ex
  refine Evl.q_when (b := false) (Evl.et_not (a := true) (Evl.et_B (ev_round (dv rfl h1) hlt))) (fun z => nomatch z) fun _ H1 e1 => ?_
  refine qD_un (ds := [.str "shifted", .int f, .int l]) (dv rfl (exd e1 h1)) rfl fun xs H2 e2 hx => un3 hx fun v1 v2 v3 q1 q2 q3 => ?_
  cases q1
  cases q2
  cases q3
  refine q_mkRun (as_v (Evl.ev_var rfl) (as_d (.of Evl.ev_c (T.first _)) as_nil)) (hm.ex (e1.trans e2)) hT fun r d dx t H3 hx hd e3 R3 => ?_
  have g1 := go_of_run Tb f first a hf
  refine e_ran (n := f) (Evl.ea_cons (Evl.ev_var rfl) (Evl.ea_cons (Evl.ev_var rfl) Evl.ea_nil)) R3 hT (j := 0) rfl (by omega) fun H4 m4 R4 => ?_
  rw [g1] at R4 ⊢
  have e4 := m4.ex e3 hx hd
  refine Evl.ev_var (i := 3) rfl H4 (Evl.Ex.refl _) _ fun H5 e5 => ⟨(f : Nat), (f : Nat), rfl, rfl, false, congrArg V.bl (decide_eq_false (by omega)), iteF ?_⟩
  have R5 := R4.ex e5
  refine qD_asg (d_shot (Evl.ev_var rfl) R5 hT hf (by omega)) fun v6 H6 e6 q6 => ?_
  have R6 := R5.ex e6
  refine Evl.q_asg Evl.ev_c fun H7 e7 => ?_
  refine Evl.q_asg Evl.ev_c fun H8 e8 => ?_
  have hxH : H r = none := Evl.fresh_back (e1.trans e2) hx
  have hdH : H d = none := Evl.fresh_back (e1.trans e2) hd
  have e08 : Ex H H8 := ((((e1.trans e2).trans e4).trans e5).trans e6).trans (e7.trans e8)
  have pa : place Tb f = a.pl := place_of hf
  refine Evl.q_forR1 (n := ((l - f : Nat) : Nat)) (Evl.ea_cons (Evl.ev_is (Evl.ev_op (Evl.ev_var rfl) (Evl.ev_var rfl) Evl.rv_I0) (by congr 1; omega)) Evl.ea_nil) (by omega)
    (fun i σ' H' => ∃ v lo hi u, σ' = [some (.ref m), some y, some (.str "shifted"), some (.int (f : Nat)), some (.int (l : Nat)), some (.ref r), some v6, some (.int lo), some (.int hi), u] ∧ Ex H H' ∧ Dp K H' v6 (shD a) ∧ runs Tb (f + i) = some v ∧ RunAt K H' r d dx t Tb v ∧ IsLow (place Tb) f (f + i) lo ∧ IsLow (neg (place Tb)) f (f + i) hi)
    (fun H9 e9 => ⟨a, 0, 0, none, rfl, e08.trans e9, exd (e7.trans (e8.trans e9)) q6, hf, R6.ex (e7.trans (e8.trans e9)), IsLow.zero _ _, IsLow.zero _ _⟩) ?_ ?_
  · rintro i σ' H' hi ⟨v, lo, hi', u, rfl, e9, q9, hv, R9, il, ih⟩
    obtain ⟨v', hv'⟩ : ∃ v', runs Tb (f + i + 1) = some v' := runF_le hl (by omega)
    have hst := runs_next hv hv'
    refine q_unlessStep (Evl.ev_var rfl) R9 hT hv (by omega) hst fun H10 m10 R10 => ?_
    have e10 : Ex H H10 := m10.ex e9 hxH hdH
    have q10 := Dp.keep (R9.keep m10) _ _ q9
    have pv : place Tb (f + i + 1) = v'.pl := place_of hv'
    refine Evl.q_asg (ev_max2' (Evl.ev_var rfl) (Evl.ev_op (sh_pl (dv rfl q10) Evl.ev_c) (R10.place T (Evl.ev_var rfl)) Evl.rv_I0)) fun H11 e11 => ?_
    refine Evl.s_asg (ev_max2' (Evl.ev_var rfl) (Evl.ev_op ((R10.ex e11).place T (Evl.ev_var rfl)) (sh_pl (dv rfl (exd e11 q10)) Evl.ev_c) Evl.rv_I0)) fun H12 e12 => ?_
    refine ⟨v', _, _, _, rfl, (e10.trans e11).trans e12, exd (e11.trans e12) q10, hv', (R10.ex e11).ex e12, ?_, ?_⟩
    · have := il.next (Nat.le_add_right f i)
      rw [pa, pv] at this
      exact this
    · have := high_next ih (Nat.le_add_right f i)
      rw [pa, pv] at this
      exact this
  · rintro σ' H' ⟨v, lo, hi', u, rfl, e9, q9, hv, R9, il, ih⟩
    have en : f + ((l - f : Nat) : Int).toNat = l := by omega
    rw [en] at hv il ih
    have ev : v = b := by rw [hv] at hl; exact Option.some.inj hl
    subst ev
    have el := il.uniq hlow
    have eh := ih.uniq hhigh
    subst el
    subst eh
    have z1 := runs_len hf
    have z2 := runs_len hv
    refine sD_ret (d_call (as_d (dv rfl q9) (as_d (d_shot (Evl.ev_var rfl) R9 hT hv (by omega)) (as_v (Evl.ev_var rfl) (as_v (Evl.ev_var rfl) as_nil)))) fun H10 e10 => ⟨a, v, lo, hi', rfl, by omega, by omega, rfl⟩) fun v11 H11 e11 q => k v11 H11 (e9.trans e11) ?_
    rw [hsh] at q
    exact q
/-! ### same_of -/
def NoRep (T : Tbl) (n : Nat) : Prop := ∀ i j s, i < j → j < (tr T n first).length → runs T i = some s → runs T j = some s → False
def PreMN (K : PySem.W.Frag) : List Ag → Hp → Prop := fun as H => ∃ m T S c n, as = [.v (.ref m), .v (.int (n : Nat))] ∧ MachAt K H m T ∧ TblOk T S c ∧ n ≤ 20000
def SameIs (T : Tbl) (n : Nat) (d : PyData) : Prop := (d = .none ∧ NoRep T n) ∨ ∃ i j : Nat, ∃ s, i < j ∧ j ≤ n ∧ d = roundD "same" i j ∧ runs T i = some s ∧ runs T j = some s ∧ ¬ NoRep T n
/-- a promise about machine and number, handing back any d of which W holds -/
def SpMN (K : PySem.W.Frag) (W : Tbl → Nat → PyData → Prop) : Sp := fun vs H Q _ => ∃ m T S c n, vs = [.ref m, .int (n : Nat)] ∧ MachAt K H m T ∧ TblOk T S c ∧ n ≤ 20000 ∧ ∀ d v H', W T n d → Ex H H' → Dp K H' v d → Q v H'
theorem s_asgMN {H : Hp} {σ : L2.St} {D : Ends} {tr : TA} {i m n S c : Nat} {Tb : Tbl} {E : XK} {W : Tbl → Nat → PyData → Prop} (h : Evl.EvA tr σ H [.ref m, .int (n : Nat)]) (hm : MachAt K H m Tb) (hT : TblOk Tb S c) (hn : n ≤ 20000) (k : ∀ d v H1, W Tb n d → Ex H H1 → Dp K H1 v d → D.nx (σ.set i (some v)) H1) :
    tAsg (tCall (SpMN K W) [] E tr) (gName i) D σ H := h H (Evl.Ex.refl _) _ fun H1 e1 => ⟨m, Tb, S, c, n, rfl, hm.ex e1, hT, hn, fun d v H2 hd e2 hv => k d v H2 hd (e1.trans e2) hv⟩
theorem q_asgMN {H : Hp} {σ : L2.St} {D : Ends} {tr : TA} {tz : TS} {i m n S c : Nat} {Tb : Tbl} {E : XK} {W : Tbl → Nat → PyData → Prop} (h : Evl.EvA tr σ H [.ref m, .int (n : Nat)]) (hm : MachAt K H m Tb) (hT : TblOk Tb S c) (hn : n ≤ 20000) (k : ∀ d v H1, W Tb n d → Ex H H1 → Dp K H1 v d → tz D (σ.set i (some v)) H1) :
    tSeq (tAsg (tCall (SpMN K W) [] E tr) (gName i)) tz D σ H := s_asgMN (D := { D with nx := tz D }) h hm hT hn k
theorem tr_runs {T : Tbl} {n i : Nat} {s : Sh} (h : (tr T n first)[i]? = some s) : runs T i = some s := by
  have hi := (List.getElem?_eq_some_iff.mp h).1
  rw [tr_get T n first i hi] at h
  exact h
theorem d_trail {H : Hp} {σ : L2.St} {tr : TA} {m n S c : Nat} {Tb : Tbl} {E : XK} (h : EvAs K tr σ H [.v (.ref m), .v (.int (n : Nat))]) (hm : MachAt K H m Tb) (hT : TblOk Tb S c) (hn : n ≤ 20000) : EvD K (tCall (SpD K (RTrail K)) [] E tr) σ H (.list ((TP.tr Tb n first).map shD)) :=
  d_call h fun H1 e1 => ⟨m, Tb, S, c, n, rfl, hm.ex e1, hT, hn, rfl⟩
theorem keyV_sh {H : Hp} {v : V} {s : Sh} (h : Dp K H v (shD s)) : KeyV K H v (shK s) := by
  unfold shK
  refine KeyV.mk ?_ (Nat.le_trans (shK_depth s) (by decide))
  have e := shK_data s
  unfold shK at e
  rw [e]; exact h
theorem et_nin {P : Program} {w : World} {H : Hp} {σ : L2.St} {ty td : TE} {y : V} {d : Addr} {kvs : List (NestedKey × V)} {k : NestedKey} (hy : Evl.Ev ty σ H y) (hd : Evl.Ev td σ H (.ref d)) (hn : DN P w K H d kvs) (hk : KeyV K H y k) : Evl.Ev (tNIn P w K ty td) σ H (.bl (valV kvs k).isSome) := fun H1 a Q q =>
  hy H1 a _ fun H2 e2 => hd H2 (a.trans e2) _ fun H3 e3 => ⟨d, kvs, k, rfl, hn.ex ((a.trans e2).trans e3), hk.keep (.of_ex ((a.trans e2).trans e3)), q H3 (e2.trans e3)⟩
theorem et_nnin {P : Program} {w : World} {H : Hp} {σ : L2.St} {ty td : TE} {y : V} {d : Addr} {kvs : List (NestedKey × V)} {k : NestedKey} (hy : Evl.Ev ty σ H y) (hd : Evl.Ev td σ H (.ref d)) (hn : DN P w K H d kvs) (hk : KeyV K H y k) : Evl.Ev (tNNotIn P w K ty td) σ H (.bl (!(valV kvs k).isSome)) := fun H1 a Q q =>
  hy H1 a _ fun H2 e2 => hd H2 (a.trans e2) _ fun H3 e3 => ⟨d, kvs, k, rfl, hn.ex ((a.trans e2).trans e3), hk.keep (.of_ex ((a.trans e2).trans e3)), q H3 (e2.trans e3)⟩
theorem ev_nget {P : Program} {w : World} {H : Hp} {σ : L2.St} {ty td : TE} {y v : V} {d : Addr} {kvs : List (NestedKey × V)} {k : NestedKey} (hy : Evl.Ev ty σ H y) (hd : Evl.Ev td σ H (.ref d)) (hn : DN P w K H d kvs) (hk : KeyV K H y k) (hv : valV kvs k = some v) : Evl.Ev (tNGet P w K td ty) σ H v := fun H1 a Q q =>
  hd H1 a _ fun H2 e2 => hy H2 (a.trans e2) _ fun H3 e3 => ⟨d, kvs, k, v, rfl, hn.ex ((a.trans e2).trans e3), hk.keep (.of_ex ((a.trans e2).trans e3)), hv, q H3 (e2.trans e3)⟩
/-- d[y] = v of a dict with nested keys -/
theorem s_nput {P : Program} {w : World} {H : Hp} {σ : L2.St} {D : Ends} {ty td tv : TE} {y v : V} {d : Addr} {kvs : List (NestedKey × V)} {k : NestedKey} (hv : Evl.Ev tv σ H v) (hd : Evl.Ev td σ H (.ref d)) (hy : Evl.Ev ty σ H y) (hn : DN P w K H d kvs) (hk : KeyV K H y k) (hz : kvs.length < 100000)
    (q : ∀ H1 o, Ex H H1 → KeepS H1 (upd H1 d o) → DN P w K (upd H1 d o) d (putK kvs k v) → D.nx σ (upd H1 d o)) : sNPut P w K td ty tv D σ H := hv H (Evl.Ex.refl _) _ fun H1 e1 => hd H1 e1 _ fun H2 e2 => hy H2 (e1.trans e2) _ fun H3 e3 => by
  have e := (e1.trans e2).trans e3
  exact ⟨d, kvs, k, rfl, hn.ex e, hk.keep (.of_ex e), Evl.sz_lt hz, fun o ho => q H3 o e (KeepS.upd (hn.ex e).noSeq) ho⟩
theorem q_nnew {P : Program} {w : World} {H : Hp} {σ : L2.St} {D : Ends} {tz : TS} {i : Nat} (k : ∀ p H1, H p = none → Ex H H1 → DN P w K H1 p [] → tz D (σ.set i (some (.ref p))) H1) : tSeq (tAsg (tNNew P w K) (gName i)) tz D σ H := fun p o hp hn => k p _ hp (Evl.Ex.new hp) hn
theorem mach_keep {H H' : Hp} {m : Addr} {T : Tbl} (h : MachAt K H m T) (k : KeepS H H') (hm : ∀ o, H m = some o → H' m = some o) : MachAt K H' m T := by
  obtain ⟨dx, t, h1, h2⟩ := h
  exact ⟨dx, t, hm _ h1, Dp.keep k _ _ h2⟩
theorem sc_same_of : FnScope ["machine", "most", "met", "number", "shot"] ["machine", "most"] (defScope (top 29)) := ⟨rfl, rfl, rfl, by decide +kernel, rfl, by decide +kernel, by decide +kernel⟩
theorem h_same_of (T : Top K mg) : Has P w K mg base "same_of" ["machine", "most"] 4 (SpMN K SameIs) := by
  have H_trail : Has P w K mg base "trail" ["machine", "steps"] 3 (SpD K (RTrail K)) := h_trail T
  refine mk_has T 15 rfl rfl (fun _ _ _ _ _ _ us hl => match us, hl with | [_, _], _ => rfl) fun fd F => ?_
  refine F.ok sc_same_of (fun vs H Q E h => by obtain ⟨_, _, _, _, _, rfl, _⟩ := h; rfl) fun cdv A outer s H vs Q E hr h => ⟨_, PSs.nox (pss_cons (ps_set (i := 2) sc_same_of.nd rfl (Or.inl rfl) pe_nnew)
      (pss_cons (ps_for PassesOwn.never rfl (pi_enum (by rfl) (T.free 61) (pa_cons (pe_callH H_trail (hr.mono (by decide)) (pa_cons (pv 0) (pa_cons (pv 1) pa_nil))) pa_nil)) (pg_tup rfl (pgs_cons (pg_name (i := 3) sc_same_of.nd rfl (Or.inl rfl)) (pgs_cons (pg_name (i := 4) sc_same_of.nd rfl (Or.inl rfl)) pgs_nil))) (pss_cons (ps_if (pt_cmp (pc_nin hr.units (pv 4) (pv 2))) (pss_one (ps_ret (pe_tup (pa_cons pe_str (pa_cons (pe_nget hr.units (pv 2) (pv 4) (fun _ _ => rfl)) (pa_cons (pv 3) pa_nil)))))) pss_nil)
      (pss_one (ps_nput hr.units (pv 2) (pv 4) (pv 3) rfl))))
      (pss_one (ps_ret pe_non)))), ?_⟩
  obtain ⟨m, Tb, S, c, n, rfl, hm, hT, hn, k⟩ := h
  refine q_nnew fun e H1 he e1 hD => ?_
  have hlen : ((tr Tb n first).map shD).length = (go Tb n first).2 + 1 := by rw [List.length_map, tr_len]
  have hle := go_le Tb n first
  refine qD_forE (d_trail (as_v (Evl.ev_var rfl) (as_v (Evl.ev_var rfl) as_nil)) (hm.ex e1) hT hn)
    (fun v i σ' H' => ∃ u u' kvs, σ' = [some (.ref m), some (.int (n : Nat)), some (.ref e), u, u'] ∧ Ex H H' ∧ Dp K H' v (.list ((tr Tb n first).map shD)) ∧ DN P w K H' e kvs ∧ kvs.length ≤ i ∧
      (∀ s v', valV kvs (shK s) = some v' → ∃ j : Nat, j < i ∧ v' = .int j ∧ runs Tb j = some s) ∧ (∀ s, valV kvs (shK s) = none → ∀ j, j < i → runs Tb j ≠ some s) ∧ (∀ a b s, a < b → b < i → runs Tb a = some s → runs Tb b = some s → False))
    (fun v H2 e2 q => ⟨none, none, [], rfl, e1.trans e2, q, hD.ex e2, Nat.zero_le _, (fun s v' h => by cases h), (fun s _ j hj => absurd hj (Nat.not_lt_zero _)), (fun a b s _ hb => absurd hb (Nat.not_lt_zero _))⟩)
    (fun v i σ' H' _ ⟨_, _, _, _, _, h, _⟩ => h) ?_ ?_
  · rintro v i y dd σ' H' H2 hi ex hy ⟨u, u', kvs, rfl, e3, qv, hN, hkl, p1, p2, p3⟩
    rw [List.getElem?_map] at hi
    obtain ⟨sh, hi2, rfl⟩ := Option.map_eq_some_iff.mp hi
    have hr := tr_runs hi2
    have hil := (List.getElem?_eq_some_iff.mp hi2).1
    rw [tr_len] at hil
    obtain ⟨p, xs, rfl, g1, g2⟩ := dp_tup hy
    refine ⟨p, xs, rfl, g1, by rw [g2.length]; rfl, un2 g2 fun v1 v2 r1 r2 => ?_⟩
    cases r1
    have kv := keyV_sh r2
    refine Evl.q_when (Evl.et_B (et_nin (Evl.ev_var rfl) (Evl.ev_var rfl) (hN.ex ex) kv)) (fun hb H4 e4 => ?_) (fun hb H4 e4 => ?_)
    · obtain ⟨v', hv'⟩ := Option.isSome_iff_exists.mp hb
      obtain ⟨j, hj, rfl, hrj⟩ := p1 sh v' hv'
      refine sD_ret (d_tup (ds := [.str "same", .int (j : Nat), .int (i : Nat)]) (as_d (Ev.str Evl.ev_c) (as_d (Ev.int (ev_nget (Evl.ev_var rfl) (Evl.ev_var rfl) ((hN.ex ex).ex e4) (kv.keep (.of_ex e4)) hv')) (as_d (Ev.int (Evl.ev_var rfl)) as_nil)))) fun v5 H5 e5 q5 => k _ v5 H5 (.inr ⟨j, i, sh, hj, by omega, rfl, hrj, hr, fun hno => hno j i sh hj (by rw [tr_len]; exact hil) hrj hr⟩) (((e3.trans ex).trans e4).trans e5) q5
    · have hnone : valV kvs (shK sh) = none := by
        cases q : valV kvs (shK sh) with
        | none => rfl
        | some z => rw [q] at hb; cases hb
      refine s_nput (Evl.ev_var rfl) (Evl.ev_var rfl) (Evl.ev_var rfl) ((hN.ex ex).ex e4) (kv.keep (.of_ex e4)) (by omega) fun H5 o e5 k5 hN5 => ?_
      refine ⟨_, _, _, rfl, Evl.Ex.mut (((e3.trans ex).trans e4).trans e5) he, Dp.keep k5 _ _ (exd ((ex.trans e4).trans e5) qv), hN5, ?_, ?_, ?_, ?_⟩
      · have := length_putK kvs (shK sh) (V.int (i : Nat)); omega
      · intro s v' hv'
        rw [valV_put] at hv'
        by_cases q : shK s = shK sh
        · rw [if_pos q] at hv'
          cases hv'
          exact ⟨i, Nat.lt_succ_self _, rfl, by rw [shK_inj q]; exact hr⟩
        · rw [if_neg q] at hv'
          obtain ⟨j, hj, h1, h2⟩ := p1 s v' hv'
          exact ⟨j, by omega, h1, h2⟩
      · intro s hv' j hj
        rw [valV_put] at hv'
        by_cases q : shK s = shK sh
        · rw [if_pos q] at hv'; cases hv'
        · rw [if_neg q] at hv'
          by_cases hji : j = i
          · subst hji
            intro z
            rw [hr] at z
            exact q (by rw [Option.some.inj z])
          · exact p2 s hv' j (by omega)
      · intro a b s hab hb' ha hb2
        by_cases hbi : b = i
        · subst hbi
          rw [hr] at hb2
          have := Option.some.inj hb2
          subst this
          exact p2 sh hnone a hab ha
        · exact p3 a b s hab (by omega) ha hb2
  · rintro v σ' H' ⟨u, u', kvs, rfl, e3, qv, hN, hkl, p1, p2, p3⟩
    refine sD_ret (Ev.non Evl.ev_c) fun v5 H5 e5 q5 => k _ v5 H5 (.inl ⟨rfl, fun a b s hab hb ha hb2 => p3 a b s hab (by rw [List.length_map]; exact hb) ha hb2⟩) (e3.trans e5) q5
/-! ### first_shifted -/
def FShIs (T : Tbl) (l : Nat) (d : PyData) : Prop := (d = .none ∧ ∀ f, ¬ ShiftOk T f l) ∨ ∃ f : Nat, d = .int (f : Nat) ∧ ShiftOk T f l
def spFirstSh (K : PySem.W.Frag) : Sp := fun vs H Q _ => ∃ x T n, ∃ l : Nat, vs = [x, .int (l : Nat)] ∧ Dp K H x (.list ((tr T n first).map shD)) ∧ n ≤ 20000 ∧ l < (tr T n first).length ∧ ∀ d v H', FShIs T l d → Ex H H' → Dp K H' v d → Q v H'
theorem s_forRev {H : Hp} {σ : L2.St} {D : Ends} {tu : TS} {ta : TE} {j n : Nat} (h : Evl.Ev ta σ H (.int (n : Nat))) (hn : n ≤ 100000) (Pv : Nat → L2.St → Hp → Prop) (h0 : ∀ H1, Ex H H1 → Pv 0 σ H1)
    (hs : ∀ (i : Nat) σ' H', i < n → Pv i σ' H' → tu { D with nx := Pv (i + 1), ct := Pv (i + 1), bk := D.nx } (σ'.set j (some (.int ((n - 1 - i : Nat) : Nat)))) H') (hd : ∀ σ' H', Pv n σ' H' → D.nx σ' H') : tFor (iRevR (tRg1 ta)) (gName j) tu D σ H :=
  h H (Evl.Ex.refl H) _ fun H1 e => ⟨(n : Nat), rfl, by omega, by omega, by omega, by omega, by
    have en : ((n : Nat) - 0 : Int).toNat = n := by omega
    rw [en]
    refine for_gen (J := Itc (0 + ((n : Nat) : Int) - 1) (-1) n) (n := n) (fun H H' => H' = H) Pv (fun _ => True) (fun i x H' => x = .int ((n - 1 - i : Nat) : Nat)) (h0 H1 e) (fun _ _ _ _ _ => trivial) (fun i H' hi _ => hi) (fun H' _ => Nat.le_refl _) (fun i H' x H2 hi _ y => ?_) ?_ hd
    · obtain ⟨y1, y2⟩ := y
      exact ⟨y1, by rw [y2]; congr 1; omega⟩
    · rintro i x σ' H' H2 hi p e2 rfl
      subst e2
      exact hs i σ' _ hi p⟩
theorem q_forRev {H : Hp} {σ : L2.St} {D : Ends} {tu tz : TS} {ta : TE} {j n : Nat} (h : Evl.Ev ta σ H (.int (n : Nat))) (hn : n ≤ 100000) (Pv : Nat → L2.St → Hp → Prop) (h0 : ∀ H1, Ex H H1 → Pv 0 σ H1)
    (hs : ∀ (i : Nat) σ' H', i < n → Pv i σ' H' → tu { D with nx := Pv (i + 1), ct := Pv (i + 1), bk := tz D } (σ'.set j (some (.int ((n - 1 - i : Nat) : Nat)))) H') (hd : ∀ σ' H', Pv n σ' H' → tz D σ' H') : tSeq (tFor (iRevR (tRg1 ta)) (gName j) tu) tz D σ H :=
  s_forRev (D := { D with nx := tz D }) h hn Pv h0 hs hd
theorem neg_down {ps : Nat → Int} {f l : Nat} {h : Int} (x : IsMin (neg ps) (f + 1) l (-h)) (hf : f ≤ l) : IsMin (neg ps) f l (-(if ps f > h then ps f else h)) := by
  have := x.down hf
  have e : (if neg ps f < -h then neg ps f else -h) = -(if ps f > h then ps f else h) := by
    simp only [neg]
    split <;> split <;> omega
  rw [e] at this
  exact this
theorem at_shots {T : Tbl} {n l : Nat} (hl : l < (tr T n first).length) : ∃ s, runs T l = some s ∧ atI ((tr T n first).map shD) (l : Nat) = some (shD s) := by
  have e := List.getElem?_eq_getElem hl
  exact ⟨_, tr_runs e, atI_nat (by rw [List.getElem?_map, e]; rfl)⟩
theorem sc_first_shifted : FnScope ["shots", "later", "found", "low", "high", "first", "place"] ["shots", "later"] (defScope (top 30)) := ⟨rfl, rfl, rfl, by decide +kernel, rfl, by decide +kernel, by decide +kernel⟩
theorem h_first_shifted (T : Top K mg) : Has P w K mg base "first_shifted" ["shots", "later"] 3 (spFirstSh K) := by
  have H_is_shifted : Has P w K mg base "is_shifted" ["one", "other", "low", "high"] 2 (SpD K RIsSh) := h_is_shifted T
  refine mk_has T 16 rfl rfl (fun _ _ _ _ _ _ us hl => match us, hl with | [_, _], _ => rfl) fun fd F => ?_
  refine F.ok sc_first_shifted (fun vs H Q E h => by obtain ⟨_, _, _, _, rfl, _⟩ := h; rfl) fun cdv A outer s H vs Q E hr h => ⟨_, PSs.nox (pss_cons (ps_set (i := 2) sc_first_shifted.nd rfl (Or.inl rfl) pe_non)
      (pss_cons (ps_set (i := 3) sc_first_shifted.nd rfl (Or.inl rfl) (pe_ix ix_tup (pe_ix ix_list (pv 0) (pv 1) (fun _ _ => rfl)) pe_int (fun _ _ => rfl)))
      (pss_cons (ps_set (i := 4) sc_first_shifted.nd rfl (Or.inl rfl) (pv 3))
      (pss_cons (ps_for PassesOwn.never rfl (pi_revR (by rfl) (T.free 60) (prg_1 (by rfl) (T.free 59) (pv 1))) (pg_name (i := 5) sc_first_shifted.nd rfl (Or.inl rfl)) (pss_cons (ps_set (i := 6) sc_first_shifted.nd rfl (Or.inl rfl) (pe_ix ix_tup (pe_ix ix_list (pv 0) (pv 5) (fun _ _ => rfl)) pe_int (fun _ _ => rfl)))
      (pss_cons (ps_set (i := 3) sc_first_shifted.nd rfl (Or.inl rfl) (pe_callB (call_min2 rfl) (by rfl) (T.free 64) (by decide +kernel) (pa_cons (pv 3) (pa_cons (pv 6) pa_nil))))
      (pss_cons (ps_set (i := 4) sc_first_shifted.nd rfl (Or.inl rfl) (pe_callB (call_max2 rfl) (by rfl) (T.free 63) (by decide +kernel) (pa_cons (pv 4) (pa_cons (pv 6) pa_nil))))
      (pss_one (ps_if (pt_val (pe_callH H_is_shifted (hr.mono (by decide)) (pa_cons (pe_ix ix_list (pv 0) (pv 5) (fun _ _ => rfl)) (pa_cons (pe_ix ix_list (pv 0) (pv 1) (fun _ _ => rfl)) (pa_cons (pe_op op_sub (pv 6) (pv 3)) (pa_cons (pe_op op_sub (pv 4) (pv 6)) pa_nil)))))) (pss_one (ps_set (i := 2) sc_first_shifted.nd rfl (Or.inl rfl) (pv 5))) pss_nil))))))
      (pss_one (ps_ret (pv 2))))))), ?_⟩
  obtain ⟨x, Tb, n, l, rfl, hx, hn, hl, k⟩ := h
  obtain ⟨b, hb, ab⟩ := at_shots hl
  have hle := go_le Tb n first
  have hll : l ≤ n := by rw [tr_len] at hl; omega
  refine Evl.q_asg Evl.ev_c fun H1 e1 => ?_
  refine Evl.q_asg (sh_pl (d_ixL (dv rfl (exd e1 hx)) (Evl.ev_var rfl) ab) Evl.ev_c) fun H2 e2 => ?_
  refine Evl.q_asg (Evl.ev_var rfl) fun H3 e3 => ?_
  have pb : place Tb l = b.pl := place_of hb
  have zb := runs_len hb
  refine q_forRev (n := l) (Evl.ev_var rfl) (by omega)
    (fun i σ' H' => ∃ vf df lo hi u u', σ' = [some x, some (.int (l : Nat)), some vf, some (.int lo), some (.int hi), u, u'] ∧ Ex H H' ∧ IsMin (place Tb) (l - i) l lo ∧ IsMin (neg (place Tb)) (l - i) l (-hi) ∧ Dp K H' vf df ∧ ((df = .none ∧ ∀ f, l - i ≤ f → ¬ ShiftOk Tb f l) ∨ ∃ f : Nat, df = .int (f : Nat) ∧ ShiftOk Tb f l))
    (fun H4 e4 => ⟨.non, .none, b.pl, b.pl, none, none, rfl, ((e1.trans e2).trans e3).trans e4, pb ▸ IsMin.one _ _, ?_, .non, .inl ⟨rfl, fun f hf h => by have := h.lt; omega⟩⟩) ?_ ?_
  · have := IsMin.one (neg (place Tb)) l
    simp only [neg] at this
    rw [pb] at this
    exact this
  · rintro i σ' H' hi ⟨vf, df, lo, hi', u, u', rfl, e4, il, ih, qf, hF⟩
    obtain ⟨a, ha, aa⟩ := at_shots (T := Tb) (n := n) (l := l - 1 - i) (by omega)
    have pa : place Tb (l - 1 - i) = a.pl := place_of ha
    have za := runs_len ha
    have hx' := exd e4 hx
    refine Evl.q_asg (sh_pl (d_ixL (dv rfl hx') (Evl.ev_var rfl) aa) Evl.ev_c) fun H5 e5 => ?_
    refine Evl.q_asg (ev_min2' (Evl.ev_var rfl) (Evl.ev_var rfl)) fun H6 e6 => ?_
    refine Evl.q_asg (ev_max2' (Evl.ev_var rfl) (Evl.ev_var rfl)) fun H7 e7 => ?_
    have e57 := (e5.trans e6).trans e7
    have il' := IsMin.down (f := l - 1 - i) (by rw [show l - 1 - i + 1 = l - i by omega]; exact il) (by omega)
    have ih' := neg_down (f := l - 1 - i) (by rw [show l - 1 - i + 1 = l - i by omega]; exact ih) (by omega)
    rw [pa] at il' ih'
    have hx7 := exd e57 hx'
    refine Evl.s_when (Evl.et_B (EvD.bl (d_call (as_d (d_ixL (dv rfl hx7) (Evl.ev_var rfl) aa) (as_d (d_ixL (dv rfl hx7) (Evl.ev_var rfl) ab) (as_v (Evl.ev_op (Evl.ev_var rfl) (Evl.ev_var rfl) Evl.rv_I0) (as_v (Evl.ev_op (Evl.ev_var rfl) (Evl.ev_var rfl) Evl.rv_I0) as_nil)))) fun H8 e8 => ⟨a, b, _, _, rfl, by omega, by omega, rfl⟩))) (fun hb' H8 e8 => ?_) (fun hb' H8 e8 => ?_)
    · have l1 := il'.low
      have l2 := ih'.low
      rw [pa] at l1
      simp only [neg] at l2
      rw [pa] at l2
      have ok : ShiftOk Tb (l - 1 - i) l := ⟨by omega, a, b, _, _, ha, hb, l1, by
        have e : ∀ z : Int, -a.pl - -z = z - a.pl := fun z => by omega
        rw [e] at l2
        exact l2, hb'⟩
      refine Evl.s_asg (Evl.ev_var rfl) fun H9 e9 => ⟨_, .int ((l - 1 - i : Nat) : Nat), _, _, _, _, rfl, (e4.trans e57).trans (e8.trans e9), ?_, ?_, .int _, .inr ⟨_, rfl, ok⟩⟩
      · rw [show l - (i + 1) = l - 1 - i by omega]; exact il'
      · rw [show l - (i + 1) = l - 1 - i by omega]; exact ih'
    · refine ⟨vf, df, _, _, _, _, rfl, (e4.trans e57).trans e8, ?_, ?_, exd (e57.trans e8) qf, ?_⟩
      · rw [show l - (i + 1) = l - 1 - i by omega]; exact il'
      · rw [show l - (i + 1) = l - 1 - i by omega]; exact ih'
      · rcases hF with ⟨rfl, hF⟩ | hF
        · refine .inl ⟨rfl, fun f hf hS => ?_⟩
          by_cases q : l - i ≤ f
          · exact hF f q hS
          · have : f = l - 1 - i := by omega
            subst this
            obtain ⟨a', b', lo2, hi2, g1, g2, g3, g4, g5⟩ := hS.ex
            have l1 := il'.low
            have l2 := ih'.low
            rw [pa] at l1
            simp only [neg] at l2
            rw [pa] at l2
            have e : ∀ z : Int, -a.pl - -z = z - a.pl := fun z => by omega
            rw [e] at l2
            rw [ha] at g1
            rw [hb] at g2
            cases g1
            cases g2
            have u1 := g3.uniq l1
            have u2 := g4.uniq l2
            rw [u1, u2] at g5
            rw [g5] at hb'
            cases hb'
        · exact .inr hF
  · rintro σ' H' ⟨vf, df, lo, hi', u, u', rfl, e4, il, ih, qf, hF⟩
    refine sD_ret (dv rfl qf) fun v5 H5 e5 q5 => k df v5 H5 ?_ (e4.trans e5) q5
    rcases hF with ⟨rfl, hF⟩ | hF
    · exact .inl ⟨rfl, fun f => hF f (by omega)⟩
    · exact .inr hF
/-! ### shifted_of -/
theorem q_asgFS {H : Hp} {σ : L2.St} {D : Ends} {tr : TA} {tz : TS} {i n l : Nat} {x : V} {Tb : Tbl} {E : XK} (h : Evl.EvA tr σ H [x, .int (l : Nat)]) (hx : Dp K H x (.list ((TP.tr Tb n first).map shD))) (hn : n ≤ 20000) (hl : l < (TP.tr Tb n first).length) (k : ∀ d v H1, FShIs Tb l d → Ex H H1 → Dp K H1 v d → tz D (σ.set i (some v)) H1) :
    tSeq (tAsg (tCall (spFirstSh K) [] E tr) (gName i)) tz D σ H := h H (Evl.Ex.refl _) _ fun H1 e1 => ⟨x, Tb, n, l, rfl, exd e1 hx, hn, hl, fun d v H2 hd e2 hv => k d v H2 hd (e1.trans e2) hv⟩
def NoSh (T : Tbl) (n : Nat) : Prop := ∀ f l, l < (tr T n first).length → ¬ ShiftOk T f l
def ShiftedIs (T : Tbl) (n : Nat) (d : PyData) : Prop := (d = .none ∧ NoSh T n) ∨ ∃ f l : Nat, l ≤ n ∧ d = roundD "shifted" f l ∧ ShiftOk T f l ∧ ¬ NoSh T n
theorem sc_shifted_of : FnScope ["machine", "most", "shots", "later", "first"] ["machine", "most"] (defScope (top 31)) := ⟨rfl, rfl, rfl, by decide +kernel, rfl, by decide +kernel, by decide +kernel⟩
theorem h_shifted_of (T : Top K mg) : Has P w K mg base "shifted_of" ["machine", "most"] 4 (SpMN K ShiftedIs) := by
  have H_trail : Has P w K mg base "trail" ["machine", "steps"] 3 (SpD K (RTrail K)) := h_trail T
  have H_first_shifted : Has P w K mg base "first_shifted" ["shots", "later"] 3 (spFirstSh K) := h_first_shifted T
  refine mk_has T 17 rfl rfl (fun _ _ _ _ _ _ us hl => match us, hl with | [_, _], _ => rfl) fun fd F => ?_
  refine F.ok sc_shifted_of (fun vs H Q E h => by obtain ⟨_, _, _, _, _, rfl, _⟩ := h; rfl) fun cdv A outer s H vs Q E hr h => ⟨_, PSs.nox (pss_cons (ps_set (i := 2) sc_shifted_of.nd rfl (Or.inl rfl) (pe_callH H_trail (hr.mono (by decide)) (pa_cons (pv 0) (pa_cons (pv 1) pa_nil))))
      (pss_cons (ps_for PassesOwn.never rfl (pi_range2 (by rfl) (T.free 59) (pa_cons pe_int (pa_cons (pe_callB call_len_seq (by rfl) (T.free 56) (by decide +kernel) (pa_cons (pv 2) pa_nil)) pa_nil))) (pg_name (i := 3) sc_shifted_of.nd rfl (Or.inl rfl)) (pss_cons (ps_set (i := 4) sc_shifted_of.nd rfl (Or.inl rfl) (pe_callH H_first_shifted (hr.mono (by decide)) (pa_cons (pv 2) (pa_cons (pv 3) pa_nil))))
      (pss_one (ps_if (pt_cmpR op_notN (pv 4) pe_non (nomark _)) (pss_one (ps_ret (pe_tup (pa_cons pe_str (pa_cons (pv 4) (pa_cons (pv 3) pa_nil)))))) pss_nil))))
      (pss_one (ps_ret pe_non)))), ?_⟩
  obtain ⟨m, Tb, S, c, n, rfl, hm, hT, hn, k⟩ := h
  have hle := go_le Tb n first
  have hlen := tr_len Tb n first
  refine qD_asg (d_trail (as_v (Evl.ev_var rfl) (as_v (Evl.ev_var rfl) as_nil)) hm hT hn) fun v H1 e1 q1 => ?_
  refine Evl.q_forR2 (lo := 1) (n := ((tr Tb n first).length : Nat)) (Evl.ea_cons Evl.ev_c (Evl.ea_cons (Evl.ev_is (d_lenL (dv rfl q1)) (by rw [List.length_map])) Evl.ea_nil)) (by omega)
    (fun i σ' H' => ∃ u u', σ' = [some (.ref m), some (.int (n : Nat)), some v, u, u'] ∧ Ex H H' ∧ Dp K H' v (.list ((tr Tb n first).map shD)) ∧ ∀ f l, l < 1 + i → ¬ ShiftOk Tb f l)
    (fun H2 e2 => ⟨none, none, rfl, e1.trans e2, exd e2 q1, fun f l hl h => by have := h.lt; omega⟩) ?_ ?_
  · rintro i σ' H' hi ⟨u, u', rfl, e2, q2, hN⟩
    have ei : (1 : Int) + (i : Nat) = ((1 + i : Nat) : Nat) := by omega
    rw [ei]
    refine q_asgFS (l := 1 + i) (Evl.ea_cons (Evl.ev_var rfl) (Evl.ea_cons (Evl.ev_var rfl) Evl.ea_nil)) q2 hn (by omega) fun d vd H5 hd e5 qd => ?_
    have e05 := e2.trans e5
    have q5 := exd e5 q2
    refine Evl.s_when (Evl.et_test (d_notN (dv (v := vd) rfl qd))) (fun hb H6 e6 => ?_) (fun hb H6 e6 => ?_)
    · rcases hd with ⟨rfl, _⟩ | ⟨f, rfl, hS⟩
      · cases hb
      · cases qd
        refine sD_ret (d_tup (ds := [.str "shifted", .int (f : Nat), .int ((1 + i : Nat) : Nat)]) (as_d (Ev.str Evl.ev_c) (as_d (Ev.int (Evl.ev_var rfl)) (as_d (Ev.int (Evl.ev_var rfl)) as_nil)))) fun v7 H7 e7 q7 => k _ v7 H7 (.inr ⟨f, 1 + i, by omega, rfl, hS, fun hno => hno f (1 + i) (by omega) hS⟩) ((e05.trans e6).trans e7) q7
    · refine ⟨_, _, rfl, e05.trans e6, exd e6 q5, fun f l hl => ?_⟩
      by_cases q : l < 1 + i
      · exact hN f l q
      · have : l = 1 + i := by omega
        subst this
        rcases hd with ⟨rfl, hF⟩ | ⟨f', rfl, hS⟩
        · exact hF f
        · cases hb
  · rintro σ' H' ⟨u, u', rfl, e2, q2, hN⟩
    refine sD_ret (Ev.non Evl.ev_c) fun v7 H7 e7 q7 => k _ v7 H7 (.inl ⟨rfl, fun f l hl => hN f l (by omega)⟩) (e2.trans e7) q7
end
end WK
end
section
set_option Elab.async false
set_option linter.all false
set_option maxRecDepth 100000
set_option maxHeartbeats 2000000
/-! t * k of a small tuple, once or more. -/
namespace L2
open PySem PySem.Spec PyProof.Rows
theorem tuple_mul1 (l : Addr) (items : Array Value) (n : Nat) (dd : Option Addr) (sl : Array (Option Value)) (u : Tok) :
    Meets (Builtin.«tuple.__mul__» ⟨[.ref l, .int 1 u], []⟩) (fun _ R s => s.heap.get? l = some { cls := .type "tuple", dict := dd, data := .seq items n, slots := sl } ∧ R (.ok (.ret (Value.ref l))) s) :=
  .of_wp fun prog w A R s h => by
    obtain ⟨hp, g, d, tk, os⟩ := s
    obtain ⟨hl, h⟩ := h
    have f1 := AutoSeq1.idx_int
    wp_walk using wpAny_loadPart' hl
    exact ⟨_, rfl, h⟩
def rRepTW (K : PySem.W.Frag) : R2 := fun x y H Q => ∃ l k xs, x = .ref l ∧ y = .int k ∧ SqT K H l xs ∧ xs ≠ [] ∧ 1 ≤ k ∧ k ≤ 1000 ∧ xs.length ≤ 1000 ∧ (k = 1 → Q (.ref l) H) ∧ (2 ≤ k → ∀ p, H p = none → Q (.ref p) (upd H p (.tup (List.replicate k.toNat xs).flatten)))
theorem op_repTW {X : Cx} : OpR X (binaryOp .Mult) (rRepTW X.K) := by
  intro pins s σ H x y v u Q I rx ry h
  obtain ⟨l, k, xs, rfl, rfl, hT, hne, h1, h2, hz, q1, q2⟩ := h
  by_cases hk : k = 1
  · subst hk
    cases rx
    obtain ⟨t, rfl⟩ := ry
    obtain ⟨its, r, ⟨⟨cls, dd, data, sl⟩, ho, hc, n, hd⟩, hs⟩ := I.tuple hT
    simp only at hc hd
    subst hc hd
    refine wpAny_binaryOp_repeat_ref (T := "tuple") (U := "int") (by decide) ⟨_, ho, rfl⟩ (fun s' => typeIs_int s' 1 t) noFill_tuple_mul F.fills_int_mul F.slot_int_rmul repeat_tuple F.slot_int_index.lookup
      (call_meets F.slot_int_rmul (typeIs_int s 1 t) F.entry_int_rmul (F.args_int_rmul_2 _ _) (int_rmul_tuple 1 t l its.toArray n dd sl)
        ⟨ho, rfl, ⟨_, ho, rfl⟩, call_meets F.slot_tuple_mul ⟨_, ho, rfl⟩ F.entry_tuple_mul (F.args_tuple_mul_2 _ _) (tuple_mul1 l its.toArray n dd sl t) ⟨ho, ?_⟩⟩)
    exact ⟨.ref l, H, I, rfl, q1 rfl⟩
  · exact op_repT pins s σ H _ _ v u Q I rx ry ⟨l, k, xs, rfl, rfl, hT, hne, by omega, h2, hz, q2 (by omega)⟩
end L2
namespace LC
open PySem PySem.Spec PyProof.Rows L2 HD DT2 TX TP ND EN
/-- (0,) * w -/
theorem d_blank {K : PySem.W.Frag} {σ : L2.St} {H : Hp} {ta tb : TE} {n : Nat} (ha : EvD K ta σ H (.tuple [.int 0])) (hb : Evl.Ev tb σ H (.int (n : Nat))) (h1 : 1 ≤ n) (h2 : n ≤ 1000) : EvD K (tOp (rRepTW K) ta tb) σ H (gramD (blank n)) := fun H1 a Q k =>
  ha H1 a _ fun v H2 e2 q => hb H2 (a.trans e2) _ fun H3 e3 => by
    obtain ⟨p, xs, rfl, g1, g2⟩ := dp_tup (exd e3 q)
    have e0 : xs = [.int 0] := by
      cases g2 with
      | cons g3 g4 =>
        cases g3
        cases g4
        rfl
    subst e0
    refine ⟨p, n, _, rfl, rfl, g1, by simp, by omega, by omega, by simp, fun hk => ?_, fun hk p' hp' => ?_⟩
    · have : n = 1 := by omega
      subst this
      exact k _ H3 (e2.trans e3) (.tup g1 g2)
    · refine k _ _ ((e2.trans e3).trans (Evl.Ex.new hp')) ?_
      have e : (List.replicate (n : Int).toNat [V.int 0]).flatten = (List.replicate n (0 : Int)).map V.int := by
        rw [show (n : Int).toNat = n by omega, List.map_replicate]
        induction n with
        | zero => rfl
        | succ n ih => rw [List.replicate_succ, List.flatten_cons, List.replicate_succ]; by_cases hn : n = 0
                       · subst hn; rfl
                       · have : ∀ m, (List.replicate m [V.int 0]).flatten = List.replicate m (V.int 0) := by
                           intro m
                           induction m with
                           | zero => rfl
                           | succ m ih => rw [List.replicate_succ, List.flatten_cons, ih]; rfl
                         rw [this]; rfl
      rw [e]
      have g : gramD (blank n) = .tuple ((List.replicate n (0 : Int)).map PyData.int) := by
        unfold gramD blank
        rw [List.map_replicate, List.map_replicate]
        rfl
      rw [g]
      exact .tup (.of upd_same) (DpAll.ints _)
/-! ### alike grams, contexts -/
theorem alike_nums : ∀ a b : List Nat, PySem.W.alikeAll (a.map fun (n : Nat) => PyData.int n) (b.map fun (n : Nat) => PyData.int n) = true
  | [], _ => by rw [List.map_nil, PySem.W.alikeAll]
  | _ :: _, [] => by rw [List.map_nil, List.map_cons, PySem.W.alikeAll]
  | a :: as, b :: bs => by rw [List.map_cons, List.map_cons, PySem.W.alikeAll, alike_nums as bs]; simp only [PySem.W.alike]; rfl
theorem alike_gram (a b : Gram) : PySem.W.alike (gramD a) (gramD b) = true := by
  unfold gramD
  simp only [PySem.W.alike]
  exact alike_nums a b
theorem alike_ctx (a b : Cxt) : PySem.W.alike (ctxD a) (ctxD b) = true := by
  unfold ctxD
  simp only [PySem.W.alike, PySem.W.alikeAll, alike_gram]
  rfl
/-! ### lists of grams, contexts as a dict's keys -/
theorem gramD_key (l : List Gram) : l.map gramD = (l.map gramK).map NestedKey.data := by
  rw [List.map_map]
  exact List.map_congr_left fun x _ => (gramK_data x).symm
theorem ctxD_key (l : List Cxt) : l.map ctxD = (l.map ctxK).map NestedKey.data := by
  rw [List.map_map]
  exact List.map_congr_left fun x _ => (ctxK_data x).symm
theorem keyV_gram {K : PySem.W.Frag} {H : Hp} {v : V} {s : Gram} (h : Dp K H v (gramD s)) : KeyV K H v (gramK s) := by
  unfold gramK
  refine KeyV.mk ?_ (Nat.le_trans (gramK_depth s) (by decide))
  have e := gramK_data s
  unfold gramK at e
  rw [e]; exact h
theorem keyV_ctx {K : PySem.W.Frag} {H : Hp} {v : V} {s : Cxt} (h : Dp K H v (ctxD s)) : KeyV K H v (ctxK s) := by
  unfold ctxK
  refine KeyV.mk ?_ (Nat.le_trans (ctxK_depth s) (by decide))
  have e := ctxK_data s
  unfold ctxK at e
  rw [e]; exact h
end LC
end
section
set_option Elab.async false
set_option linter.all false
set_option maxRecDepth 100000
set_option maxHeartbeats 4000000
/-! Walks: walls, taken. -/
namespace WK
open PySem PySem.Spec PyProof.Rows L2 HD DT2 TX TP ND EN LC
section
variable {P : Program} {w : World} {K : PySem.W.Frag} {mg : Str → Option Value} {base : Heap}
/-! ### words on dicts with nested keys -/
section
variable {H : Hp} {σ : L2.St} {D : Ends} {tu tz : TS} {g : TG} {tt : TT} {ta tb td ty te : TE} {d : Addr} {kvs : List (NestedKey × V)} {α : Type} {xs : List α} {kk : α → NestedKey} {enc f : α → PyData} {es : List Ent3} {ep : Nat}
theorem n_item (hN : IsN P w K H d kvs es ep) (hk : kvs.map (·.1) = xs.map kk) (henc : ∀ x, (kk x).data = enc x) {i : Nat} {z : Ent3} (hz : es[i]? = some z) : ∃ x, xs[i]? = some x ∧ Dp K H (.ref z.2.1) (enc x) := by
  have e := hN.keys
  rw [hk] at e
  have e2 : (xs.map kk)[i]? = some z.1 := by rw [e, List.getElem?_map, hz]; rfl
  rw [List.getElem?_map] at e2
  obtain ⟨x, hx, hz1⟩ := Option.map_eq_some_iff.mp e2
  refine ⟨x, hx, ?_⟩
  rw [← henc, hz1]
  exact (hN.key z (List.mem_of_getElem? hz)).1
theorem n_length (hN : IsN P w K H d kvs es ep) (hk : kvs.map (·.1) = xs.map kk) : es.length = xs.length := by
  have e := hN.keys
  rw [hk] at e
  have := congrArg List.length e
  rw [List.length_map, List.length_map] at this
  exact this.symm
theorem d_lcN {vs : List Nat} {j : Nat} (p : α → Bool) (f : α → PyData) (hd : Evl.Ev td σ H (.ref d)) (hn : DN P w K H d kvs) (hk : kvs.map (·.1) = xs.map kk) (henc : ∀ x, (kk x).data = enc x) (hz : xs.length ≤ 40000) (hno : ∀ x ∈ xs, p x = true → noL (f x) = true) (hw : ∀ x, wipe ((wipe σ vs).set j (some x)) vs = wipe σ vs)
    (ht : ∀ x v H1, x ∈ xs → Ex H H1 → Dp K H1 v (enc x) → Evl.EvT tt ((wipe σ vs).set j (some v)) H1 (p x)) (he : ∀ x v H1, x ∈ xs → Ex H H1 → Dp K H1 v (enc x) → p x = true → EvD K te ((wipe σ vs).set j (some v)) H1 (f x)) :
    EvD K (tLc (iN P w K td) (gName j) tt te vs) σ H (.list ((xs.filter p).map f)) := fun H0 a0 Q k =>
  hd H0 a0 _ fun H1 a1 => by
    obtain ⟨es, ep, hN⟩ := hn.ex (a0.trans a1)
    have hl := n_length hN hk
    refine ⟨d, kvs, es, ep, rfl, hN, fun Dl hD => lc_gen (J := Itn P w d es ep) (n := xs.length) (fun H' => IsN P w K H' d kvs es ep) (fun i y H' => ∃ x, xs[i]? = some x ∧ Dp K H' y (enc x)) (gat xs p f) (fun H' e => hN.ex e) hD (fun i H' hi sc => ⟨sc.at_, sc.sm, by omega⟩) (fun H' sc => ⟨sc.at_, sc.sm, by omega⟩) (fun i H' y H2 hi sc yy => ?_) rfl (fun i _ => Nat.le_trans (gat_len i) hz) (gat_no hno) ?_ (fun H' e hq => k _ H' (a1.trans e) (by rw [gat_all] at hq; exact hq))⟩
    · obtain ⟨e, z, hz1, rfl⟩ := yy
      subst e
      exact ⟨Evl.Ex.refl _, n_item sc hk henc hz1⟩
    · rintro i y H' hi e ⟨x, hx, hq⟩ Q' kq
      have hm := List.mem_of_getElem? hx
      have ee := (a0.trans a1).trans e
      exact kq _ (hw y) ⟨p x, ht x y H' hm ee hq, (gat_next hx).1, fun hp => ⟨f x, he x y H' hm ee hq hp, (gat_next hx).2 hp⟩⟩
/-- for over the keys of a dict that stays -/
theorem s_forN (hd : Evl.Ev td σ H (.ref d)) (hn : DN P w K H d kvs) (hk : kvs.map (·.1) = xs.map kk) (henc : ∀ x, (kk x).data = enc x) (Pv : Nat → L2.St → Hp → Prop) (h0 : ∀ H1, Ex H H1 → Pv 0 σ H1) (hl : ∀ i σ' H', i ≤ xs.length → Pv i σ' H' → Ex H H')
    (hs : ∀ i x y σ' H', xs[i]? = some x → Dp K H' y (enc x) → Pv i σ' H' → g y σ' H' fun σ2 H2 => tu { D with nx := Pv (i + 1), ct := Pv (i + 1), bk := D.nx } σ2 H2) (hdn : ∀ σ' H', Pv xs.length σ' H' → D.nx σ' H') : tFor (iN P w K td) g tu D σ H :=
  hd H (Evl.Ex.refl _) _ fun H1 a1 => by
    obtain ⟨es, ep, hN⟩ := hn
    have hl' := n_length hN hk
    refine ⟨d, kvs, es, ep, rfl, hN.ex a1, for_gen (J := Itn P w d es ep) (n := xs.length) (fun H H' => H' = H) Pv (fun H' => IsN P w K H' d kvs es ep) (fun i y H' => ∃ x, xs[i]? = some x ∧ Dp K H' y (enc x)) (h0 H1 a1) (fun i σ' H' hi p => hN.ex (hl i σ' H' hi p)) (fun i H' hi sc => ⟨sc.at_, sc.sm, by omega⟩) (fun H' sc => ⟨sc.at_, sc.sm, by omega⟩) (fun i H' y H2 hi sc yy => ?_) ?_ hdn⟩
    · obtain ⟨e, z, hz1, rfl⟩ := yy
      subst e
      exact ⟨rfl, n_item sc hk henc hz1⟩
    · rintro i y σ' H' H2 hi p e ⟨x, hx, hq⟩
      subst e
      exact hs i x y σ' _ hx hq p
theorem q_forN (hd : Evl.Ev td σ H (.ref d)) (hn : DN P w K H d kvs) (hk : kvs.map (·.1) = xs.map kk) (henc : ∀ x, (kk x).data = enc x) (Pv : Nat → L2.St → Hp → Prop) (h0 : ∀ H1, Ex H H1 → Pv 0 σ H1) (hl : ∀ i σ' H', i ≤ xs.length → Pv i σ' H' → Ex H H')
    (hs : ∀ i x y σ' H', xs[i]? = some x → Dp K H' y (enc x) → Pv i σ' H' → g y σ' H' fun σ2 H2 => tu { D with nx := Pv (i + 1), ct := Pv (i + 1), bk := tz D } σ2 H2) (hdn : ∀ σ' H', Pv xs.length σ' H' → tz D σ' H') : tSeq (tFor (iN P w K td) g tu) tz D σ H :=
  s_forN (D := { D with nx := tz D }) hd hn hk henc Pv h0 hl hs hdn
/-- not in, the key told by its data -/
theorem ed_nnin {dd : PyData} {k : NestedKey} (hy : EvD K ty σ H dd) (hkey : ∀ H' v, Dp K H' v dd → KeyV K H' v k) (hd : Evl.Ev td σ H (.ref d)) (hn : DN P w K H d kvs) : Evl.Ev (tNNotIn P w K ty td) σ H (.bl (!(valV kvs k).isSome)) := fun H1 a Q q =>
  hy H1 a _ fun v H2 e2 hv => hd H2 (a.trans e2) _ fun H3 e3 => ⟨d, kvs, k, rfl, hn.ex ((a.trans e2).trans e3), hkey _ _ (exd e3 hv), q H3 (e2.trans e3)⟩
theorem s_nputD {dd : PyData} {k : NestedKey} {tv : TE} {v : V} (hv : Evl.Ev tv σ H v) (hd : Evl.Ev td σ H (.ref d)) (hy : EvD K ty σ H dd) (hkey : ∀ H' v, Dp K H' v dd → KeyV K H' v k) (hn : DN P w K H d kvs) (hz : kvs.length < 100000)
    (q : ∀ H1 o, Ex H H1 → KeepS H1 (upd H1 d o) → DN P w K (upd H1 d o) d (putK kvs k v) → D.nx σ (upd H1 d o)) : sNPut P w K td ty tv D σ H := hv H (Evl.Ex.refl _) _ fun H1 e1 => hd H1 e1 _ fun H2 e2 => hy H2 (e1.trans e2) _ fun y H3 e3 hq => by
  have e := (e1.trans e2).trans e3
  exact ⟨d, kvs, k, rfl, hn.ex e, hkey _ _ hq, Evl.sz_lt hz, fun o ho => q H3 o e (KeepS.upd (hn.ex e).noSeq) ho⟩
theorem valN_mem {k : NestedKey} : (valV kvs k).isSome = true ↔ k ∈ kvs.map (·.1) := by
  rw [← valV_any, List.any_eq_true]
  constructor
  · rintro ⟨x, hx, e⟩
    exact List.mem_map.mpr ⟨x, hx, of_decide_eq_true e⟩
  · intro h
    obtain ⟨x, hx, e⟩ := List.mem_map.mp h
    exact ⟨x, hx, decide_eq_true e⟩
theorem putN_keys (k : NestedKey) (v : V) : ((putK kvs k v).map (·.1) = kvs.map (·.1) ∧ k ∈ kvs.map (·.1)) ∨ ((putK kvs k v).map (·.1) = kvs.map (·.1) ++ [k] ∧ ¬ k ∈ kvs.map (·.1)) := by
  unfold putK
  by_cases a : (kvs.any fun kv => decide (kv.1 = k)) = true
  · rw [if_pos a]
    refine .inl ⟨?_, valN_mem.mp (by rw [← valV_any]; exact a)⟩
    rw [List.map_map]
    refine List.map_congr_left fun x _ => ?_
    show (if x.1 = k then (x.1, v) else x).1 = x.1
    split <;> rfl
  · rw [if_neg a]
    refine .inr ⟨by simp, fun h => a ?_⟩
    rw [valV_any]; exact valN_mem.mpr h
theorem unmap {α β : Type} {h : α → β} {L : List α} : ∀ {ks : List β}, (∀ k ∈ ks, k ∈ L.map h) → ∃ xs : List α, ks = xs.map h ∧ ∀ x ∈ xs, x ∈ L
  | [], _ => ⟨[], rfl, fun _ hx => nomatch hx⟩
  | k :: ks, hk => by
    obtain ⟨x, hx, e⟩ := List.mem_map.mp (hk k List.mem_cons_self)
    obtain ⟨xs, e2, hm⟩ := unmap (ks := ks) fun z hz => hk z (List.mem_cons_of_mem _ hz)
    refine ⟨x :: xs, by rw [List.map_cons, e, e2], fun y hy => ?_⟩
    rcases List.mem_cons.mp hy with rfl | hy
    · exact hx
    · exact hm y hy
theorem d_catT {as bs : List PyData} (ha : EvD K ta σ H (.tuple as)) (hb : EvD K tb σ H (.tuple bs)) (hz : as.length + bs.length ≤ 100000) : EvD K (tOp (rCatA K) ta tb) σ H (.tuple (as ++ bs)) := fun H1 a Q k =>
  ha H1 a _ fun v H2 e2 q => hb H2 (a.trans e2) _ fun u H3 e3 r => by
    obtain ⟨p1, x1, rfl, g1, g2⟩ := dp_tup (exd e3 q)
    obtain ⟨p2, x2, rfl, g3, g4⟩ := dp_tup r
    have l1 := g2.length
    have l2 := g4.length
    refine ⟨p1, p2, x1, x2, rfl, rfl, g1, g3, Evl.sz_of (by omega), fun h0 => ?_, fun _ h0 => ?_, fun _ _ p hp => ?_⟩
    · subst h0
      have : as = [] := List.length_eq_zero_iff.mp l1.symm
      subst this
      exact k _ H3 (e2.trans e3) (.tup g3 g4)
    · subst h0
      have : bs = [] := List.length_eq_zero_iff.mp l2.symm
      subst this
      exact k _ H3 (e2.trans e3) (by rw [List.append_nil]; exact .tup g1 g2)
    · exact k _ _ ((e2.trans e3).trans (Evl.Ex.new hp)) (.tup (.of upd_same) (exa (Evl.Ex.new hp) (g2.append g4)))
/-- list(a) + list(b) -/
theorem d_catLL {as bs : List PyData} (ha : EvD K ta σ H (.list as)) (hb : EvD K tb σ H (.list bs)) (hz : as.length + bs.length ≤ 100000) :
    EvD K (tOp rCat (tCB (fun xs H Q => ∃ p ys, xs = [.ref p] ∧ (SqL K H p ys ∨ SqT K H p ys) ∧ ∀ l, H l = none → Q (.ref l) (upd H l (.lst ys))) (tCons ta tNil)) (tCB (fun xs H Q => ∃ p ys, xs = [.ref p] ∧ (SqL K H p ys ∨ SqT K H p ys) ∧ ∀ l, H l = none → Q (.ref l) (upd H l (.lst ys))) (tCons tb tNil))) σ H (.list (as ++ bs)) := fun H1 a Q k =>
  ha H1 a _ fun v H2 e2 q => by
    obtain ⟨p1, x1, rfl, g1, g2⟩ := dp_lst q
    refine ⟨p1, x1, rfl, .inl g1, fun l1 hl1 => ?_⟩
    have e3 := Evl.Ex.new (o := .lst x1) hl1
    refine hb _ ((a.trans e2).trans e3) _ fun u H4 e4 r => ?_
    obtain ⟨p2, x2, rfl, g3, g4⟩ := dp_lst r
    refine ⟨p2, x2, rfl, .inl g3, fun l2 hl2 => ?_⟩
    have e5 := Evl.Ex.new (o := .lst x2) hl2
    have n1 := g2.length
    have n2 := g4.length
    refine ⟨l1, l2, x1, x2, rfl, rfl, e5 _ _ (e4 _ _ upd_same), upd_same, Evl.sz_of (by omega), fun p hp => ?_⟩
    have e6 := Evl.Ex.new (o := .lst (x1 ++ x2)) hp
    exact k _ _ ((((e2.trans e3).trans e4).trans e5).trans e6) (.lst (.of upd_same) ((exa (((e3.trans e4).trans e5).trans e6) g2).append (exa (e5.trans e6) g4)))
theorem un5 {i j l m o : Nat} {d1 d2 d3 d4 d5 : PyData} {xs : List V} {k : L2.St → Hp → Prop} (h : DpAll K H xs [d1, d2, d3, d4, d5]) (q : ∀ v1 v2 v3 v4 v5, Dp K H v1 d1 → Dp K H v2 d2 → Dp K H v3 d3 → Dp K H v4 d4 → Dp K H v5 d5 → k (((((σ.set i (some v1)).set j (some v2)).set l (some v3)).set m (some v4)).set o (some v5)) H) :
    gCons (gName i) (gCons (gName j) (gCons (gName l) (gCons (gName m) (gCons (gName o) gNil)))) xs σ H k := by
  cases h with
  | cons h1 h2 =>
    cases h2 with
    | cons h2 h3 =>
      cases h3 with
      | cons h3 h4 =>
        cases h4 with
        | cons h4 h5 =>
          cases h5 with
          | cons h5 h6 =>
            cases h6
            exact ⟨_, _, rfl, _, _, rfl, _, _, rfl, _, _, rfl, _, _, rfl, rfl, q _ _ _ _ _ h1 h2 h3 h4 h5⟩
end
/-! ### is_gram, is_context, is_row -/
def RGram : List Ag → PyData → Hp → Prop := fun as d _ => ∃ g, ∃ n c : Nat, as = [.d (gramD g), .v (.int (n : Nat)), .v (.int (c : Nat))] ∧ GramOk n c g ∧ n ≤ 1000 ∧ d = .bool true
theorem all_true {α : Type} (l : List α) : (l.map fun _ => PyData.bool true) = (l.map fun _ => true).map PyData.bool := by rw [List.map_map]; rfl
theorem all_id {α : Type} : ∀ l : List α, ((l.map fun _ => true).all id) = true
  | [] => rfl
  | _ :: l => by rw [List.map_cons, List.all_cons, all_id l]; rfl
theorem sc_is_gram : FnScope ["gram", "width", "signs", "sign"] ["gram", "width", "signs"] (defScope (top 36)) := ⟨rfl, rfl, rfl, by decide +kernel, rfl, by decide +kernel, by decide +kernel⟩
theorem h_is_gram (T : Top K mg) : Has P w K mg base "is_gram" ["gram", "width", "signs"] 2 (SpD K RGram) := by
  have H_is_number : Has P w K mg base "is_number" ["thing", "many"] 1 (SpD K RNum) := h_is_number T
  refine mk_has T 20 rfl rfl (fun _ _ _ _ _ _ us hl => match us, hl with | [_, _, _], _ => rfl) fun fd F => ?_
  refine F.ok sc_is_gram (fun vs H Q E h => len_of h fun as d H h => by obtain ⟨_, _, _, rfl, _⟩ := h; rfl) fun cdv A outer s H vs Q E hr h => ⟨_, PSs.nox (pss_cons (ps_if (PW.pt (pw_or (pt_not (pt_val (pe_callB call_isi (by rfl) (T.free 49) (by decide +kernel) (pa_cons (pv 0) (pa_cons (pe_bltn (v := .ty "tuple") (by rfl) (T.free 52) (by decide +kernel) rfl) pa_nil))))) (pw_or1 (pt_cmpR op_ne (pe_callB call_len_seq (by rfl) (T.free 56) (by decide +kernel) (pa_cons (pv 0) pa_nil)) (pv 1) (nomark _))))) (pss_one (ps_ret pe_bl)) pss_nil)
      (pss_one (ps_ret (pe_callB (cr_all rfl) (by rfl) (T.free 57) (by decide +kernel) (pa_cons (pe_lc (own := [("sign", 3)]) (g := (gName 3)) (tt := tYes) rfl sc_is_gram.nd (pi_tup (pv 0)) (blkOk_by (N := ["gram", "width", "signs", "sign"]) (sc := defScope (top 36)) (by decide +kernel)) (fun _ _ _ _ _ => (pg_name (i := 3) sc_is_gram.nd rfl (Or.inl rfl))) (fun _ _ _ _ _ => pts_nil) (fun _ _ _ _ _ => (pe_callH H_is_number (hr.mono (by decide)) (pa_cons (pv 3) (pa_cons (pv 2) pa_nil))))) pa_nil))))), ?_⟩
  obtain ⟨as, d, ha, ⟨g, n, c, rfl, hg, hz, rfl⟩, k⟩ := h
  obtain ⟨x, y, z, rfl, h1, rfl, rfl⟩ := ags3 ha
  refine Evl.q_when (b := false) (Evl.et_is (Evl.et_or (a := false) (b := false) (Evl.et_not (a := true) (Evl.et_B (d_isi (dv rfl h1) kit_tuple_tuple))) fun _ => Evl.et_is (Evl.et_test (Evl.ev_op (lenT (n := n) (dv rfl h1) (by rw [List.length_map]; exact hg.1)) (Evl.ev_var rfl) (Evl.rv_ne rfl))) (by rw [eq_yes rfl]; rfl)) rfl) (fun z => nomatch z) fun _ H1 e1 => ?_
  have h1' := exd e1 h1
  refine sD_ret (Ev.bl (Evl.ev_is (d_all (bs := g.map fun _ => true) (d_is (d_lcT (xs := g) (enc := fun (n : Nat) => PyData.int n) (fun _ => true) (fun _ => PyData.bool true) (dv rfl h1') (by have := hg.1; omega) (fun _ _ _ => rfl) (fun _ => rfl) (fun _ _ _ _ _ _ => et_yes) fun a v H2 ha e2 q _ => ?_) (by rw [filter_yes, all_true]))) (by rw [all_id]))) fun v H2 e2 q => k v H2 (e1.trans e2) q
  cases q
  exact Ev.bl (ev_isnum (Evl.ev_var rfl) (Evl.ev_var rfl) (hg.2 a ha))
def RCtx (K : PySem.W.Frag) : List Ag → PyData → Hp → Prop := fun as d H => ∃ m T S c x n, as = [.v (.ref m), .d (ctxD x), .v (.int (n : Nat))] ∧ MachAt K H m T ∧ TblOk T S c ∧ CtxOk n S c x ∧ n ≤ 1000 ∧ d = .bool true
theorem ev_signs {H : Hp} {σ : L2.St} {E : XK} {te : TE} {m S c : Nat} {Tb : Tbl} (h : Evl.Ev te σ H (.ref m)) (hm : MachAt K H m Tb) (hT : TblOk Tb S c) : Evl.Ev (tCall (SpD K (RSigns K)) [] E (tCons te tNil)) σ H (.int (c : Nat)) :=
  EvD.int (d_call (as_v h as_nil) fun H2 e2 => ⟨m, Tb, S, c, rfl, hm.ex e2, hT, rfl⟩)
theorem ev_states {H : Hp} {σ : L2.St} {E : XK} {te : TE} {m S c : Nat} {Tb : Tbl} (h : Evl.Ev te σ H (.ref m)) (hm : MachAt K H m Tb) (hT : TblOk Tb S c) : Evl.Ev (tCall (SpD K (RStates K)) [] E (tCons te tNil)) σ H (.int (S : Nat)) :=
  EvD.int (d_call (as_v h as_nil) fun H2 e2 => ⟨m, Tb, S, c, rfl, hm.ex e2, hT, rfl⟩)
theorem ev_gram {H : Hp} {σ : L2.St} {E : XK} {ta tb tc : TE} {g : Gram} {n c : Nat} (h : EvD K ta σ H (gramD g)) (hb : Evl.Ev tb σ H (.int (n : Nat))) (hc : Evl.Ev tc σ H (.int (c : Nat))) (hg : GramOk n c g) (hz : n ≤ 1000) : Evl.Ev (tCall (SpD K RGram) [] E (tCons ta (tCons tb (tCons tc tNil)))) σ H (.bl true) :=
  EvD.bl (d_call (as_d h (as_v hb (as_v hc as_nil))) fun H2 e2 => ⟨g, n, c, rfl, hg, hz, rfl⟩)
theorem sc_is_context : FnScope ["machine", "thing", "width", "left", "state", "sign", "right", "signs"] ["machine", "thing", "width"] (defScope (top 37)) := ⟨rfl, rfl, rfl, by decide +kernel, rfl, by decide +kernel, by decide +kernel⟩
theorem h_is_context (T : Top K mg) : Has P w K mg base "is_context" ["machine", "thing", "width"] 3 (SpD K (RCtx K)) := by
  have H_is_number : Has P w K mg base "is_number" ["thing", "many"] 1 (SpD K RNum) := h_is_number T
  have H_states_of : Has P w K mg base "states_of" ["machine"] 1 (SpD K (RStates K)) := h_states_of T
  have H_signs_of : Has P w K mg base "signs_of" ["machine"] 1 (SpD K (RSigns K)) := h_signs_of T
  have H_is_gram : Has P w K mg base "is_gram" ["gram", "width", "signs"] 2 (SpD K RGram) := h_is_gram T
  refine mk_has T 21 rfl rfl (fun _ _ _ _ _ _ us hl => match us, hl with | [_, _, _], _ => rfl) fun fd F => ?_
  refine F.ok sc_is_context (fun vs H Q E h => len_of h fun as d H h => by obtain ⟨_, _, _, _, _, _, rfl, _⟩ := h; rfl) fun cdv A outer s H vs Q E hr h => ⟨_, PSs.nox (pss_cons (ps_if (PW.pt (pw_or (pt_not (pt_val (pe_callB call_isi (by rfl) (T.free 49) (by decide +kernel) (pa_cons (pv 1) (pa_cons (pe_bltn (v := .ty "tuple") (by rfl) (T.free 52) (by decide +kernel) rfl) pa_nil))))) (pw_or1 (pt_cmpR op_ne (pe_callB call_len_seq (by rfl) (T.free 56) (by decide +kernel) (pa_cons (pv 1) pa_nil)) pe_int (nomark _))))) (pss_one (ps_ret pe_bl)) pss_nil)
      (pss_cons (ps_asg (pv 1) (pg_tup rfl (pgs_cons (pg_name (i := 3) sc_is_context.nd rfl (Or.inl rfl)) (pgs_cons (pg_name (i := 4) sc_is_context.nd rfl (Or.inl rfl)) (pgs_cons (pg_name (i := 5) sc_is_context.nd rfl (Or.inl rfl)) (pgs_cons (pg_name (i := 6) sc_is_context.nd rfl (Or.inl rfl)) pgs_nil))))))
      (pss_cons (ps_set (i := 7) sc_is_context.nd rfl (Or.inl rfl) (pe_callH H_signs_of (hr.mono (by decide)) (pa_cons (pv 0) pa_nil)))
      (pss_cons (ps_if (PW.pt (pw_or (pt_not (pt_val (pe_callH H_is_number (hr.mono (by decide)) (pa_cons (pv 4) (pa_cons (pe_callH H_states_of (hr.mono (by decide)) (pa_cons (pv 0) pa_nil)) pa_nil))))) (pw_or1 (pt_not (pt_val (pe_callH H_is_number (hr.mono (by decide)) (pa_cons (pv 5) (pa_cons (pv 7) pa_nil)))))))) (pss_one (ps_ret pe_bl)) pss_nil)
      (pss_one (ps_ret (pe_and (pe_callH H_is_gram (hr.mono (by decide)) (pa_cons (pv 3) (pa_cons (pv 2) (pa_cons (pv 7) pa_nil)))) (pe_one (pe_callH H_is_gram (hr.mono (by decide)) (pa_cons (pv 6) (pa_cons (pv 2) (pa_cons (pv 7) pa_nil)))))))))))), ?_⟩
  obtain ⟨as, d, ha, ⟨m, Tb, S, c, x, n, rfl, hm, hT, hx, hz, rfl⟩, k⟩ := h
  obtain ⟨x1, y, z, rfl, rfl, h1, rfl⟩ := ags3 ha
  obtain ⟨g1, s1, s2, g2⟩ := hx
  refine Evl.q_when (b := false) (Evl.et_is (Evl.et_or (a := false) (b := false) (Evl.et_not (a := true) (Evl.et_B (d_isi (dv rfl h1) kit_tuple_tuple))) fun _ => Evl.et_is (Evl.et_test (Evl.ev_op (lenT (n := 4) (dv rfl h1) rfl) Evl.ev_c (Evl.rv_ne rfl))) rfl) rfl) (fun z => nomatch z) fun _ H1 e1 => ?_
  refine qD_un (ds := [gramD x.1, .int x.2.1, .int x.2.2.1, gramD x.2.2.2]) (dv rfl (exd e1 h1)) rfl fun xs H2 e2 hx => un4 hx fun v1 v2 v3 v4 q1 q2 q3 q4 => ?_
  cases q2
  cases q3
  have hm2 := hm.ex (e1.trans e2)
  refine Evl.q_asg (ev_signs (Evl.ev_var rfl) hm2 hT) fun H3 e3 => ?_
  refine Evl.q_when (b := false) (Evl.et_or (a := false) (b := false) (Evl.et_not (a := true) (Evl.et_B (ev_isnum (Evl.ev_var rfl) (ev_states (Evl.ev_var rfl) (hm2.ex e3) hT) s1))) fun _ => Evl.et_not (a := true) (Evl.et_B (ev_isnum (Evl.ev_var rfl) (Evl.ev_var rfl) s2))) (fun z => nomatch z) fun _ H4 e4 => ?_
  exact sD_ret (Ev.bl (Evl.ev_andV (a := true) (b := true) (ev_gram (dv rfl (exd (e3.trans e4) q1)) (Evl.ev_var rfl) (Evl.ev_var rfl) g1 hz) fun _ => ev_gram (dv rfl (exd (e3.trans e4) q4)) (Evl.ev_var rfl) (Evl.ev_var rfl) g2 hz)) fun v H5 e5 q => k v H5 ((((e1.trans e2).trans e3).trans e4).trans e5) q
def RRow : List Ag → PyData → Hp → Prop := fun as d _ => ∃ ds, as = [.d (.list ds)] ∧ d = .bool true
theorem sc_is_row : FnScope ["thing"] ["thing"] (defScope (top 38)) := ⟨rfl, rfl, rfl, by decide +kernel, rfl, by decide +kernel, by decide +kernel⟩
theorem h_is_row (T : Top K mg) : Has P w K mg base "is_row" ["thing"] 1 (SpD K RRow) := by
  refine mk_has T 22 rfl rfl (fun _ _ _ _ _ _ us hl => match us, hl with | [_], _ => rfl) fun fd F => ?_
  refine F.ok sc_is_row (fun vs H Q E h => len_of h fun as d H h => by obtain ⟨_, rfl, _⟩ := h; rfl) fun cdv A outer s H vs Q E hr h => ⟨_, PSs.nox (pss_one (ps_ret (pe_or (pe_callB call_isi (by rfl) (T.free 49) (by decide +kernel) (pa_cons (pv 0) (pa_cons (pe_bltn (v := .ty "list") (by rfl) (T.free 53) (by decide +kernel) rfl) pa_nil))) (pe_one (pe_callB call_isi (by rfl) (T.free 49) (by decide +kernel) (pa_cons (pv 0) (pa_cons (pe_bltn (v := .ty "tuple") (by rfl) (T.free 52) (by decide +kernel) rfl) pa_nil))))))), ?_⟩
  obtain ⟨as, d, ha, ⟨ds, rfl, rfl⟩, k⟩ := h
  obtain ⟨x, rfl, h1⟩ := ags1 ha
  exact sD_ret (Ev.bl (Evl.ev_orV (a := true) (b := true) (d_isi (dv rfl h1) kit_list_list) (fun z => nomatch z))) fun v H5 e5 q => k v H5 e5 q
/-! ### wall_formed -/
def wallD (n : Nat) (L R : List Gram) (C : List Cxt) : PyData := .tuple [.str "wall", .int (n : Nat), .list (L.map gramD), .list (R.map gramD), .list (C.map ctxD)]
def WallArg (K : PySem.W.Frag) (as : List Ag) (H : Hp) : Prop := ∃ m T S c n L R C, as = [.v (.ref m), .d (wallD n L R C)] ∧ MachAt K H m T ∧ TblOk T S c ∧ WallOk T S c n L R C ∧ n ≤ 1000 ∧ L.length ≤ 10000 ∧ R.length ≤ 10000 ∧ C.length ≤ 10000
def RWall (K : PySem.W.Frag) : List Ag → PyData → Hp → Prop := fun as d H => WallArg K as H ∧ d = .bool true
theorem ev_row {H : Hp} {σ : L2.St} {E : XK} {te : TE} {ds : List PyData} (h : EvD K te σ H (.list ds)) : Evl.Ev (tCall (SpD K RRow) [] E (tCons te tNil)) σ H (.bl true) := EvD.bl (d_call (as_d h as_nil) fun H2 e2 => ⟨ds, rfl, rfl⟩)
theorem sc_wall_formed : FnScope ["machine", "paper", "kind", "width", "lefts", "rights", "contexts", "signs", "gram", "thing"] ["machine", "paper"] (defScope (top 39)) := ⟨rfl, rfl, rfl, by decide +kernel, rfl, by decide +kernel, by decide +kernel⟩
theorem h_wall_formed (T : Top K mg) : Has P w K mg base "wall_formed" ["machine", "paper"] 4 (SpD K (RWall K)) := by
  have H_is_gram : Has P w K mg base "is_gram" ["gram", "width", "signs"] 2 (SpD K RGram) := h_is_gram T
  have H_is_context : Has P w K mg base "is_context" ["machine", "thing", "width"] 3 (SpD K (RCtx K)) := h_is_context T
  have H_is_row : Has P w K mg base "is_row" ["thing"] 1 (SpD K RRow) := h_is_row T
  have H_signs_of : Has P w K mg base "signs_of" ["machine"] 1 (SpD K (RSigns K)) := h_signs_of T
  refine mk_has T 23 rfl rfl (fun _ _ _ _ _ _ us hl => match us, hl with | [_, _], _ => rfl) fun fd F => ?_
  refine F.ok sc_wall_formed (fun vs H Q E h => len_of h fun as d H h => by obtain ⟨⟨_, _, _, _, _, _, _, _, rfl, _⟩, _⟩ := h; rfl) fun cdv A outer s H vs Q E hr h => ⟨_, PSs.nox (pss_cons (ps_if (PW.pt (pw_or (pt_not (pt_val (pe_callB call_isi (by rfl) (T.free 49) (by decide +kernel) (pa_cons (pv 1) (pa_cons (pe_bltn (v := .ty "tuple") (by rfl) (T.free 52) (by decide +kernel) rfl) pa_nil))))) (pw_or (pt_cmpR op_ne (pe_callB call_len_seq (by rfl) (T.free 56) (by decide +kernel) (pa_cons (pv 1) pa_nil)) pe_int (nomark _)) (pw_or1 (pt_cmpR op_ne (pe_ix ix_tup (pv 1) pe_int (fun _ _ => rfl)) pe_str (nomark _)))))) (pss_one (ps_ret pe_bl)) pss_nil)
      (pss_cons (ps_asg (pv 1) (pg_tup rfl (pgs_cons (pg_name (i := 2) sc_wall_formed.nd rfl (Or.inl rfl)) (pgs_cons (pg_name (i := 3) sc_wall_formed.nd rfl (Or.inr rfl)) (pgs_cons (pg_name (i := 4) sc_wall_formed.nd rfl (Or.inl rfl)) (pgs_cons (pg_name (i := 5) sc_wall_formed.nd rfl (Or.inl rfl)) (pgs_cons (pg_name (i := 6) sc_wall_formed.nd rfl (Or.inl rfl)) pgs_nil)))))))
      (pss_cons (ps_if (PW.pt (pw_or (pt_not (pt_val (pe_callB call_isi (by rfl) (T.free 49) (by decide +kernel) (pa_cons (pv 3) (pa_cons (pe_bltn (v := .ty "int") (by rfl) (T.free 50) (by decide +kernel) rfl) pa_nil))))) (pw_or (pt_val (pe_callB call_isi (by rfl) (T.free 49) (by decide +kernel) (pa_cons (pv 3) (pa_cons (pe_bltn (v := .ty "bool") (by rfl) (T.free 51) (by decide +kernel) rfl) pa_nil)))) (pw_or1 (pt_cmpR op_lt (pv 3) pe_int (nomark _)))))) (pss_one (ps_ret pe_bl)) pss_nil)
      (pss_cons (ps_if (PW.pt (pw_or (pt_not (pt_val (pe_callH H_is_row (hr.mono (by decide)) (pa_cons (pv 4) pa_nil)))) (pw_or (pt_not (pt_val (pe_callH H_is_row (hr.mono (by decide)) (pa_cons (pv 5) pa_nil)))) (pw_or1 (pt_not (pt_val (pe_callH H_is_row (hr.mono (by decide)) (pa_cons (pv 6) pa_nil)))))))) (pss_one (ps_ret pe_bl)) pss_nil)
      (pss_cons (ps_set (i := 7) sc_wall_formed.nd rfl (Or.inr rfl) (pe_callH H_signs_of (hr.mono (by decide)) (pa_cons (pv 0) pa_nil)))
      (pss_cons (ps_if (pt_not (pt_val (pe_callB (cr_all rfl) (by rfl) (T.free 57) (by decide +kernel) (pa_cons (pe_lc (own := [("gram", 8)]) (g := (gName 8)) (tt := tYes) rfl sc_wall_formed.nd (pi_list (pe_op op_cat (pe_callTy call_list_of (by rfl) (T.free 53) (by decide +kernel) (pa_cons (pv 4) pa_nil)) (pe_callTy call_list_of (by rfl) (T.free 53) (by decide +kernel) (pa_cons (pv 5) pa_nil)))) (blkOk_by (N := ["machine", "paper", "kind", "width", "lefts", "rights", "contexts", "signs", "gram", "thing"]) (sc := defScope (top 39)) (by decide +kernel)) (fun _ _ _ _ _ => (pg_name (i := 8) sc_wall_formed.nd rfl (Or.inl rfl))) (fun _ _ _ _ _ => pts_nil) (fun _ _ _ _ _ => (pe_callH H_is_gram (hr.mono (by decide)) (pa_cons (pv 8) (pa_cons (pv 3) (pa_cons (pv 7) pa_nil)))))) pa_nil)))) (pss_one (ps_ret pe_bl)) pss_nil)
      (pss_one (ps_ret (pe_callB (cr_all rfl) (by rfl) (T.free 57) (by decide +kernel) (pa_cons (pe_lc (own := [("thing", 9)]) (g := (gName 9)) (tt := tYes) rfl sc_wall_formed.nd (pi_list (pv 6)) (blkOk_by (N := ["machine", "paper", "kind", "width", "lefts", "rights", "contexts", "signs", "gram", "thing"]) (sc := defScope (top 39)) (by decide +kernel)) (fun _ _ _ _ _ => (pg_name (i := 9) sc_wall_formed.nd rfl (Or.inl rfl))) (fun _ _ _ _ _ => pts_nil) (fun _ _ _ _ _ => (pe_callH H_is_context (hr.mono (by decide)) (pa_cons (pv 0) (pa_cons (pv 9) (pa_cons (pv 3) pa_nil)))))) pa_nil)))))))))), ?_⟩
  obtain ⟨as, d, ha, ⟨⟨m, Tb, S, c, n, L, R, C, rfl, hm, hT, hW, hn, zL, zR, zC⟩, rfl⟩, k⟩ := h
  obtain ⟨x1, y, rfl, rfl, h1⟩ := ags2 ha
  have pos := hW.pos
  refine Evl.q_when (b := false) (Evl.et_or (a := false) (b := false) (Evl.et_not (a := true) (Evl.et_B (d_isi (dv rfl h1) kit_tuple_tuple))) fun _ => Evl.et_or (a := false) (b := false) (Evl.et_is (Evl.et_test (Evl.ev_op (lenT (n := 5) (dv rfl h1) rfl) Evl.ev_c (Evl.rv_ne rfl))) rfl) fun _ => Evl.et_is (Evl.et_test (Evl.ev_op (EvD.str (d_ixT (d := .str "wall") (dv rfl h1) Evl.ev_c rfl)) Evl.ev_c (Evl.rv_ne rfl))) rfl) (fun z => nomatch z) fun _ H1 e1 => ?_
  refine qD_un (ds := [.str "wall", .int (n : Nat), .list (L.map gramD), .list (R.map gramD), .list (C.map ctxD)]) (dv rfl (exd e1 h1)) rfl fun xs H2 e2 hx => un5 hx fun v1 v2 v3 v4 v5 q1 q2 q3 q4 q5 => ?_
  cases q1
  cases q2
  refine Evl.q_when (b := false) (Evl.et_or (a := false) (b := false) (Evl.et_not (a := true) (Evl.et_B (d_isi (dv rfl (.int (n : Nat))) kit_int_int))) fun _ => Evl.et_or (a := false) (b := false) (Evl.et_B (d_isi (dv rfl (.int (n : Nat))) kit_int_bool)) fun _ => Evl.et_is (Evl.et_test (Evl.ev_op (Evl.ev_var rfl) Evl.ev_c Evl.rv_I0)) (decide_eq_false (by omega))) (fun z => nomatch z) fun _ H3 e3 => ?_
  refine Evl.q_when (b := false) (Evl.et_or (a := false) (b := false) (Evl.et_not (a := true) (Evl.et_B (ev_row (dv rfl (exd e3 q3))))) fun _ => Evl.et_or (a := false) (b := false) (Evl.et_not (a := true) (Evl.et_B (ev_row (dv rfl (exd e3 q4))))) fun _ => Evl.et_not (a := true) (Evl.et_B (ev_row (dv rfl (exd e3 q5))))) (fun z => nomatch z) fun _ H4 e4 => ?_
  have e24 := e3.trans e4
  have hm4 := hm.ex ((e1.trans e2).trans e24)
  refine Evl.q_asg (ev_signs (Evl.ev_var rfl) hm4 hT) fun H5 e5 => ?_
  have e25 := e24.trans e5
  refine Evl.q_when (b := false) (Evl.et_not (a := true) (Evl.et_B (Evl.ev_is (d_all (bs := (L ++ R).map fun _ => true) (d_is (d_lcL (xs := L ++ R) (enc := gramD) (fun _ => true) (fun _ => PyData.bool true) (d_is (d_catLL (dv rfl (exd e25 q3)) (dv rfl (exd e25 q4)) (by rw [List.length_map, List.length_map]; omega)) (by rw [List.map_append])) (by rw [List.length_append]; omega) (fun _ _ _ => rfl) (fun _ => rfl) (fun _ _ _ _ _ _ => et_yes) fun a v H6 ha e6 q _ => ?_) (by rw [filter_yes, all_true]))) (by rw [all_id])))) (fun z => nomatch z) fun _ H6 e6 => ?_
  · refine Ev.bl (ev_gram (dv rfl q) (Evl.ev_var rfl) (Evl.ev_var rfl) ?_ hn)
    rcases List.mem_append.mp ha with ha | ha
    · exact hW.okL a ha
    · exact hW.okR a ha
  · have e26 := e25.trans e6
    refine sD_ret (Ev.bl (Evl.ev_is (d_all (bs := C.map fun _ => true) (d_is (d_lcL (xs := C) (enc := ctxD) (fun _ => true) (fun _ => PyData.bool true) (dv rfl (exd e26 q5)) (by omega) (fun _ _ _ => rfl) (fun _ => rfl) (fun _ _ _ _ _ _ => et_yes) fun a v H7 ha e7 q _ => ?_) (by rw [filter_yes, all_true]))) (by rw [all_id]))) fun v H7 e7 q => k v H7 (((e1.trans e2).trans e26).trans e7) q
    exact d_call (as_v (Evl.ev_var rfl) (as_d (dv rfl q) (as_v (Evl.ev_var rfl) as_nil))) fun H8 e8 => ⟨m, Tb, S, c, a, n, rfl, ((hm4.ex (e5.trans e6)).ex e7).ex e8, hT, hW.okC a ha, hn, rfl⟩
/-! ### names_of -/
def TupK (k : NestedKey) : Prop := (∃ l, k = .tup l) ∧ k.depth ≤ 8
theorem keyV_of {H : Hp} {v : V} {k : NestedKey} (h : TupK k) (q : Dp K H v k.data) : KeyV K H v k := by
  obtain ⟨⟨l, rfl⟩, hd⟩ := h
  exact KeyV.mk q hd
def spNames (P : Program) (w : World) (K : PySem.W.Frag) : Sp := fun vs H Q _ => ∃ (x : V) (ks : List NestedKey), vs = [x] ∧ Dp K H x (.list (ks.map NestedKey.data)) ∧ (∀ k ∈ ks, TupK k) ∧ ks.length ≤ 40000 ∧
  ∀ H' d kvs, Ex H H' → H d = none → DN P w K H' d kvs → (∀ k, k ∈ kvs.map (·.1) ↔ k ∈ ks) → kvs.length ≤ 40000 → Q (.ref d) H'
theorem sc_names_of : FnScope ["things", "found", "thing"] ["things"] (defScope (top 40)) := ⟨rfl, rfl, rfl, by decide +kernel, rfl, by decide +kernel, by decide +kernel⟩
theorem h_names_of (T : Top K mg) : Has P w K mg base "names_of" ["things"] 1 (spNames P w K) := by
  refine mk_has T 24 rfl rfl (fun _ _ _ _ _ _ us hl => match us, hl with | [_], _ => rfl) fun fd F => ?_
  refine F.ok sc_names_of (fun vs H Q E h => by obtain ⟨_, _, rfl, _⟩ := h; rfl) fun cdv A outer s H vs Q E hr h => ⟨_, PSs.nox (pss_cons (ps_set (i := 1) sc_names_of.nd rfl (Or.inl rfl) pe_nnew)
      (pss_cons (ps_for PassesOwn.never rfl (pi_list (pv 0)) (pg_name (i := 2) sc_names_of.nd rfl (Or.inl rfl)) (pss_one (ps_nput hr.units (pv 1) (pv 2) pe_bl rfl)))
      (pss_one (ps_ret (pv 1))))), ?_⟩
  obtain ⟨x, ks, rfl, hx, ok, hz, k⟩ := h
  refine q_nnew fun e H1 he e1 hD => ?_
  refine qD_forL (dv rfl (exd e1 hx)) (fun v i σ' H' => ∃ u kvs, σ' = [some x, some (.ref e), u] ∧ Ex H H' ∧ Dp K H' v (.list (ks.map NestedKey.data)) ∧ DN P w K H' e kvs ∧ kvs.length ≤ i ∧ ∀ k, k ∈ kvs.map (·.1) ↔ k ∈ ks.take i)
    (fun v H2 e2 q => ⟨none, [], rfl, e1.trans e2, q, hD.ex e2, Nat.zero_le _, fun k => by simp⟩) (fun v i σ' H' _ ⟨_, _, _, _, h, _⟩ => h) ?_ ?_
  · rintro v i y dd σ' H' hi hy ⟨u, kvs, rfl, e2, qv, hN, hl, hk⟩
    rw [List.getElem?_map] at hi
    obtain ⟨ky, hi2, rfl⟩ := Option.map_eq_some_iff.mp hi
    have hil := (List.getElem?_eq_some_iff.mp hi2).1
    refine s_nput Evl.ev_c (Evl.ev_var rfl) (Evl.ev_var rfl) hN (keyV_of (ok ky (List.mem_of_getElem? hi2)) hy) (by omega) fun H3 o e3 k3 hN3 => ?_
    refine ⟨_, _, rfl, Evl.Ex.mut (e2.trans e3) he, Dp.keep k3 _ _ (exd e3 qv), hN3, ?_, fun kz => ?_⟩
    · have := length_putK kvs ky (V.bl true); omega
    · have et : ks.take (i + 1) = ks.take i ++ [ky] := by rw [List.take_add_one, hi2]; rfl
      rw [et, List.mem_append, List.mem_singleton, ← hk]
      rcases putN_keys (kvs := kvs) ky (.bl true) with ⟨ez, hm⟩ | ⟨ez, _⟩
      · rw [ez]
        exact ⟨.inl, fun z => z.elim id fun z => z ▸ hm⟩
      · rw [ez, List.mem_append, List.mem_singleton]
  · rintro v σ' H' ⟨u, kvs, rfl, e2, qv, hN, hl, hk⟩
    rw [List.length_map] at hl hk
    rw [List.take_length] at hk
    exact Evl.s_ret (Evl.ev_var rfl) fun H3 e3 => k H3 e kvs (e2.trans e3) he (hN.ex e3) hk (by omega)
end
end WK
end
section
set_option Elab.async false
set_option linter.all false
set_option maxRecDepth 100000
set_option maxHeartbeats 4000000
/-! Walks: walls, what stands behind a context; taken. -/
namespace WK
open PySem PySem.Spec PyProof.Rows L2 HD DT2 TX TP ND EN LC
section
variable {P : Program} {w : World} {K : PySem.W.Frag} {mg : Str → Option Value} {base : Heap}
/-! ### slices of grams -/
theorem cut_init (l : List PyData) : cutD l none (some (-1)) = l.dropLast := by
  unfold cutD
  have e : HT.sIx l.length l.length (some (-1)) = l.length - 1 := by
    show (if (-1 : Int) < 0 then ((-1 : Int) + (l.length : Int)).toNat else min (-1 : Int).toNat l.length) = _
    rw [if_pos (by decide)]
    omega
  rw [e, HT.sIx_none, List.drop_zero, List.dropLast_eq_take]
  rfl
theorem cut_tail (l : List PyData) : cutD l (some 1) none = l.tail := by
  unfold cutD
  have e : HT.sIx l.length 0 (some 1) = min 1 l.length := HT.sIx_nat l.length 0 1
  rw [e, HT.sIx_none]
  cases l with
  | nil => rfl
  | cons a l =>
    rw [List.length_cons, Nat.min_eq_left (by omega), List.drop_succ_cons, List.drop_zero, List.tail_cons, List.take_of_length_le (by omega)]
theorem gram_init (g : Gram) : PyData.tuple (cutD (g.map fun (n : Nat) => PyData.int n) none (some (-1))) = gramD g.dropLast := by
  rw [cut_init, ← List.map_dropLast]; rfl
theorem gram_tail (g : Gram) : PyData.tuple (cutD (g.map fun (n : Nat) => PyData.int n) (some 1) none) = gramD g.tail := by
  rw [cut_tail, ← List.map_tail]; rfl
theorem d_init {σ : L2.St} {H : Hp} {te : TE} {g : Gram} (h : EvD K te σ H (gramD g)) : EvD K (tSl (rSlA K) te tNoPart (tPart (tUn (rU fun i => .int (-i)) (tC (.int 1))))) σ H (gramD g.dropLast) :=
  d_is (d_sl h Evl.eo_none (Evl.eo_some (Evl.ev_un Evl.ev_c Evl.ru_neg))) (gram_init g)
theorem d_tail {σ : L2.St} {H : Hp} {te : TE} {g : Gram} (h : EvD K te σ H (gramD g)) : EvD K (tSl (rSlA K) te (tPart (tC (.int 1))) tNoPart) σ H (gramD g.tail) :=
  d_is (d_sl h (Evl.eo_some (i := 1) Evl.ev_c) Evl.eo_none) (gram_tail g)
theorem d_head {σ : L2.St} {H : Hp} {te : TE} {g : Gram} (h : EvD K te σ H (gramD g)) (hg : g ≠ []) : Evl.Ev (tOp (rIxT K) te (tC (.int 0))) σ H (.int (g.headD 0 : Nat)) := by
  cases g with
  | nil => exact absurd rfl hg
  | cons a g => exact EvD.int (d_ixT h Evl.ev_c (atI_nat (j := 0) rfl))
/-! ### contexts_behind -/
def behind (e : Ent) (x : Cxt) (L R : List Gram) : List Cxt := if e.r then (R.filter fun g => decide (g.dropLast = x.2.2.2.tail)).map (behindR e x) else (L.filter fun g => decide (g.dropLast = x.1.tail)).map (behindL e x)
/-- a dict whose keys are the grams L | the contexts C -/
def GrN (P : Program) (w : World) (K : PySem.W.Frag) (H : Hp) (d : Addr) (L : List Gram) : Prop := ∃ kvs, DN P w K H d kvs ∧ kvs.map (·.1) = L.map gramK
def CxN (P : Program) (w : World) (K : PySem.W.Frag) (H : Hp) (d : Addr) (L : List Cxt) : Prop := ∃ kvs, DN P w K H d kvs ∧ kvs.map (·.1) = L.map ctxK
theorem GrN.ex {H H' : Hp} {d : Addr} {L : List Gram} (e : Ex H H') (h : GrN P w K H d L) : GrN P w K H' d L := let ⟨k, a, b⟩ := h; ⟨k, a.ex e, b⟩
theorem CxN.ex {H H' : Hp} {d : Addr} {L : List Cxt} (e : Ex H H') (h : CxN P w K H d L) : CxN P w K H' d L := let ⟨k, a, b⟩ := h; ⟨k, a.ex e, b⟩
def RBehind (P : Program) (w : World) (K : PySem.W.Frag) : List Ag → PyData → Hp → Prop := fun as d H => ∃ m T S c n x e dl dr L R, as = [.v (.ref m), .d (ctxD x), .v (.ref dl), .v (.ref dr)] ∧ MachAt K H m T ∧ TblOk T S c ∧ CtxOk n S c x ∧ 1 ≤ n ∧ n ≤ 1000 ∧ entry T x.2.1 x.2.2.1 = some e ∧
  GrN P w K H dl L ∧ GrN P w K H dr R ∧ L.length ≤ 40000 ∧ R.length ≤ 40000 ∧ d = .list ((behind e x L R).map ctxD)
theorem entry_ix {T : Tbl} {S c q s : Nat} (hT : TblOk T S c) (hq : q < S) (hs : s < c) {σ : L2.St} {H : Hp} {ta tq ts : TE} (ht : EvD K ta σ H (tblD T)) (h1 : Evl.Ev tq σ H (.int (q : Nat))) (h2 : Evl.Ev ts σ H (.int (s : Nat))) : EvD K (tOp (rIxT K) (tOp (rIxT K) ta tq) ts) σ H (entD (entry T q s)) := by
  obtain ⟨r, o, g1, g2, g3, _⟩ := hT.at_ hq hs
  rw [g3]
  refine d_ixT (ds := r.map entD) (d_ixT ht h1 (atI_nat ?_)) h2 (atI_nat ?_)
  · rw [List.getElem?_map, g1]; rfl
  · rw [List.getElem?_map, g2]; rfl
theorem gram_cons (a : Nat) (g : Gram) : PyData.tuple ([.int (a : Nat)] ++ g.map fun (n : Nat) => PyData.int n) = gramD (a :: g) := rfl
theorem sc_contexts_behind : FnScope ["machine", "context", "lefts", "rights", "left", "state", "sign", "right", "write", "way", "later", "new", "gram"] ["machine", "context", "lefts", "rights"] (defScope (top 41)) := ⟨rfl, rfl, rfl, by decide +kernel, rfl, by decide +kernel, by decide +kernel⟩
theorem h_contexts_behind (T : Top K mg) : Has P w K mg base "contexts_behind" ["machine", "context", "lefts", "rights"] 1 (SpD K (RBehind P w K)) := by
  refine mk_has T 25 rfl rfl (fun _ _ _ _ _ _ us hl => match us, hl with | [_, _, _, _], _ => rfl) fun fd F => ?_
  refine F.ok sc_contexts_behind (fun vs H Q E h => len_of h fun as d H h => by obtain ⟨_, _, _, _, _, _, _, _, _, _, _, rfl, _⟩ := h; rfl) fun cdv A outer s H vs Q E hr h => ⟨_, PSs.nox (pss_cons (ps_asg (pv 1) (pg_tup rfl (pgs_cons (pg_name (i := 4) sc_contexts_behind.nd rfl (Or.inr rfl)) (pgs_cons (pg_name (i := 5) sc_contexts_behind.nd rfl (Or.inl rfl)) (pgs_cons (pg_name (i := 6) sc_contexts_behind.nd rfl (Or.inl rfl)) (pgs_cons (pg_name (i := 7) sc_contexts_behind.nd rfl (Or.inr rfl)) pgs_nil))))))
      (pss_cons (ps_asg (pe_ix ix_tup (pe_ix ix_tup (pe_fld (pv 0) rfl) (pv 5) (fun _ _ => rfl)) (pv 6) (fun _ _ => rfl)) (pg_tup rfl (pgs_cons (pg_name (i := 8) sc_contexts_behind.nd rfl (Or.inl rfl)) (pgs_cons (pg_name (i := 9) sc_contexts_behind.nd rfl (Or.inl rfl)) (pgs_cons (pg_name (i := 10) sc_contexts_behind.nd rfl (Or.inr rfl)) pgs_nil)))))
      (pss_cons (ps_if (pt_cmpR op_eq (pv 9) pe_str (nomark _)) (pss_cons (ps_set (i := 11) sc_contexts_behind.nd rfl (Or.inr rfl) (pe_op op_catA (pe_tup (pa_cons (pv 8) pa_nil)) (pe_slice sl_tupA (pv 4) po_none (po_some (pe_un un_neg pe_int)))))
      (pss_one (ps_ret (pe_lc (own := [("gram", 12)]) (g := (gName 12)) rfl sc_contexts_behind.nd (pi_n (pv 3)) (blkOk_by (N := ["machine", "context", "lefts", "rights", "left", "state", "sign", "right", "write", "way", "later", "new", "gram"]) (sc := defScope (top 41)) (by decide +kernel)) (fun _ _ _ _ _ => (pg_name (i := 12) sc_contexts_behind.nd rfl (Or.inl rfl))) (fun _ _ _ _ _ => pts_one (pt_cmpR (op_eqDK (K := K) (by exact hr.units)) (pe_slice (sl_tupAK (K := K)) (pv 12) po_none (po_some (pe_un un_neg pe_int))) (pe_slice (sl_tupAK (K := K)) (pv 7) (po_some pe_int) po_none) (nomark _))) (fun _ _ _ _ _ => (pe_tup (pa_cons (pv 11) (pa_cons (pv 10) (pa_cons (pe_ix (ix_tupK (K := K)) (pv 7) pe_int (fun _ _ => rfl)) (pa_cons (pv 12) pa_nil)))))))))) pss_nil)
      (pss_cons (ps_set (i := 11) sc_contexts_behind.nd rfl (Or.inr rfl) (pe_op op_catA (pe_tup (pa_cons (pv 8) pa_nil)) (pe_slice sl_tupA (pv 7) po_none (po_some (pe_un un_neg pe_int)))))
      (pss_one (ps_ret (pe_lc (own := [("gram", 12)]) (g := (gName 12)) rfl sc_contexts_behind.nd (pi_n (pv 2)) (blkOk_by (N := ["machine", "context", "lefts", "rights", "left", "state", "sign", "right", "write", "way", "later", "new", "gram"]) (sc := defScope (top 41)) (by decide +kernel)) (fun _ _ _ _ _ => (pg_name (i := 12) sc_contexts_behind.nd rfl (Or.inl rfl))) (fun _ _ _ _ _ => pts_one (pt_cmpR (op_eqDK (K := K) (by exact hr.units)) (pe_slice (sl_tupAK (K := K)) (pv 12) po_none (po_some (pe_un un_neg pe_int))) (pe_slice (sl_tupAK (K := K)) (pv 4) (po_some pe_int) po_none) (nomark _))) (fun _ _ _ _ _ => (pe_tup (pa_cons (pv 12) (pa_cons (pv 10) (pa_cons (pe_ix (ix_tupK (K := K)) (pv 4) pe_int (fun _ _ => rfl)) (pa_cons (pv 11) pa_nil))))))))))))), ?_⟩
  obtain ⟨as, d, ha, ⟨m, Tb, S, c, n, x, e, dl, dr, L, R, rfl, hm, hT, hx, n1, n2, he, ⟨kl, hdl, hkl⟩, ⟨kr, hdr, hkr⟩, zl, zr, rfl⟩, k⟩ := h
  obtain ⟨a1, y, a3, a4, rfl, rfl, h1, rfl, rfl⟩ := ags4 ha
  obtain ⟨g1, s1, s2, g2⟩ := hx
  have l1 := g1.1
  have l2 := g2.1
  simp only [L2.start, List.map_cons, List.map_nil, List.length_cons, List.length_nil, Nat.reduceAdd, Nat.reduceSub, List.replicate_succ, List.replicate_zero, List.cons_append, List.nil_append]
  refine qD_un (ds := [gramD x.1, .int x.2.1, .int x.2.2.1, gramD x.2.2.2]) (dv rfl h1) rfl fun xs H2 e2 hx => un4 hx fun v1 v2 v3 v4 q1 q2 q3 q4 => ?_
  cases q2
  cases q3
  simp only [List.set_cons_succ, List.set_cons_zero]
  have te := entry_ix hT s1 s2 (d_table T (Evl.ev_var (σ := [some (.ref m), some y, some (.ref dl), some (.ref dr), some v1, some (.int (x.2.1 : Nat)), some (.int (x.2.2.1 : Nat)), some v4, none, none, none, none, none]) (i := 0) rfl) (hm.ex e2)) (Evl.ev_var (i := 5) rfl) (Evl.ev_var (i := 6) rfl)
  rw [he] at te
  refine qD_un (ds := [.int e.w, .str (wayS e.r), .int e.n]) te rfl fun xs H3 e3 hx => un3 hx fun u1 u2 u3 r1 r2 r3 => ?_
  cases r1
  cases r2
  cases r3
  simp only [List.set_cons_succ, List.set_cons_zero]
  refine Evl.q_when (b := e.r) (Evl.et_is (Evl.et_test (Evl.ev_op (Evl.ev_var rfl) Evl.ev_c (Evl.rv_eq rfl))) (way_eq e.r)) (fun hb H4 e4 => ?_) (fun hb H4 e4 => ?_)
  · have q1' := exd (e3.trans e4) q1
    have q4' := exd (e3.trans e4) q4
    refine qD_asg (d_is (d_catT (d_tup (ds := [.int (e.w : Nat)]) (as_d (Ev.int (Evl.ev_var rfl)) as_nil)) (d_init (dv rfl q1')) (by rw [List.length_map, List.length_dropLast]; simp; omega)) (gram_cons _ _)) fun v5 H5 e5 q5 => ?_
    simp only [List.set_cons_succ, List.set_cons_zero]
    have q4'' := exd e5 q4'
    have ee := ((e2.trans e3).trans e4).trans e5
    refine sD_ret (d_is (d_lcN (xs := R) (kk := gramK) (enc := gramD) (fun g => decide (g.dropLast = x.2.2.2.tail)) (fun g => ctxD (behindR e x g)) (Evl.ev_var rfl) (hdr.ex ee) hkr gramK_data zr (fun g _ _ => noL_ctx _) (fun _ => rfl) (fun g v H6 hg e6 q => ?_) (fun g v H6 hg e6 q hp => ?_)) ?_) fun v H6 e6 q => k v H6 (ee.trans e6) q
    · exact Evl.et_is (Evl.et_test (d_eq (d_init (dv rfl q)) (d_tail (dv rfl (exd e6 q4''))) (gram_shaped _) (gram_shaped _))) (eqv_gram _ _)
    · refine d_tup (ds := [gramD (e.w :: x.1.dropLast), .int (e.n : Nat), .int (x.2.2.2.headD 0 : Nat), gramD g]) (as_d (dv rfl (exd e6 q5)) (as_d (Ev.int (Evl.ev_var rfl)) (as_d (Ev.int (d_head (dv rfl (exd e6 q4'')) ?_)) (as_d (dv rfl q) as_nil))))
      intro z
      rw [z] at l2
      simp at l2
      omega
    · unfold behind
      rw [if_pos hb, List.map_map]
      rfl
  · have q1' := exd (e3.trans e4) q1
    have q4' := exd (e3.trans e4) q4
    refine qD_asg (d_is (d_catT (d_tup (ds := [.int (e.w : Nat)]) (as_d (Ev.int (Evl.ev_var rfl)) as_nil)) (d_init (dv rfl q4')) (by rw [List.length_map, List.length_dropLast]; simp; omega)) (gram_cons _ _)) fun v5 H5 e5 q5 => ?_
    simp only [List.set_cons_succ, List.set_cons_zero]
    have q1'' := exd e5 q1'
    have ee := ((e2.trans e3).trans e4).trans e5
    refine sD_ret (d_is (d_lcN (xs := L) (kk := gramK) (enc := gramD) (fun g => decide (g.dropLast = x.1.tail)) (fun g => ctxD (behindL e x g)) (Evl.ev_var rfl) (hdl.ex ee) hkl gramK_data zl (fun g _ _ => noL_ctx _) (fun _ => rfl) (fun g v H6 hg e6 q => ?_) (fun g v H6 hg e6 q hp => ?_)) ?_) fun v H6 e6 q => k v H6 (ee.trans e6) q
    · exact Evl.et_is (Evl.et_test (d_eq (d_init (dv rfl q)) (d_tail (dv rfl (exd e6 q1''))) (gram_shaped _) (gram_shaped _))) (eqv_gram _ _)
    · refine d_tup (ds := [gramD g, .int (e.n : Nat), .int (x.1.headD 0 : Nat), gramD (e.w :: x.2.2.2.dropLast)]) (as_d (dv rfl q) (as_d (Ev.int (Evl.ev_var rfl)) (as_d (Ev.int (d_head (dv rfl (exd e6 q1'')) ?_)) (as_d (dv rfl (exd e6 q5)) as_nil))))
      intro z
      rw [z] at l1
      simp at l1
      omega
    · unfold behind
      rw [if_neg (by rw [hb]; decide), List.map_map]
      rfl
/-! ### entry_at -/
def REntryAt (K : PySem.W.Frag) : List Ag → PyData → Hp → Prop := fun as d H => ∃ m T S c n x, as = [.v (.ref m), .d (ctxD x)] ∧ MachAt K H m T ∧ TblOk T S c ∧ CtxOk n S c x ∧ d = entD (entry T x.2.1 x.2.2.1)
theorem sc_entry_at : FnScope ["machine", "context"] ["machine", "context"] (defScope (top 42)) := ⟨rfl, rfl, rfl, by decide +kernel, rfl, by decide +kernel, by decide +kernel⟩
theorem h_entry_at (T : Top K mg) : Has P w K mg base "entry_at" ["machine", "context"] 1 (SpD K (REntryAt K)) := by
  refine mk_has T 26 rfl rfl (fun _ _ _ _ _ _ us hl => match us, hl with | [_, _], _ => rfl) fun fd F => ?_
  refine F.ok sc_entry_at (fun vs H Q E h => len_of h fun as d H h => by obtain ⟨_, _, _, _, _, _, rfl, _⟩ := h; rfl) fun cdv A outer s H vs Q E hr h => ⟨_, PSs.nox (pss_one (ps_ret (pe_ix ix_tup (pe_ix ix_tup (pe_fld (pv 0) rfl) (pe_ix ix_tup (pv 1) pe_int (fun _ _ => rfl)) (fun _ _ => rfl)) (pe_ix ix_tup (pv 1) pe_int (fun _ _ => rfl)) (fun _ _ => rfl)))), ?_⟩
  obtain ⟨as, d, ha, ⟨m, Tb, S, c, n, x, rfl, hm, hT, hx, rfl⟩, k⟩ := h
  obtain ⟨a1, y, rfl, rfl, h1⟩ := ags2 ha
  exact sD_ret (entry_ix hT hx.2.1 hx.2.2.1 (d_table T (Evl.ev_var rfl) hm) (EvD.int (d_ixT (d := .int (x.2.1 : Nat)) (dv rfl h1) Evl.ev_c rfl)) (EvD.int (d_ixT (d := .int (x.2.2.1 : Nat)) (dv rfl h1) Evl.ev_c rfl))) k
theorem d_entryAt {σ : L2.St} {H : Hp} {E : XK} {ta tb : TE} {m S c n : Nat} {Tb : Tbl} {x : Cxt} (h : Evl.Ev ta σ H (.ref m)) (hx : EvD K tb σ H (ctxD x)) (hm : MachAt K H m Tb) (hT : TblOk Tb S c) (ok : CtxOk n S c x) : EvD K (tCall (SpD K (REntryAt K)) [] E (tCons ta (tCons tb tNil))) σ H (entD (entry Tb x.2.1 x.2.2.1)) :=
  d_call (as_v h (as_d hx as_nil)) fun H1 e1 => ⟨m, Tb, S, c, n, x, rfl, hm.ex e1, hT, ok, rfl⟩
/-! ### closed_under -/
def RClosed (P : Program) (w : World) (K : PySem.W.Frag) : List Ag → PyData → Hp → Prop := fun as d H => ∃ m T S c n dl dr dc L R C, as = [.v (.ref m), .v (.ref dl), .v (.ref dr), .v (.ref dc)] ∧ MachAt K H m T ∧ TblOk T S c ∧ 1 ≤ n ∧ n ≤ 1000 ∧
  GrN P w K H dl L ∧ GrN P w K H dr R ∧ CxN P w K H dc C ∧ L.length ≤ 40000 ∧ R.length ≤ 40000 ∧ (∀ x ∈ C, Closed T L R C x ∧ CtxOk n S c x) ∧ d = .bool true
theorem gram_in {kvs : List (NestedKey × V)} {L : List Gram} {g : Gram} (hk : kvs.map (·.1) = L.map gramK) (h : g ∈ L) : (valV kvs (gramK g)).isSome = true := valN_mem.mpr (by rw [hk]; exact List.mem_map.mpr ⟨g, h, rfl⟩)
theorem ctx_in {kvs : List (NestedKey × V)} {L : List Cxt} {g : Cxt} (hk : kvs.map (·.1) = L.map ctxK) (h : g ∈ L) : (valV kvs (ctxK g)).isSome = true := valN_mem.mpr (by rw [hk]; exact List.mem_map.mpr ⟨g, h, rfl⟩)
theorem way_eqL (r : Bool) : decide (V.str (wayS r) = V.str "l") = !r := by cases r <;> decide +kernel
theorem behind_mem {e : Ent} {x y : Cxt} {T : Tbl} {L R : List Gram} {C : List Cxt} (he : entry T x.2.1 x.2.2.1 = some e) (hc : Closed T L R C x) (h : y ∈ behind e x L R) : y ∈ C := by
  obtain ⟨e', he', h1, h2⟩ := hc.ex
  rw [he] at he'
  cases he'
  unfold behind at h
  by_cases hb : e.r = true
  · rw [if_pos hb] at h
    obtain ⟨g, hg, rfl⟩ := List.mem_map.mp h
    obtain ⟨hg1, hg2⟩ := List.mem_filter.mp hg
    exact (h1 hb).2 g hg1 (of_decide_eq_true hg2)
  · rw [if_neg hb] at h
    obtain ⟨g, hg, rfl⟩ := List.mem_map.mp h
    obtain ⟨hg1, hg2⟩ := List.mem_filter.mp hg
    exact (h2 (by simpa using hb)).2 g hg1 (of_decide_eq_true hg2)
theorem d_behind {σ : L2.St} {H : Hp} {E : XK} {ta tb tc td : TE} {m S c n : Nat} {dl dr : Addr} {L R : List Gram} {Tb : Tbl} {x : Cxt} {e : Ent} (h : Evl.Ev ta σ H (.ref m)) (hx : EvD K tb σ H (ctxD x)) (h3 : Evl.Ev tc σ H (.ref dl)) (h4 : Evl.Ev td σ H (.ref dr)) (hm : MachAt K H m Tb) (hT : TblOk Tb S c) (ok : CtxOk n S c x) (n1 : 1 ≤ n) (n2 : n ≤ 1000)
    (he : entry Tb x.2.1 x.2.2.1 = some e) (hl : GrN P w K H dl L) (hr : GrN P w K H dr R) (zl : L.length ≤ 40000) (zr : R.length ≤ 40000) : EvD K (tCall (SpD K (RBehind P w K)) [] E (tCons ta (tCons tb (tCons tc (tCons td tNil))))) σ H (.list ((behind e x L R).map ctxD)) :=
  d_call (as_v h (as_d hx (as_v h3 (as_v h4 as_nil)))) fun H1 e1 => ⟨m, Tb, S, c, n, x, e, dl, dr, L, R, rfl, hm.ex e1, hT, ok, n1, n2, he, hl.ex e1, hr.ex e1, zl, zr, rfl⟩
theorem sc_closed_under : FnScope ["machine", "lefts", "rights", "contexts", "context", "entry", "new"] ["machine", "lefts", "rights", "contexts"] (defScope (top 43)) := ⟨rfl, rfl, rfl, by decide +kernel, rfl, by decide +kernel, by decide +kernel⟩
theorem h_closed_under (T : Top K mg) : Has P w K mg base "closed_under" ["machine", "lefts", "rights", "contexts"] 2 (SpD K (RClosed P w K)) := by
  have H_entry_at : Has P w K mg base "entry_at" ["machine", "context"] 1 (SpD K (REntryAt K)) := h_entry_at T
  have H_contexts_behind : Has P w K mg base "contexts_behind" ["machine", "context", "lefts", "rights"] 1 (SpD K (RBehind P w K)) := h_contexts_behind T
  refine mk_has T 27 rfl rfl (fun _ _ _ _ _ _ us hl => match us, hl with | [_, _, _, _], _ => rfl) fun fd F => ?_
  refine F.ok sc_closed_under (fun vs H Q E h => len_of h fun as d H h => by obtain ⟨_, _, _, _, _, _, _, _, _, _, _, rfl, _⟩ := h; rfl) fun cdv A outer s H vs Q E hr h => ⟨_, PSs.nox (pss_cons (ps_for PassesOwn.never rfl (pi_n (pv 3)) (pg_name (i := 4) sc_closed_under.nd rfl (Or.inl rfl)) (pss_cons (ps_set (i := 5) sc_closed_under.nd rfl (Or.inl rfl) (pe_callH H_entry_at (hr.mono (by decide)) (pa_cons (pv 0) (pa_cons (pv 4) pa_nil))))
      (pss_cons (ps_if (pt_cmpR op_isN (pv 5) pe_non (nomark _)) (pss_one (ps_ret pe_bl)) pss_nil)
      (pss_cons (ps_if (PW.pt (pw_or (PW.pt (pw_and (pt_cmpR op_eq (pe_ix ix_tup (pv 5) pe_int (fun _ _ => rfl)) pe_str (nomark _)) (pw_and1 (pt_cmp (pc_nnotin hr.units (pe_ix ix_tup (pv 4) pe_int (fun _ _ => rfl)) (pv 1)))))) (pw_or1 (PW.pt (pw_and (pt_cmpR op_eq (pe_ix ix_tup (pv 5) pe_int (fun _ _ => rfl)) pe_str (nomark _)) (pw_and1 (pt_cmp (pc_nnotin hr.units (pe_ix ix_tup (pv 4) pe_int (fun _ _ => rfl)) (pv 2))))))))) (pss_one (ps_ret pe_bl)) pss_nil)
      (pss_one (ps_for PassesOwn.never rfl (pi_list (pe_callH H_contexts_behind (hr.mono (by decide)) (pa_cons (pv 0) (pa_cons (pv 4) (pa_cons (pv 1) (pa_cons (pv 2) pa_nil)))))) (pg_name (i := 6) sc_closed_under.nd rfl (Or.inl rfl)) (pss_one (ps_if (pt_cmp (pc_nnotin hr.units (pv 6) (pv 3))) (pss_one (ps_ret pe_bl)) pss_nil))))))))
      (pss_one (ps_ret pe_bl))), ?_⟩
  obtain ⟨as, d, ha, ⟨m, Tb, S, c, n, dl, dr, dc, L, R, C, rfl, hm, hT, n1, n2, hL, hR, hC, zl, zr, ok, rfl⟩, k⟩ := h
  obtain ⟨a1, a2, a3, a4, rfl, rfl, rfl, rfl, rfl⟩ := ags4 ha
  simp only [L2.start, List.map_cons, List.map_nil, List.length_cons, List.length_nil, Nat.reduceAdd, Nat.reduceSub, List.replicate_succ, List.replicate_zero, List.cons_append, List.nil_append]
  obtain ⟨kc, hdc, hkc⟩ := id hC
  obtain ⟨kl, hdl, hkl⟩ := id hL
  obtain ⟨kr, hdr, hkr⟩ := id hR
  refine q_forN (xs := C) (kk := ctxK) (enc := ctxD) (Evl.ev_var rfl) hdc hkc ctxK_data (fun i σ' H' => ∃ u1 u2 u3, σ' = [some (.ref m), some (.ref dl), some (.ref dr), some (.ref dc), u1, u2, u3] ∧ Ex H H') (fun H1 e1 => ⟨none, none, none, rfl, e1⟩) (fun i σ' H' _ h => by obtain ⟨_, _, _, _, h⟩ := h; exact h) ?_ ?_
  · rintro i x y σ' H' hx hy ⟨u1, u2, u3, rfl, e1⟩
    have hm1 := List.mem_of_getElem? hx
    obtain ⟨cl, cok⟩ := ok x hm1
    obtain ⟨e, he, cr, cle⟩ := id cl.ex
    refine qD_asg (d_entryAt (Evl.ev_var rfl) (dv (v := y) rfl hy) (hm.ex e1) hT cok) fun v H2 e2 q2 => ?_
    rw [he] at q2
    refine Evl.q_when (b := false) (Evl.et_test (d_isN (dv rfl q2))) (fun z => nomatch z) fun _ H3 e3 => ?_
    have q3 := exd e3 q2
    have hy3 := exd (e2.trans e3) hy
    have ex3 := e1.trans (e2.trans e3)
    have en1 : ∀ {σ : L2.St} {H4 : Hp} {ti : TE}, EvD K ti σ H4 (entD (some e)) → Evl.Ev (tOp (rIxT K) ti (tC (.int 1))) σ H4 (.str (wayS e.r)) := fun hh => EvD.str (d_ixT (d := .str (wayS e.r)) hh Evl.ev_c rfl)
    refine Evl.q_when (b := false) (Evl.et_is (Evl.et_or (Evl.et_and (a := e.r) (b := false) (Evl.et_is (Evl.et_test (Evl.ev_op (en1 (dv rfl q3)) Evl.ev_c (Evl.rv_eq rfl))) (way_eq e.r)) fun hb => Evl.et_is (Evl.et_B (ed_nnin (k := gramK x.1) (d_ixT (d := gramD x.1) (dv (v := y) rfl hy3) Evl.ev_c rfl) (fun _ _ => keyV_gram) (Evl.ev_var rfl) (hdl.ex ex3))) (by rw [gram_in hkl (cr hb).1]; rfl))
      fun _ => Evl.et_and (a := !e.r) (b := false) (Evl.et_is (Evl.et_test (Evl.ev_op (en1 (dv rfl q3)) Evl.ev_c (Evl.rv_eq rfl))) (way_eqL e.r)) fun hb => Evl.et_is (Evl.et_B (ed_nnin (k := gramK x.2.2.2) (d_ixT (d := gramD x.2.2.2) (dv (v := y) rfl hy3) Evl.ev_c rfl) (fun _ _ => keyV_gram) (Evl.ev_var rfl) (hdr.ex ex3))) (by rw [gram_in hkr (cle (by simpa using hb)).1]; rfl)) (by simp)) (fun z => nomatch z) fun _ H4 e4 => ?_
    have ex4 := ex3.trans e4
    refine sD_forL (d_behind (Evl.ev_var rfl) (dv (v := y) rfl (exd e4 hy3)) (Evl.ev_var rfl) (Evl.ev_var rfl) (hm.ex ex4) hT cok n1 n2 he (hL.ex ex4) (hR.ex ex4) zl zr) (fun vl i' σ' H' => ∃ u1 u2 u3, σ' = [some (.ref m), some (.ref dl), some (.ref dr), some (.ref dc), u1, u2, u3] ∧ Ex H H' ∧ Dp K H' vl (.list ((behind e x L R).map ctxD))) (fun vl H5 e5 q => ⟨_, _, _, rfl, ex4.trans e5, q⟩) (fun vl i' σ' H' _ h => by obtain ⟨_, _, _, _, _, h⟩ := h; exact h) ?_ ?_
    · rintro vl i' y' dd σ' H' hi hy' ⟨u1, u2, u3, rfl, e5, q⟩
      rw [List.getElem?_map] at hi
      obtain ⟨z, hz, rfl⟩ := Option.map_eq_some_iff.mp hi
      refine Evl.s_when (b := false) (Evl.et_is (Evl.et_B (ed_nnin (k := ctxK z) (dv (v := y') rfl hy') (fun _ _ => keyV_ctx) (Evl.ev_var rfl) (hdc.ex e5))) (by rw [ctx_in hkc (behind_mem he cl (List.mem_of_getElem? hz))]; rfl)) (fun z => nomatch z) fun _ H6 e6 => ⟨_, _, _, rfl, e5.trans e6, exd e6 q⟩
    · rintro vl σ' H' ⟨u1, u2, u3, rfl, e5, q⟩
      exact ⟨_, _, _, rfl, e5⟩
  · rintro σ' H' ⟨u1, u2, u3, rfl, e1⟩
    exact sD_ret (Ev.bl Evl.ev_c) fun v H2 e2 q => k v H2 (e1.trans e2) q
/-! ### wall_taken -/
theorem q_asgNm {σ : L2.St} {H : Hp} {D : Ends} {tz : TS} {te : TE} {i : Nat} {E : XK} {α : Type} {L : List α} {kk : α → NestedKey} {enc : α → PyData} (h : EvD K te σ H (.list (L.map enc))) (henc : ∀ x, (kk x).data = enc x) (ht : ∀ x, TupK (kk x)) (hz : L.length ≤ 40000)
    (k : ∀ (d : Addr) (H1 : Hp) (kvs : List (NestedKey × V)) (L' : List α), Ex H H1 → H d = none → DN P w K H1 d kvs → kvs.map (·.1) = L'.map kk → (∀ x, kk x ∈ L'.map kk ↔ kk x ∈ L.map kk) → (∀ x ∈ L', x ∈ L) → L'.length ≤ 40000 → tz D (σ.set i (some (.ref d))) H1) : tSeq (tAsg (tCall (spNames P w K) [] E (tCons te tNil)) (gName i)) tz D σ H :=
  h H (Evl.Ex.refl _) _ fun v H1 e1 q => ⟨v, L.map kk, rfl, by
    have : (L.map kk).map NestedKey.data = L.map enc := by
      rw [List.map_map]
      exact List.map_congr_left fun x _ => henc x
    rw [this]; exact q, fun kx hk => by
      obtain ⟨x, _, rfl⟩ := List.mem_map.mp hk
      exact ht x, by rw [List.length_map]; exact hz, fun H2 d kvs e2 hd hN hk hz2 => by
      obtain ⟨L', e, hm⟩ := unmap (L := L) (h := kk) (ks := kvs.map (·.1)) fun kx hkx => (hk kx).mp hkx
      refine k d H2 kvs L' (e1.trans e2) (Evl.fresh_back e1 hd) hN e (fun x => by rw [← e]; exact hk (kk x)) hm ?_
      have := congrArg List.length e
      rw [List.length_map, List.length_map] at this
      omega⟩
theorem tupK_gram (g : Gram) : TupK (gramK g) := ⟨⟨_, rfl⟩, Nat.le_trans (gramK_depth g) (by decide)⟩
theorem tupK_ctx (g : Cxt) : TupK (ctxK g) := ⟨⟨_, rfl⟩, Nat.le_trans (ctxK_depth g) (by decide)⟩
theorem mem_kk {α : Type} {kk : α → NestedKey} (inj : ∀ a b, kk a = kk b → a = b) {L : List α} {x : α} : kk x ∈ L.map kk ↔ x ∈ L := by
  constructor
  · intro h
    obtain ⟨y, hy, e⟩ := List.mem_map.mp h
    rw [← inj _ _ e]; exact hy
  · exact fun h => List.mem_map.mpr ⟨x, h, rfl⟩
theorem closed_same {T : Tbl} {L L' R R' : List Gram} {C C' : List Cxt} {x : Cxt} (h : Closed T L R C x) (hl : ∀ g, g ∈ L' ↔ g ∈ L) (hr : ∀ g, g ∈ R' ↔ g ∈ R) (hc : ∀ g, g ∈ C' ↔ g ∈ C) : Closed T L' R' C' x := by
  obtain ⟨e, he, h1, h2⟩ := h.ex
  exact ⟨e, he, fun hb => ⟨(hl _).mpr (h1 hb).1, fun g hg q => (hc _).mpr ((h1 hb).2 g ((hr g).mp hg) q)⟩, fun hb => ⟨(hr _).mpr (h2 hb).1, fun g hg q => (hc _).mpr ((h2 hb).2 g ((hl g).mp hg) q)⟩⟩
theorem sc_wall_taken : FnScope ["machine", "paper", "blank", "lefts", "rights", "contexts"] ["machine", "paper"] (defScope (top 44)) := ⟨rfl, rfl, rfl, by decide +kernel, rfl, by decide +kernel, by decide +kernel⟩
theorem h_wall_taken (T : Top K mg) : Has P w K mg base "wall_taken" ["machine", "paper"] 5 (SpD K (RWall K)) := by
  have H_wall_formed : Has P w K mg base "wall_formed" ["machine", "paper"] 4 (SpD K (RWall K)) := h_wall_formed T
  have H_names_of : Has P w K mg base "names_of" ["things"] 1 (spNames P w K) := h_names_of T
  have H_closed_under : Has P w K mg base "closed_under" ["machine", "lefts", "rights", "contexts"] 2 (SpD K (RClosed P w K)) := h_closed_under T
  refine mk_has T 28 rfl rfl (fun _ _ _ _ _ _ us hl => match us, hl with | [_, _], _ => rfl) fun fd F => ?_
  refine F.ok sc_wall_taken (fun vs H Q E h => len_of h fun as d H h => by obtain ⟨⟨_, _, _, _, _, _, _, _, rfl, _⟩, _⟩ := h; rfl) fun cdv A outer s H vs Q E hr h => ⟨_, PSs.nox (pss_cons (ps_if (PW.pt (pw_or (pt_not (pt_val (pe_callH H_wall_formed (hr.mono (by decide)) (pa_cons (pv 0) (pa_cons (pv 1) pa_nil))))) (pw_or1 (pt_cmpR op_eq (pe_callB call_len_seq (by rfl) (T.free 56) (by decide +kernel) (pa_cons (pe_ix ix_tup (pv 1) pe_int (fun _ _ => rfl)) pa_nil)) pe_int (nomark _))))) (pss_one (ps_ret pe_bl)) pss_nil)
      (pss_cons (ps_set (i := 2) sc_wall_taken.nd rfl (Or.inl rfl) (pe_op op_repTW (pe_tup (pa_cons pe_int pa_nil)) (pe_ix ix_tup (pv 1) pe_int (fun _ _ => rfl))))
      (pss_cons (ps_set (i := 3) sc_wall_taken.nd rfl (Or.inl rfl) (pe_callH H_names_of (hr.mono (by decide)) (pa_cons (pe_ix ix_tup (pv 1) pe_int (fun _ _ => rfl)) pa_nil)))
      (pss_cons (ps_set (i := 4) sc_wall_taken.nd rfl (Or.inl rfl) (pe_callH H_names_of (hr.mono (by decide)) (pa_cons (pe_ix ix_tup (pv 1) pe_int (fun _ _ => rfl)) pa_nil)))
      (pss_cons (ps_set (i := 5) sc_wall_taken.nd rfl (Or.inl rfl) (pe_callH H_names_of (hr.mono (by decide)) (pa_cons (pe_ix ix_tup (pv 1) pe_int (fun _ _ => rfl)) pa_nil)))
      (pss_cons (ps_if (PW.pt (pw_or (pt_cmp (pc_nnotin hr.units (pv 2) (pv 3))) (pw_or (pt_cmp (pc_nnotin hr.units (pv 2) (pv 4))) (pw_or1 (pt_cmp (pc_nnotin hr.units (pe_tup (pa_cons (pv 2) (pa_cons pe_int (pa_cons pe_int (pa_cons (pv 2) pa_nil))))) (pv 5))))))) (pss_one (ps_ret pe_bl)) pss_nil)
      (pss_one (ps_ret (pe_callH H_closed_under (hr.mono (by decide)) (pa_cons (pv 0) (pa_cons (pv 3) (pa_cons (pv 4) (pa_cons (pv 5) pa_nil))))))))))))), ?_⟩
  obtain ⟨as, d, ha, ⟨⟨m, Tb, S, c, n, L, R, C, rfl, hm, hT, hW, hn, zL, zR, zC⟩, rfl⟩, k⟩ := h
  obtain ⟨x1, y, rfl, rfl, h1⟩ := ags2 ha
  have pos := hW.pos
  have lpos := List.length_pos_of_mem hW.bL
  simp only [L2.start, List.map_cons, List.map_nil, List.length_cons, List.length_nil, Nat.reduceAdd, Nat.reduceSub, List.replicate_succ, List.replicate_zero, List.cons_append, List.nil_append]
  have p2 : ∀ {σ : L2.St} {H2 : Hp} {te : TE}, EvD K te σ H2 (wallD n L R C) → EvD K (tOp (rIxT K) te (tC (.int 2))) σ H2 (.list (L.map gramD)) := fun h => d_ixT h Evl.ev_c rfl
  refine Evl.q_when (b := false) (Evl.et_or (a := false) (b := false) (Evl.et_not (a := true) (Evl.et_B (EvD.bl (d_call (as_v (Evl.ev_var rfl) (as_d (dv rfl h1) as_nil)) fun H1 e1 => ⟨⟨m, Tb, S, c, n, L, R, C, rfl, hm.ex e1, hT, hW, hn, zL, zR, zC⟩, rfl⟩)))) fun _ => Evl.et_is (Evl.et_test (Evl.ev_op (lenL (n := L.length) (p2 (dv rfl h1)) (by rw [List.length_map])) Evl.ev_c (Evl.rv_eq rfl))) (eq_no (by omega))) (fun z => nomatch z) fun _ H1 e1 => ?_
  refine qD_asg (d_blank (n := n) (d_tup (ds := [.int 0]) (as_d (Ev.int Evl.ev_c) as_nil)) (EvD.int (d_ixT (d := .int (n : Nat)) (dv rfl (exd e1 h1)) Evl.ev_c rfl)) pos hn) fun vb H2 e2 qb => ?_
  have e02 := e1.trans e2
  refine q_asgNm (P := P) (w := w) (L := L) (kk := gramK) (enc := gramD) (p2 (dv rfl (exd e02 h1))) gramK_data tupK_gram (by omega) fun dl H3 kl L' e3 hl3 hNl hkl hml hsl zl' => ?_
  have e03 := e02.trans e3
  refine q_asgNm (P := P) (w := w) (L := R) (kk := gramK) (enc := gramD) (d_ixT (d := .list (R.map gramD)) (dv rfl (exd e03 h1)) Evl.ev_c rfl) gramK_data tupK_gram (by omega) fun dr H4 kr R' e4 hr4 hNr hkr hmr hsr zr' => ?_
  have e04 := e03.trans e4
  refine q_asgNm (P := P) (w := w) (L := C) (kk := ctxK) (enc := ctxD) (d_ixT (d := .list (C.map ctxD)) (dv rfl (exd e04 h1)) Evl.ev_c rfl) ctxK_data tupK_ctx (by omega) fun dc H5 kc C' e5 hc5 hNc hkc hmc hsc zc' => ?_
  have mL : ∀ g, g ∈ L' ↔ g ∈ L := fun g => by rw [← mem_kk (fun _ _ => gramK_inj), hml, mem_kk (fun _ _ => gramK_inj)]
  have mR : ∀ g, g ∈ R' ↔ g ∈ R := fun g => by rw [← mem_kk (fun _ _ => gramK_inj), hmr, mem_kk (fun _ _ => gramK_inj)]
  have mC : ∀ g, g ∈ C' ↔ g ∈ C := fun g => by rw [← mem_kk (fun _ _ => ctxK_inj), hmc, mem_kk (fun _ _ => ctxK_inj)]
  have qb5 := exd ((e3.trans e4).trans e5) qb
  have hl5 := hNl.ex (e4.trans e5)
  have hr5 := hNr.ex e5
  refine Evl.q_when (b := false) (Evl.et_or (a := false) (b := false) (Evl.et_is (Evl.et_B (ed_nnin (k := gramK (blank n)) (dv rfl qb5) (fun _ _ => keyV_gram) (Evl.ev_var rfl) hl5)) (by rw [gram_in hkl ((mL _).mpr hW.bL)]; rfl)) fun _ => Evl.et_or (a := false) (b := false) (Evl.et_is (Evl.et_B (ed_nnin (k := gramK (blank n)) (dv rfl qb5) (fun _ _ => keyV_gram) (Evl.ev_var rfl) hr5)) (by rw [gram_in hkr ((mR _).mpr hW.bR)]; rfl)) fun _ =>
    Evl.et_is (Evl.et_B (ed_nnin (k := ctxK (blank n, 0, 0, blank n)) (dd := ctxD (blank n, 0, 0, blank n)) (d_tup (ds := [gramD (blank n), .int 0, .int 0, gramD (blank n)]) (as_d (dv rfl qb5) (as_d (Ev.int Evl.ev_c) (as_d (Ev.int Evl.ev_c) (as_d (dv rfl qb5) as_nil))))) (fun _ _ => keyV_ctx) (Evl.ev_var rfl) hNc)) (by rw [ctx_in hkc ((mC _).mpr hW.bC)]; rfl)) (fun z => nomatch z) fun _ H6 e6 => ?_
  have e06 := (e04.trans e5).trans e6
  exact sD_ret (d_call (as_v (Evl.ev_var rfl) (as_v (Evl.ev_var rfl) (as_v (Evl.ev_var rfl) (as_v (Evl.ev_var rfl) as_nil)))) fun H7 e7 => ⟨m, Tb, S, c, n, dl, dr, dc, L', R', C', rfl, (hm.ex e06).ex e7, hT, pos, hn, ⟨kl, (hl5.ex e6).ex e7, hkl⟩, ⟨kr, (hr5.ex e6).ex e7, hkr⟩, ⟨kc, (hNc.ex e6).ex e7, hkc⟩, zl', zr', fun x hx => ⟨closed_same (hW.cl x ((mC x).mp hx)) mL mR mC, hW.okC x ((mC x).mp hx)⟩, rfl⟩) fun v H7 e7 q => k v H7 (e06.trans e7) q
end
end WK
end
section
set_option Elab.async false
set_option linter.all false
set_option maxRecDepth 100000
set_option maxHeartbeats 4000000
/-! How walls grow, in plain words. -/
namespace WK
open PySem PySem.Spec PyProof.Rows L2 HD DT2 TX TP ND EN LC
def ins {α : Type} [DecidableEq α] (L : List α) (g : α) : List α := if g ∈ L then L else L ++ [g]
section
variable {α : Type} [DecidableEq α] {L : List α} {g x : α}
theorem ins_mem : x ∈ ins L g ↔ x ∈ L ∨ x = g := by
  unfold ins
  split
  · constructor
    · exact .inl
    · rintro (h | rfl)
      · exact h
      · assumption
  · rw [List.mem_append, List.mem_singleton]
theorem ins_pre : L <+: ins L g := by
  unfold ins
  split
  · exact List.prefix_rfl
  · exact List.prefix_append _ _
theorem ins_len : (ins L g).length ≤ L.length + 1 := by
  unfold ins
  split
  · omega
  · rw [List.length_append, List.length_singleton]; exact Nat.le_refl _
theorem ins_nodup (h : L.Nodup) : (ins L g).Nodup := by
  unfold ins
  split
  · exact h
  · rename_i hn
    refine List.nodup_append.mpr ⟨h, by simp, fun a ha b hb => ?_⟩
    rw [List.mem_singleton.mp hb]
    exact fun z => hn (z ▸ ha)
end
/-- a nodup list whose items all come from C is no longer than C -/
theorem nodup_le {α : Type} [DecidableEq α] : ∀ {L M : List α}, L.Nodup → (∀ x ∈ L, x ∈ M) → L.length ≤ M.length
  | [], _, _, _ => Nat.zero_le _
  | a :: L, M, h, hm => by
    obtain ⟨h1, h2⟩ := List.nodup_cons.mp h
    have ha := hm a List.mem_cons_self
    have h3 : L.length ≤ (M.erase a).length := nodup_le h2 fun x hx => (List.mem_erase_of_ne (fun e : x = a => h1 (by rw [← e]; exact hx))).mpr (hm x (List.mem_cons_of_mem _ hx))
    have := List.length_erase_of_mem ha
    have := List.length_pos_of_mem ha
    rw [List.length_cons]
    omega
theorem pre_eq {α : Type} {L M : List α} (h : L <+: M) (hl : M.length ≤ L.length) : M = L := (h.eq_of_length (Nat.le_antisymm h.length_le hl)).symm
theorem behindR_ok {T : Tbl} {S c n : Nat} (hT : TblOk T S c) {x : Cxt} (ok : CtxOk n S c x) (n1 : 1 ≤ n) {e : Ent} (he : entry T x.2.1 x.2.2.1 = some e) {g : Gram} (hg : GramOk n c g) : CtxOk n S c (behindR e x g) := by
  obtain ⟨g1, s1, s2, g2⟩ := ok
  obtain ⟨r, o, _, _, h3, h4⟩ := hT.at_ s1 s2
  rw [he] at h3
  obtain ⟨w1, w2⟩ := h4 e h3.symm
  refine ⟨⟨?_, fun y hy => ?_⟩, w2, ?_, hg⟩
  · show (e.w :: x.1.dropLast).length = n
    rw [List.length_cons, List.length_dropLast, g1.1]; omega
  · rcases List.mem_cons.mp hy with rfl | hy
    · exact w1
    · exact g1.2 y ((List.dropLast_sublist _).subset hy)
  · show x.2.2.2.headD 0 < c
    have l2 := g2.1
    cases q : x.2.2.2 with
    | nil => rw [q] at l2; simp at l2; omega
    | cons a t => exact g2.2 a (by rw [q]; exact List.mem_cons_self)
theorem behindL_ok {T : Tbl} {S c n : Nat} (hT : TblOk T S c) {x : Cxt} (ok : CtxOk n S c x) (n1 : 1 ≤ n) {e : Ent} (he : entry T x.2.1 x.2.2.1 = some e) {g : Gram} (hg : GramOk n c g) : CtxOk n S c (behindL e x g) := by
  obtain ⟨g1, s1, s2, g2⟩ := ok
  obtain ⟨r, o, _, _, h3, h4⟩ := hT.at_ s1 s2
  rw [he] at h3
  obtain ⟨w1, w2⟩ := h4 e h3.symm
  refine ⟨hg, w2, ?_, ?_, fun y hy => ?_⟩
  · show x.1.headD 0 < c
    have l2 := g1.1
    cases q : x.1 with
    | nil => rw [q] at l2; simp at l2; omega
    | cons a t => exact g1.2 a (by rw [q]; exact List.mem_cons_self)
  · show (e.w :: x.2.2.2.dropLast).length = n
    rw [List.length_cons, List.length_dropLast, g2.1]; omega
  · rcases List.mem_cons.mp hy with rfl | hy
    · exact w1
    · exact g2.2 y ((List.dropLast_sublist _).subset hy)
theorem behind_ok {T : Tbl} {S c n : Nat} (hT : TblOk T S c) {x : Cxt} (ok : CtxOk n S c x) (n1 : 1 ≤ n) {e : Ent} (he : entry T x.2.1 x.2.2.1 = some e) {L R : List Gram} (hL : ∀ g ∈ L, GramOk n c g) (hR : ∀ g ∈ R, GramOk n c g) : ∀ y ∈ behind e x L R, CtxOk n S c y := fun y h => by
  unfold behind at h
  split at h
  · obtain ⟨g, hg, rfl⟩ := List.mem_map.mp h
    exact behindR_ok hT ok n1 he (hR g (List.mem_filter.mp hg).1)
  · obtain ⟨g, hg, rfl⟩ := List.mem_map.mp h
    exact behindL_ok hT ok n1 he (hL g (List.mem_filter.mp hg).1)
theorem behind_len {e : Ent} {x : Cxt} {L R : List Gram} {b : Nat} (hL : L.length ≤ b) (hR : R.length ≤ b) : (behind e x L R).length ≤ b := by
  unfold behind
  split
  · rw [List.length_map]; exact Nat.le_trans (List.length_filter_le _ _) hR
  · rw [List.length_map]; exact Nat.le_trans (List.length_filter_le _ _) hL
/-- x is closed as far as the lists of its time -/
structure DoneX (T : Tbl) (L0 R0 L R : List Gram) (C : List Cxt) (x : Cxt) : Prop where
  ex : ∃ e L' R', entry T x.2.1 x.2.2.1 = some e ∧ L0 <+: L' ∧ L' <+: L ∧ R0 <+: R' ∧ R' <+: R ∧ (e.r = true → x.1 ∈ L) ∧ (e.r = false → x.2.2.2 ∈ R) ∧ ∀ y ∈ behind e x L' R', y ∈ C
theorem DoneX.up {T : Tbl} {L0 R0 L R L2 R2 : List Gram} {C C2 : List Cxt} {x : Cxt} (h : DoneX T L0 R0 L R C x) (hl : L <+: L2) (hr : R <+: R2) (hc : C <+: C2) : DoneX T L0 R0 L2 R2 C2 x := by
  obtain ⟨e, L', R', h1, h2, h3, h4, h5, h6, h7, h8⟩ := h.ex
  exact ⟨e, L', R', h1, h2, h3.trans hl, h4, h5.trans hr, fun q => hl.subset (h6 q), fun q => hr.subset (h7 q), fun y hy => hc.subset (h8 y hy)⟩
theorem DoneX.closed {T : Tbl} {L R : List Gram} {C : List Cxt} {x : Cxt} (h : DoneX T L R L R C x) : Closed T L R C x := by
  obtain ⟨e, L', R', h1, h2, h3, h4, h5, h6, h7, h8⟩ := h.ex
  have e1 : L' = L := pre_eq h2 h3.length_le
  have e2 : R' = R := pre_eq h4 h5.length_le
  subst e1 e2
  refine ⟨e, h1, fun hb => ⟨h6 hb, fun g hg q => h8 _ ?_⟩, fun hb => ⟨h7 hb, fun g hg q => h8 _ ?_⟩⟩
  · unfold behind
    rw [if_pos hb]
    exact List.mem_map.mpr ⟨g, List.mem_filter.mpr ⟨hg, decide_eq_true q⟩, rfl⟩
  · unfold behind
    rw [if_neg (by rw [hb]; decide)]
    exact List.mem_map.mpr ⟨g, List.mem_filter.mpr ⟨hg, decide_eq_true q⟩, rfl⟩
/-- what one round of growing leaves -/
structure Grown (T : Tbl) (S c n : Nat) (L R : List Gram) (C : List Cxt) (L' R' : List Gram) (C' : List Cxt) : Prop where
  pl : L <+: L'
  pr : R <+: R'
  pc : C <+: C'
  okL : ∀ g ∈ L', GramOk n c g
  okR : ∀ g ∈ R', GramOk n c g
  okC : ∀ x ∈ C', CtxOk n S c x
  subL : ∀ g ∈ L', g ∈ L ∨ ∃ x ∈ C, x.1 = g
  subR : ∀ g ∈ R', g ∈ R ∨ ∃ x ∈ C, x.2.2.2 = g
/-- where a round stands behind i contexts -/
structure GrowAt (T : Tbl) (S c n : Nat) (L0 R0 : List Gram) (C0 : List Cxt) (i : Nat) (L R : List Gram) (C : List Cxt) : Prop extends Grown T S c n L0 R0 C0 L R C where
  lenL : L.length ≤ 200 + i
  lenR : R.length ≤ 200 + i
  lenC : C.length ≤ 200 + i * 400
  done : ∀ x ∈ C0.take i, DoneX T L0 R0 L R C x
end WK
end
section
set_option Elab.async false
set_option linter.all false
set_option maxRecDepth 100000
set_option maxHeartbeats 4000000
/-! Walks: walls grown. -/
namespace WK
open PySem PySem.Spec PyProof.Rows L2 HD DT2 TX TP ND EN LC
section
variable {P : Program} {w : World} {K : PySem.W.Frag} {mg : Str → Option Value} {base : Heap}
/-! ### three dicts -/
structure G3 (P : Program) (w : World) (K : PySem.W.Frag) (H : Hp) (dl dr dc : Addr) (L R : List Gram) (C : List Cxt) : Prop where
  l : GrN P w K H dl L
  r : GrN P w K H dr R
  c : CxN P w K H dc C
  n1 : dl ≠ dr
  n2 : dl ≠ dc
  n3 : dr ≠ dc
def Mut3 (H H' : Hp) (dl dr dc : Addr) : Prop := ∀ b o, H b = some o → b ≠ dl → b ≠ dr → b ≠ dc → H' b = some o
section
variable {H H1 H2 H' : Hp} {dl dr dc d : Addr} {L R : List Gram} {C : List Cxt} {o : HO}
theorem Mut3.of_ex (e : Ex H H') : Mut3 H H' dl dr dc := fun b o h _ _ _ => e b o h
theorem Mut3.trans (a : Mut3 H H1 dl dr dc) (b : Mut3 H1 H2 dl dr dc) : Mut3 H H2 dl dr dc := fun c o h h1 h2 h3 => b c o (a c o h h1 h2 h3) h1 h2 h3
theorem Mut3.ex (m : Mut3 H1 H2 dl dr dc) (e : Ex H H1) (h1 : H dl = none) (h2 : H dr = none) (h3 : H dc = none) : Ex H H2 := fun b o h => m b o (e b o h) (ne_of_none h h1) (ne_of_none h h2) (ne_of_none h h3)
theorem Mut3.l (e : Ex H H1) : Mut3 H (upd H1 dl o) dl dr dc := fun b u h hb _ _ => by rw [upd_ne hb]; exact e b u h
theorem Mut3.r (e : Ex H H1) : Mut3 H (upd H1 dr o) dl dr dc := fun b u h _ hb _ => by rw [upd_ne hb]; exact e b u h
theorem Mut3.c (e : Ex H H1) : Mut3 H (upd H1 dc o) dl dr dc := fun b u h _ _ hb => by rw [upd_ne hb]; exact e b u h
theorem G3.ex (e : Ex H H') (g : G3 P w K H dl dr dc L R C) : G3 P w K H' dl dr dc L R C := ⟨g.l.ex e, g.r.ex e, g.c.ex e, g.n1, g.n2, g.n3⟩
theorem GrN.keep (h : GrN P w K H d L) (k : KeepS H H') (hd : H' d = H d) : GrN P w K H' d L := let ⟨kv, a, b⟩ := h; ⟨kv, a.keep k hd, b⟩
theorem CxN.keep (h : CxN P w K H d C) (k : KeepS H H') (hd : H' d = H d) : CxN P w K H' d C := let ⟨kv, a, b⟩ := h; ⟨kv, a.keep k hd, b⟩
theorem map_ins {α : Type} [DecidableEq α] {kk : α → NestedKey} (inj : ∀ a b, kk a = kk b → a = b) {kvs : List (NestedKey × V)} {L : List α} {g : α} {v : V} (hk : kvs.map (·.1) = L.map kk) : (putK kvs (kk g) v).map (·.1) = (ins L g).map kk := by
  rcases putN_keys (kvs := kvs) (kk g) v with ⟨e, h⟩ | ⟨e, h⟩
  · rw [hk, mem_kk inj] at h
    unfold ins
    rw [if_pos h, e, hk]
  · rw [hk, mem_kk inj] at h
    unfold ins
    rw [if_neg h, e, hk, List.map_append]
    rfl
/-- a machine that is none of the dicts -/
theorem mach3 {m : Addr} {T : Tbl} (h : MachAt K H m T) (k : KeepS H H') (mm : Mut3 H H' dl dr dc) (g : G3 P w K H dl dr dc L R C) : MachAt K H' m T := by
  obtain ⟨dx, t, h1, h2⟩ := h
  obtain ⟨⟨k1, a1, _⟩, ⟨k2, a2, _⟩, ⟨k3, a3, _⟩, _, _, _⟩ := g
  obtain ⟨φ1, f1⟩ := a1.there
  obtain ⟨φ2, f2⟩ := a2.there
  obtain ⟨φ3, f3⟩ := a3.there
  refine ⟨dx, t, mm _ _ h1 ?_ ?_ ?_, Dp.keep k _ _ h2⟩
  · rintro rfl; rw [h1] at f1; cases f1
  · rintro rfl; rw [h1] at f2; cases f2
  · rintro rfl; rw [h1] at f3; cases f3
end
section
variable {H : Hp} {σ : L2.St} {D : Ends} {tu tz : TS} {ta tb td ty te tv : TE} {dl dr dc : Addr} {L R : List Gram} {C : List Cxt}
theorem s_putL {g : Gram} (hv : Evl.Ev tv σ H (.bl true)) (hd : Evl.Ev td σ H (.ref dl)) (hy : EvD K ty σ H (gramD g)) (G : G3 P w K H dl dr dc L R C) (hz : L.length < 100000)
    (q : ∀ H', Mut3 H H' dl dr dc → KeepS H H' → G3 P w K H' dl dr dc (ins L g) R C → D.nx σ H') : sNPut P w K td ty tv D σ H := by
  obtain ⟨kv, hn, hk⟩ := G.l
  have hz' : kv.length < 100000 := by
    have := congrArg List.length hk
    rw [List.length_map, List.length_map] at this
    omega
  refine s_nputD hv hd hy (fun _ _ => keyV_gram) hn hz' fun H1 o e ks hN => q _ (.l e) ((KeepS.of_ex e).trans ks) ⟨⟨_, hN, map_ins (fun _ _ => gramK_inj) hk⟩, (G.r.ex e).keep ks (upd_ne (Ne.symm G.n1)), (G.c.ex e).keep ks (upd_ne (Ne.symm G.n2)), G.n1, G.n2, G.n3⟩
theorem s_putR {g : Gram} (hv : Evl.Ev tv σ H (.bl true)) (hd : Evl.Ev td σ H (.ref dr)) (hy : EvD K ty σ H (gramD g)) (G : G3 P w K H dl dr dc L R C) (hz : R.length < 100000)
    (q : ∀ H', Mut3 H H' dl dr dc → KeepS H H' → G3 P w K H' dl dr dc L (ins R g) C → D.nx σ H') : sNPut P w K td ty tv D σ H := by
  obtain ⟨kv, hn, hk⟩ := G.r
  have hz' : kv.length < 100000 := by
    have := congrArg List.length hk
    rw [List.length_map, List.length_map] at this
    omega
  refine s_nputD hv hd hy (fun _ _ => keyV_gram) hn hz' fun H1 o e ks hN => q _ (.r e) ((KeepS.of_ex e).trans ks) ⟨(G.l.ex e).keep ks (upd_ne G.n1), ⟨_, hN, map_ins (fun _ _ => gramK_inj) hk⟩, (G.c.ex e).keep ks (upd_ne (Ne.symm G.n3)), G.n1, G.n2, G.n3⟩
theorem s_putC {g : Cxt} (hv : Evl.Ev tv σ H (.bl true)) (hd : Evl.Ev td σ H (.ref dc)) (hy : EvD K ty σ H (ctxD g)) (G : G3 P w K H dl dr dc L R C) (hz : C.length < 100000)
    (q : ∀ H', Mut3 H H' dl dr dc → KeepS H H' → G3 P w K H' dl dr dc L R (ins C g) → D.nx σ H') : sNPut P w K td ty tv D σ H := by
  obtain ⟨kv, hn, hk⟩ := G.c
  have hz' : kv.length < 100000 := by
    have := congrArg List.length hk
    rw [List.length_map, List.length_map] at this
    omega
  refine s_nputD hv hd hy (fun _ _ => keyV_ctx) hn hz' fun H1 o e ks hN => q _ (.c e) ((KeepS.of_ex e).trans ks) ⟨(G.l.ex e).keep ks (upd_ne G.n2), (G.r.ex e).keep ks (upd_ne G.n3), ⟨_, hN, map_ins (fun _ _ => ctxK_inj) hk⟩, G.n1, G.n2, G.n3⟩
theorem ev_lenG {d : Addr} {L : List Gram} (h : Evl.Ev te σ H (.ref d)) (g : GrN P w K H d L) : Evl.Ev (tCB (rLenN P w K) (tCons te tNil)) σ H (.int (L.length : Nat)) := fun H1 a Q k =>
  h H1 a _ fun H2 e2 => by
    obtain ⟨kv, hn, hk⟩ := g.ex (a.trans e2)
    have := congrArg List.length hk
    rw [List.length_map, List.length_map] at this
    exact ⟨d, kv, rfl, hn, by rw [this]; exact k H2 e2⟩
theorem ev_lenC {d : Addr} {L : List Cxt} (h : Evl.Ev te σ H (.ref d)) (g : CxN P w K H d L) : Evl.Ev (tCB (rLenN P w K) (tCons te tNil)) σ H (.int (L.length : Nat)) := fun H1 a Q k =>
  h H1 a _ fun H2 e2 => by
    obtain ⟨kv, hn, hk⟩ := g.ex (a.trans e2)
    have := congrArg List.length hk
    rw [List.length_map, List.length_map] at this
    exact ⟨d, kv, rfl, hn, by rw [this]; exact k H2 e2⟩
theorem key_data {α : Type} {kk : α → NestedKey} {enc : α → PyData} (henc : ∀ x, (kk x).data = enc x) {kv : List (NestedKey × V)} {L : List α} (hk : kv.map (·.1) = L.map kk) : (kv.map fun kv => kv.1.data) = L.map enc := by
  have := congrArg (List.map NestedKey.data) hk
  rw [List.map_map, List.map_map] at this
  rw [show (kv.map fun kv => kv.1.data) = kv.map (NestedKey.data ∘ fun x => x.1) from rfl, this]
  exact List.map_congr_left fun x _ => henc x
theorem d_listG {d : Addr} {L : List Gram} (h : Evl.Ev te σ H (.ref d)) (g : GrN P w K H d L) : EvD K (tCB (rListN P w K) (tCons te tNil)) σ H (.list (L.map gramD)) := fun H1 a Q k =>
  h H1 a _ fun H2 e2 => by
    obtain ⟨kv, hn, hk⟩ := g.ex (a.trans e2)
    refine ⟨d, kv, rfl, hn, fun p vs hp hv => ?_⟩
    rw [key_data gramK_data hk] at hv
    exact k _ _ (e2.trans (Evl.Ex.new hp)) (.lst (.of upd_same) (exa (Evl.Ex.new hp) hv))
theorem d_listC {d : Addr} {L : List Cxt} (h : Evl.Ev te σ H (.ref d)) (g : CxN P w K H d L) : EvD K (tCB (rListN P w K) (tCons te tNil)) σ H (.list (L.map ctxD)) := fun H1 a Q k =>
  h H1 a _ fun H2 e2 => by
    obtain ⟨kv, hn, hk⟩ := g.ex (a.trans e2)
    refine ⟨d, kv, rfl, hn, fun p vs hp hv => ?_⟩
    rw [key_data ctxK_data hk] at hv
    exact k _ _ (e2.trans (Evl.Ex.new hp)) (.lst (.of upd_same) (exa (Evl.Ex.new hp) hv))
end
/-! ### grown_once -/
def spGrow (P : Program) (w : World) (K : PySem.W.Frag) : Sp := fun vs H Q _ => ∃ m T S c n dl dr dc L R C, vs = [.ref m, .ref dl, .ref dr, .ref dc] ∧ MachAt K H m T ∧ TblOk T S c ∧ 1 ≤ n ∧ n ≤ 1000 ∧ G3 P w K H dl dr dc L R C ∧ L.length ≤ 200 ∧ R.length ≤ 200 ∧ C.length ≤ 200 ∧
  (∀ g ∈ L, GramOk n c g) ∧ (∀ g ∈ R, GramOk n c g) ∧ (∀ x ∈ C, CtxOk n S c x) ∧
  (∀ H', Mut3 H H' dl dr dc → Q .non H') ∧
  ∀ H' L' R' C', Mut3 H H' dl dr dc → KeepS H H' → G3 P w K H' dl dr dc L' R' C' → Grown T S c n L R C L' R' C' → (L' = L → R' = R → C' = C → ∀ x ∈ C, Closed T L R C x) → Q (.int (((L'.length + R'.length + C'.length : Nat) : Int) - ((L.length + R.length + C.length : Nat) : Int))) H'
theorem sc_grown_once : FnScope ["machine", "lefts", "rights", "contexts", "many", "context", "entry", "new"] ["machine", "lefts", "rights", "contexts"] (defScope (top 45)) := ⟨rfl, rfl, rfl, by decide +kernel, rfl, by decide +kernel, by decide +kernel⟩
theorem h_grown_once (T : Top K mg) : Has P w K mg base "grown_once" ["machine", "lefts", "rights", "contexts"] 2 (spGrow P w K) := by
  have H_entry_at : Has P w K mg base "entry_at" ["machine", "context"] 1 (SpD K (REntryAt K)) := h_entry_at T
  have H_contexts_behind : Has P w K mg base "contexts_behind" ["machine", "context", "lefts", "rights"] 1 (SpD K (RBehind P w K)) := h_contexts_behind T
  refine mk_has T 29 rfl rfl (fun _ _ _ _ _ _ us hl => match us, hl with | [_, _, _, _], _ => rfl) fun fd F => ?_
  refine F.ok sc_grown_once (fun vs H Q E h => by obtain ⟨_, _, _, _, _, _, _, _, _, _, _, rfl, _⟩ := h; rfl) fun cdv A outer s H vs Q E hr h => ⟨_, PSs.nox (pss_cons (ps_set (i := 4) sc_grown_once.nd rfl (Or.inl rfl) (pe_op op_add (pe_op op_add (pe_callB call_lenN (by rfl) (T.free 56) (by decide +kernel) (pa_cons (pv 1) pa_nil)) (pe_callB call_lenN (by rfl) (T.free 56) (by decide +kernel) (pa_cons (pv 2) pa_nil))) (pe_callB call_lenN (by rfl) (T.free 56) (by decide +kernel) (pa_cons (pv 3) pa_nil))))
      (pss_cons (ps_for PassesOwn.never rfl (pi_list (pe_callTy (call_listN rfl) (by rfl) (T.free 53) (by decide +kernel) (pa_cons (pv 3) pa_nil))) (pg_name (i := 5) sc_grown_once.nd rfl (Or.inl rfl)) (pss_cons (ps_set (i := 6) sc_grown_once.nd rfl (Or.inl rfl) (pe_callH H_entry_at (hr.mono (by decide)) (pa_cons (pv 0) (pa_cons (pv 5) pa_nil))))
      (pss_cons (ps_if (pt_cmpR op_isN (pv 6) pe_non (nomark _)) (pss_one (ps_ret pe_non)) pss_nil)
      (pss_cons (ps_if (pt_cmpR op_eq (pe_ix ix_tup (pv 6) pe_int (fun _ _ => rfl)) pe_str (nomark _)) (pss_one (ps_nput hr.units (pv 1) (pe_ix ix_tup (pv 5) pe_int (fun _ _ => rfl)) pe_bl rfl)) (pss_one (ps_nput hr.units (pv 2) (pe_ix ix_tup (pv 5) pe_int (fun _ _ => rfl)) pe_bl rfl)))
      (pss_one (ps_for PassesOwn.never rfl (pi_list (pe_callH H_contexts_behind (hr.mono (by decide)) (pa_cons (pv 0) (pa_cons (pv 5) (pa_cons (pv 1) (pa_cons (pv 2) pa_nil)))))) (pg_name (i := 7) sc_grown_once.nd rfl (Or.inl rfl)) (pss_one (ps_nput hr.units (pv 3) (pv 7) pe_bl rfl))))))))
      (pss_one (ps_ret (pe_op op_sub (pe_op op_add (pe_op op_add (pe_callB call_lenN (by rfl) (T.free 56) (by decide +kernel) (pa_cons (pv 1) pa_nil)) (pe_callB call_lenN (by rfl) (T.free 56) (by decide +kernel) (pa_cons (pv 2) pa_nil))) (pe_callB call_lenN (by rfl) (T.free 56) (by decide +kernel) (pa_cons (pv 3) pa_nil))) (pv 4)))))), ?_⟩
  obtain ⟨m, Tb, S, c, n, dl, dr, dc, L0, R0, C0, rfl, hm, hT, n1, n2, G, zl, zr, zc, okL, okR, okC, k0, k1⟩ := h
  simp only [L2.start, List.map_cons, List.map_nil, List.length_cons, List.length_nil, Nat.reduceAdd, Nat.reduceSub, List.replicate_succ, List.replicate_zero, List.cons_append, List.nil_append]
  refine Evl.q_asg (Evl.ev_is (Evl.ev_op (Evl.ev_op (ev_lenG (Evl.ev_var rfl) G.l) (ev_lenG (Evl.ev_var rfl) G.r) Evl.rv_I0) (ev_lenC (Evl.ev_var rfl) G.c) Evl.rv_I0) (show _ = V.int ((L0.length + R0.length + C0.length : Nat) : Int) by congr 1)) fun H1 e1 => ?_
  simp only [List.set_cons_succ, List.set_cons_zero]
  refine qD_forL (d_listC (Evl.ev_var rfl) (G.c.ex e1)) (fun v i σ' H' => ∃ u1 u2 u3 L R C, σ' = [some (.ref m), some (.ref dl), some (.ref dr), some (.ref dc), some (.int ((L0.length + R0.length + C0.length : Nat) : Int)), u1, u2, u3] ∧ Dp K H' v (.list (C0.map ctxD)) ∧ MachAt K H' m Tb ∧ Mut3 H H' dl dr dc ∧ KeepS H H' ∧ G3 P w K H' dl dr dc L R C ∧ GrowAt Tb S c n L0 R0 C0 i L R C)
    (fun v H2 e2 q => ⟨none, none, none, L0, R0, C0, rfl, q, (hm.ex e1).ex e2, .of_ex (e1.trans e2), .of_ex (e1.trans e2), (G.ex e1).ex e2, ⟨List.prefix_rfl, List.prefix_rfl, List.prefix_rfl, okL, okR, okC, fun g hg => .inl hg, fun g hg => .inl hg⟩, by omega, by omega, by omega, fun x hx => by simp at hx⟩) (fun v i σ' H' _ h => by obtain ⟨_, _, _, _, _, _, _, h, _⟩ := h; exact h) ?_ ?_
  · rintro v i y dd σ' H' hi hy ⟨u1, u2, u3, L, R, C, rfl, qv, hm', mm, ks, G', ga⟩
    rw [List.getElem?_map] at hi
    obtain ⟨x, hx, rfl⟩ := Option.map_eq_some_iff.mp hi
    have hi2 := (List.getElem?_eq_some_iff.mp hx).1
    have hxm := List.mem_of_getElem? hx
    have cok := okC x hxm
    have zL := ga.lenL
    have zR := ga.lenR
    have zC := ga.lenC
    refine qD_asg (d_entryAt (Evl.ev_var rfl) (dv (v := y) rfl hy) hm' hT cok) fun ve H2 e2 q2 => ?_
    simp only [List.set_cons_succ, List.set_cons_zero]
    refine Evl.q_when (Evl.et_test (d_isN (dv (v := ve) rfl q2))) (fun hb H3 e3 => Evl.s_ret Evl.ev_c fun H4 e4 => k0 H4 (mm.trans (.of_ex ((e2.trans e3).trans e4)))) (fun hb H3 e3 => ?_)
    cases he : entry Tb x.2.1 x.2.2.1 with
    | none => rw [he] at hb; cases hb
    | some e =>
      rw [he] at q2
      have e23 := e2.trans e3
      have hy3 := exd e23 hy
      have q3 := exd e3 q2
      have G3' := G'.ex e23
      have gx1 := cok.1
      have gx2 := cok.2.2.2
      refine q_ifK (fun σ' H' => σ' = [some (.ref m), some (.ref dl), some (.ref dr), some (.ref dc), some (.int ((L0.length + R0.length + C0.length : Nat) : Int)), some y, some ve, u3] ∧ Mut3 H H' dl dr dc ∧ KeepS H H' ∧ MachAt K H' m Tb ∧ Dp K H' v (.list (C0.map ctxD)) ∧ Dp K H' y (ctxD x) ∧ G3 P w K H' dl dr dc (if e.r then ins L x.1 else L) (if e.r then R else ins R x.2.2.2) C) (b := e.r)
        (Evl.et_is (Evl.et_test (Evl.ev_op (EvD.str (d_ixT (d := .str (wayS e.r)) (dv (v := ve) rfl q3) Evl.ev_c rfl)) Evl.ev_c (Evl.rv_eq rfl))) (way_eq e.r)) ?_ (fun hb H4 e4 kk => ?_) (fun hb H4 e4 kk => ?_)
      · rintro σ' H5 ⟨rfl, m5, k5, hm5, qv5, hy5, G5⟩
        have zL1 : (if e.r then ins L x.1 else L).length ≤ 200 + (i + 1) := by
          split
          · exact Nat.le_trans ins_len (by omega)
          · omega
        have zR1 : (if e.r then R else ins R x.2.2.2).length ≤ 200 + (i + 1) := by
          split
          · omega
          · exact Nat.le_trans ins_len (by omega)
        have okL1 : ∀ g ∈ (if e.r then ins L x.1 else L), GramOk n c g := by
          intro g hg
          split at hg
          · rcases ins_mem.mp hg with hg | rfl
            · exact ga.okL g hg
            · exact gx1
          · exact ga.okL g hg
        have okR1 : ∀ g ∈ (if e.r then R else ins R x.2.2.2), GramOk n c g := by
          intro g hg
          split at hg
          · exact ga.okR g hg
          · rcases ins_mem.mp hg with hg | rfl
            · exact ga.okR g hg
            · exact gx2
        have bl := behind_len (e := e) (x := x) (b := 400) (Nat.le_trans zL1 (by omega)) (Nat.le_trans zR1 (by omega))
        refine sD_forL (d_behind (Evl.ev_var rfl) (dv (v := y) rfl hy5) (Evl.ev_var rfl) (Evl.ev_var rfl) hm5 hT cok n1 n2 he G5.l G5.r (by omega) (by omega)) (fun vl i' σ' H' => ∃ u3 C2, σ' = [some (.ref m), some (.ref dl), some (.ref dr), some (.ref dc), some (.int ((L0.length + R0.length + C0.length : Nat) : Int)), some y, some ve, u3] ∧ Dp K H' vl (.list ((behind e x (if e.r then ins L x.1 else L) (if e.r then R else ins R x.2.2.2)).map ctxD)) ∧ Mut3 H H' dl dr dc ∧ KeepS H H' ∧ MachAt K H' m Tb ∧ Dp K H' v (.list (C0.map ctxD)) ∧
            G3 P w K H' dl dr dc (if e.r then ins L x.1 else L) (if e.r then R else ins R x.2.2.2) C2 ∧ C <+: C2 ∧ C2.length ≤ C.length + i' ∧ (∀ z ∈ C2, z ∈ C ∨ z ∈ behind e x (if e.r then ins L x.1 else L) (if e.r then R else ins R x.2.2.2)) ∧ ∀ z ∈ (behind e x (if e.r then ins L x.1 else L) (if e.r then R else ins R x.2.2.2)).take i', z ∈ C2)
          (fun vl H6 e6 q => ⟨u3, C, rfl, q, m5.trans (.of_ex e6), k5.trans (.of_ex e6), hm5.ex e6, exd e6 qv5, G5.ex e6, List.prefix_rfl, Nat.le_refl _, fun z hz => .inl hz, fun z hz => by simp at hz⟩) (fun vl i' σ' H' _ h => by obtain ⟨_, _, _, h, _⟩ := h; exact h) ?_ ?_
        · rintro vl i' y' dd' σ' H6 hi' hy' ⟨u3', C2, rfl, qvl, m6, k6, hm6, qv6, G6, pc, lc, sc, dn⟩
          rw [List.getElem?_map] at hi'
          obtain ⟨z, hz, rfl⟩ := Option.map_eq_some_iff.mp hi'
          have hil := (List.getElem?_eq_some_iff.mp hz).1
          refine s_putC Evl.ev_c (Evl.ev_var rfl) (dv (v := y') rfl hy') G6 (by omega) fun H7 m7 k7 G7 => ?_
          refine ⟨_, _, rfl, Dp.keep k7 _ _ qvl, m6.trans m7, k6.trans k7, mach3 hm6 k7 m7 G6, Dp.keep k7 _ _ qv6, G7, pc.trans ins_pre, Nat.le_trans ins_len (by omega), fun z2 hz2 => ?_, fun z2 hz2 => ?_⟩
          · rcases ins_mem.mp hz2 with h | rfl
            · exact sc z2 h
            · exact .inr (List.mem_of_getElem? hz)
          · have et : (behind e x (if e.r then ins L x.1 else L) (if e.r then R else ins R x.2.2.2)).take (i' + 1) = (behind e x (if e.r then ins L x.1 else L) (if e.r then R else ins R x.2.2.2)).take i' ++ [z] := by rw [List.take_add_one, hz]; rfl
            rw [et, List.mem_append, List.mem_singleton] at hz2
            rcases hz2 with h | rfl
            · exact ins_mem.mpr (.inl (dn z2 h))
            · exact ins_mem.mpr (.inr rfl)
        · rintro vl σ' H6 ⟨u3', C2, rfl, qvl, m6, k6, hm6, qv6, G6, pc, lc, sc, dn⟩
          rw [List.length_map] at lc dn
          rw [List.take_length] at dn
          have pl1 : L <+: (if e.r then ins L x.1 else L) := by split; exact ins_pre; exact List.prefix_rfl
          have pr1 : R <+: (if e.r then R else ins R x.2.2.2) := by split; exact List.prefix_rfl; exact ins_pre
          refine ⟨_, _, _, _, _, C2, rfl, qv6, hm6, m6, k6, G6, ⟨⟨ga.pl.trans pl1, ga.pr.trans pr1, ga.pc.trans pc, okL1, okR1, fun z hz => ?_, fun g hg => ?_, fun g hg => ?_⟩, zL1, zR1, by omega, fun z hz => ?_⟩⟩
          · rcases sc z hz with h | h
            · exact ga.okC z h
            · exact behind_ok hT cok n1 he okL1 okR1 z h
          · split at hg
            · rcases ins_mem.mp hg with h | rfl
              · exact ga.subL g h
              · exact .inr ⟨x, hxm, rfl⟩
            · exact ga.subL g hg
          · split at hg
            · exact ga.subR g hg
            · rcases ins_mem.mp hg with h | rfl
              · exact ga.subR g h
              · exact .inr ⟨x, hxm, rfl⟩
          · have et : C0.take (i + 1) = C0.take i ++ [x] := by rw [List.take_add_one, hx]; rfl
            rw [et, List.mem_append, List.mem_singleton] at hz
            rcases hz with h | rfl
            · exact (ga.done z h).up pl1 pr1 pc
            · exact ⟨e, _, _, he, ga.pl.trans pl1, List.prefix_rfl, ga.pr.trans pr1, List.prefix_rfl, fun hb => by rw [if_pos hb]; exact ins_mem.mpr (.inr rfl), fun hb => by rw [if_neg (by rw [hb]; decide)]; exact ins_mem.mpr (.inr rfl), dn⟩
      · refine s_putL Evl.ev_c (Evl.ev_var rfl) (d_ixT (d := gramD x.1) (dv (v := y) rfl (exd e4 hy3)) Evl.ev_c rfl) (G3'.ex e4) (by omega) fun H5 m5 k5 G5 => kk _ _ ⟨rfl, (mm.trans (.of_ex (e23.trans e4))).trans m5, (ks.trans (.of_ex (e23.trans e4))).trans k5, mach3 (hm'.ex (e23.trans e4)) k5 m5 (G3'.ex e4), Dp.keep k5 _ _ (exd (e23.trans e4) qv), Dp.keep k5 _ _ (exd e4 hy3), ?_⟩
        rw [if_pos hb, if_pos hb]
        exact G5
      · refine s_putR Evl.ev_c (Evl.ev_var rfl) (d_ixT (d := gramD x.2.2.2) (dv (v := y) rfl (exd e4 hy3)) Evl.ev_c rfl) (G3'.ex e4) (by omega) fun H5 m5 k5 G5 => kk _ _ ⟨rfl, (mm.trans (.of_ex (e23.trans e4))).trans m5, (ks.trans (.of_ex (e23.trans e4))).trans k5, mach3 (hm'.ex (e23.trans e4)) k5 m5 (G3'.ex e4), Dp.keep k5 _ _ (exd (e23.trans e4) qv), Dp.keep k5 _ _ (exd e4 hy3), ?_⟩
        rw [if_neg (by rw [hb]; decide), if_neg (by rw [hb]; decide)]
        exact G5
  · rintro v σ' H' ⟨u1, u2, u3, L, R, C, rfl, qv, hm', mm, ks, G', ga⟩
    have hd := ga.done
    rw [List.length_map, List.take_length] at hd
    refine Evl.s_ret (Evl.ev_op (Evl.ev_is (Evl.ev_op (Evl.ev_op (ev_lenG (Evl.ev_var rfl) G'.l) (ev_lenG (Evl.ev_var rfl) G'.r) Evl.rv_I0) (ev_lenC (Evl.ev_var rfl) G'.c) Evl.rv_I0) (show _ = V.int ((L.length + R.length + C.length : Nat) : Int) by congr 1)) (Evl.ev_var rfl) Evl.rv_I0) fun H2 e2 => k1 H2 L R C (mm.trans (.of_ex e2)) (ks.trans (.of_ex e2)) (G'.ex e2) ga.toGrown fun h1 h2 h3 x hx => ?_
    subst h1 h2 h3
    exact (hd x hx).closed
end
end WK
end
section
set_option Elab.async false
set_option linter.all false
set_option maxRecDepth 100000
set_option maxHeartbeats 4000000
/-! Walks: walls found, papers shown and taken. -/
namespace WK
open PySem PySem.Spec PyProof.Rows L2 HD DT2 TX TP ND EN LC
section
variable {P : Program} {w : World} {K : PySem.W.Frag} {mg : Str → Option Value} {base : Heap}
/-! ### wall_of -/
def WallIs (T : Tbl) (S c n : Nat) (d : PyData) : Prop := d = .none ∨ ∃ L R C, d = wallD n L R C ∧ WallOk T S c n L R C ∧ L.length ≤ 1000 ∧ R.length ≤ 1000 ∧ C.length ≤ 1000
def spWallOf (K : PySem.W.Frag) : Sp := fun vs H Q _ => ∃ m T S c n, vs = [.ref m, .int (n : Nat), .int 200] ∧ MachAt K H m T ∧ TblOk T S c ∧ 1 ≤ n ∧ n ≤ 1000 ∧ ∀ d v H', WallIs T S c n d → Ex H H' → Dp K H' v d → Q v H'
theorem q_disp1 {H : Hp} {σ : L2.St} {D : Ends} {tz : TS} {tk tv : TE} {i : Nat} {dd : PyData} {key : NestedKey} {v : V} (hk : EvD K tk σ H dd) (hkey : ∀ H' v, Dp K H' v dd → KeyV K H' v key) (hv : Evl.Ev tv σ H v) (k : ∀ p H1, H p = none → Ex H H1 → DN P w K H1 p [(key, v)] → tz D (σ.set i (some (.ref p))) H1) :
    tSeq (tAsg (tDisp1 P w K tk tv) (gName i)) tz D σ H := fun p hp hn => by
  have e0 : Ex H (upd H p (raw P w p [] 0)) := Evl.Ex.new hp
  refine hk _ e0 _ fun y H1 e1 hy => hv H1 (e0.trans e1) _ fun H2 e2 => ⟨y, v, rfl, e2 _ _ (e1 _ _ upd_same), key, hkey _ _ (exd e2 hy), fun o ho => k p _ hp (Evl.Ex.mut ((e0.trans e1).trans e2) hp) ho⟩
theorem hu_s {a k : Nat} (h : a + 64 < cLine) (hk : k ≤ 62) : a + 2 + k < cLine := by omega
theorem s_ret5 {H : Hp} {σ : L2.St} {D : Ends} {a b c d e : TE} (h : a σ H fun v1 H1 => b σ H1 fun v2 H2 => c σ H2 fun v3 H3 => d σ H3 fun v4 H4 => e σ H4 fun v5 H5 => [v1, v2, v3, v4, v5].length ≤ sizeLine ∧ ∀ p, H5 p = none → D.rt (.ref p) (upd H5 p (.tup [v1, v2, v3, v4, v5]))) :
    tRet (tTup (tCons a (tCons b (tCons c (tCons d (tCons e tNil)))))) D σ H := h
theorem gram_dep (g : Gram) : (gramD g).depth ≤ 1 := by
  rw [← gramK_data, key_depth]; exact gramK_depth g
theorem ctx_dep (g : Cxt) : (ctxD g).depth ≤ 2 := by
  rw [← ctxK_data, key_depth]; exact ctxK_depth g
theorem s_sortG {H : Hp} {σ : L2.St} {te : TE} {d : Addr} {L : List Gram} (h : Evl.Ev te σ H (.ref d)) (g : GrN P w K H d L) (hz : L.length ≤ 40000) (hne : ∀ x ∈ L, x ≠ []) {Q : VK} (k : ∀ (L' : List Gram) (v : V) (H2 : Hp), L'.Perm L → Ex H H2 → Dp K H2 v (.list (L'.map gramD)) → Q v H2) :
    tCB (rSortN K gramD 1) (tCons (tCB (rListN P w K) (tCons te tNil)) tNil) σ H Q := d_listG h g H (Evl.Ex.refl _) _ fun v H1 e1 q => by
  obtain ⟨p, xs, rfl, g1, g2⟩ := dp_lst q
  refine ⟨p, xs, L, rfl, g1, g2, PySem.W.AllAlike.of alike_gram, .inl fun d hd => ?_, Evl.sz_of (by omega), fun b _ => gram_dep b, fun p' vs' L' hp hpm hv => k L' _ _ hpm (e1.trans (Evl.Ex.new hp)) (.lst (.of upd_same) (exa (Evl.Ex.new hp) hv))⟩
  obtain ⟨x, hx, rfl⟩ := List.mem_map.mp hd
  cases x with
  | nil => exact absurd rfl (hne [] hx)
  | cons a x => exact ⟨_, _, rfl⟩
theorem s_sortC {H : Hp} {σ : L2.St} {te : TE} {d : Addr} {L : List Cxt} (h : Evl.Ev te σ H (.ref d)) (g : CxN P w K H d L) (hz : L.length ≤ 40000) {Q : VK} (k : ∀ (L' : List Cxt) (v : V) (H2 : Hp), L'.Perm L → Ex H H2 → Dp K H2 v (.list (L'.map ctxD)) → Q v H2) :
    tCB (rSortN K ctxD 2) (tCons (tCB (rListN P w K) (tCons te tNil)) tNil) σ H Q := d_listC h g H (Evl.Ex.refl _) _ fun v H1 e1 q => by
  obtain ⟨p, xs, rfl, g1, g2⟩ := dp_lst q
  exact ⟨p, xs, L, rfl, g1, g2, PySem.W.AllAlike.of alike_ctx, PySem.W.Sortable.tuples fun b => ⟨_, _, rfl⟩, Evl.sz_of (by omega), fun b _ => ctx_dep b, fun p' vs' L' hp hpm hv => k L' _ _ hpm (e1.trans (Evl.Ex.new hp)) (.lst (.of upd_same) (exa (Evl.Ex.new hp) hv))⟩
theorem wall_perm {T : Tbl} {S c n : Nat} {L R L' R' : List Gram} {C C' : List Cxt} (h : WallOk T S c n L R C) (hl : L'.Perm L) (hr : R'.Perm R) (hc : C'.Perm C) : WallOk T S c n L' R' C' :=
  ⟨h.pos, hl.mem_iff.mpr h.bL, hr.mem_iff.mpr h.bR, hc.mem_iff.mpr h.bC, fun x hx => closed_same (h.cl x (hc.mem_iff.mp hx)) (fun _ => hl.mem_iff) (fun _ => hr.mem_iff) (fun _ => hc.mem_iff), fun g hg => h.okL g (hl.mem_iff.mp hg), fun g hg => h.okR g (hr.mem_iff.mp hg), fun x hx => h.okC x (hc.mem_iff.mp hx)⟩
theorem blank_ok {n c : Nat} (hc : 1 ≤ c) : GramOk n c (blank n) := ⟨by unfold blank; rw [List.length_replicate], fun x hx => by unfold blank at hx; rw [(List.mem_replicate.mp hx).2]; exact hc⟩
theorem q_grow {H : Hp} {σ : L2.St} {D : Ends} {tz : TS} {ta : TA} {i m S c n dl dr dc : Nat} {E : XK} {Tb : Tbl} {L R : List Gram} {C : List Cxt} (h : Evl.EvA ta σ H [.ref m, .ref dl, .ref dr, .ref dc]) (hm : MachAt K H m Tb) (hT : TblOk Tb S c) (n1 : 1 ≤ n) (n2 : n ≤ 1000) (G : G3 P w K H dl dr dc L R C) (zl : L.length ≤ 200) (zr : R.length ≤ 200) (zc : C.length ≤ 200)
    (okL : ∀ g ∈ L, GramOk n c g) (okR : ∀ g ∈ R, GramOk n c g) (okC : ∀ x ∈ C, CtxOk n S c x) (k0 : ∀ H', Mut3 H H' dl dr dc → tz D (σ.set i (some .non)) H')
    (k1 : ∀ H' L' R' C', Mut3 H H' dl dr dc → KeepS H H' → G3 P w K H' dl dr dc L' R' C' → Grown Tb S c n L R C L' R' C' → (L' = L → R' = R → C' = C → ∀ x ∈ C, Closed Tb L R C x) → tz D (σ.set i (some (.int (((L'.length + R'.length + C'.length : Nat) : Int) - ((L.length + R.length + C.length : Nat) : Int))))) H') :
    tSeq (tAsg (tCall (spGrow P w K) [] E ta) (gName i)) tz D σ H := h H (Evl.Ex.refl _) _ fun H1 e1 => ⟨m, Tb, S, c, n, dl, dr, dc, L, R, C, rfl, hm.ex e1, hT, n1, n2, G.ex e1, zl, zr, zc, okL, okR, okC, fun H' mm => k0 H' ((Mut3.of_ex e1).trans mm), fun H' L' R' C' mm ks G' gr cl => k1 H' L' R' C' ((Mut3.of_ex e1).trans mm) ((KeepS.of_ex e1).trans ks) G' gr cl⟩
theorem nd_map {α : Type} {kk : α → NestedKey} {l : List α} (h : (l.map kk).Nodup) : l.Nodup := (List.pairwise_map.mp h).imp fun h e => h (by rw [e])
theorem GrN.nodup {H : Hp} {d : Addr} {L : List Gram} (h : GrN P w K H d L) : L.Nodup := by
  obtain ⟨kv, hn, hk⟩ := h
  have := hn.nodup
  rw [hk] at this
  exact nd_map this
theorem sc_wall_of : FnScope ["machine", "width", "most", "blank", "lefts", "rights", "contexts", "came"] ["machine", "width", "most"] (defScope (top 46)) := ⟨rfl, rfl, rfl, by decide +kernel, rfl, by decide +kernel, by decide +kernel⟩
theorem h_wall_of (T : Top K mg) : Has P w K mg base "wall_of" ["machine", "width", "most"] 3 (spWallOf K) := by
  have H_grown_once : Has P w K mg base "grown_once" ["machine", "lefts", "rights", "contexts"] 2 (spGrow P w K) := h_grown_once T
  refine mk_has T 30 rfl rfl (fun _ _ _ _ _ _ us hl => match us, hl with | [_, _, _], _ => rfl) fun fd F => ?_
  refine F.ok sc_wall_of (fun vs H Q E h => by obtain ⟨_, _, _, _, _, rfl, _⟩ := h; rfl) fun cdv A outer s H vs Q E hr h => ⟨_, PSs.nox (pss_cons (ps_if (pt_cmpR op_lt (pv 1) pe_int (nomark _)) (pss_one ps_never) pss_nil)
      (pss_cons (ps_set (i := 3) sc_wall_of.nd rfl (Or.inl rfl) (pe_op op_repTW (pe_tup (pa_cons pe_int pa_nil)) (pv 1)))
      (pss_cons (ps_set (i := 4) sc_wall_of.nd rfl (Or.inl rfl) (pe_disp1 hr.units (pv 3) pe_bl))
      (pss_cons (ps_set (i := 5) sc_wall_of.nd rfl (Or.inl rfl) (pe_disp1 hr.units (pv 3) pe_bl))
      (pss_cons (ps_set (i := 6) sc_wall_of.nd rfl (Or.inl rfl) (pe_disp1 hr.units (pe_tup (pa_cons (pv 3) (pa_cons pe_int (pa_cons pe_int (pa_cons (pv 3) pa_nil))))) pe_bl))
      (pss_cons (ps_set (i := 7) sc_wall_of.nd rfl (Or.inl rfl) pe_int)
      (pss_cons (ps_while PassesOwn.never (pt_cmpR op_gt (pv 7) pe_int (nomark _)) (pss_cons (ps_if (pt_cmpR op_gt (pe_callB call_lenN (by rfl) (T.free 56) (by decide +kernel) (pa_cons (pv 6) pa_nil)) (pv 2) (nomark _)) (pss_one (ps_ret pe_non)) pss_nil)
      (pss_cons (ps_set (i := 7) sc_wall_of.nd rfl (Or.inl rfl) (pe_callH H_grown_once (hr.mono (by decide)) (pa_cons (pv 0) (pa_cons (pv 4) (pa_cons (pv 5) (pa_cons (pv 6) pa_nil))))))
      (pss_one (ps_if (pt_cmpR op_isN (pv 7) pe_non (nomark _)) (pss_one (ps_ret pe_non)) pss_nil)))))
      (pss_one (ps_ret (pe_tup (pa_cons pe_str (pa_cons (pv 1) (pa_cons (pe_callB (cr_sortedN gramD 1 (hu_s hr.units (by decide))) (by rfl) (T.free 58) (by decide +kernel) (pa_cons (pe_callTy (call_listN rfl) (by rfl) (T.free 53) (by decide +kernel) (pa_cons (pv 4) pa_nil)) pa_nil)) (pa_cons (pe_callB (cr_sortedN gramD 1 (hu_s hr.units (by decide))) (by rfl) (T.free 58) (by decide +kernel) (pa_cons (pe_callTy (call_listN rfl) (by rfl) (T.free 53) (by decide +kernel) (pa_cons (pv 5) pa_nil)) pa_nil)) (pa_cons (pe_callB (cr_sortedN ctxD 2 (hu_s hr.units (by decide))) (by rfl) (T.free 58) (by decide +kernel) (pa_cons (pe_callTy (call_listN rfl) (by rfl) (T.free 53) (by decide +kernel) (pa_cons (pv 6) pa_nil)) pa_nil)) pa_nil))))))))))))))), ?_⟩
  obtain ⟨m, Tb, S, c, n, rfl, hm, hT, n1, n2, k⟩ := h
  simp only [L2.start, List.map_cons, List.map_nil, List.length_cons, List.length_nil, Nat.reduceAdd, Nat.reduceSub, List.replicate_succ, List.replicate_zero, List.cons_append, List.nil_append]
  refine Evl.q_when (b := false) (Evl.et_is (Evl.et_test (Evl.ev_op (Evl.ev_var rfl) Evl.ev_c Evl.rv_I0)) (decide_eq_false (by omega))) (fun z => nomatch z) fun _ H1 e1 => ?_
  refine qD_asg (d_blank (n := n) (d_tup (ds := [.int 0]) (as_d (Ev.int Evl.ev_c) as_nil)) (Evl.ev_var rfl) n1 n2) fun vb H2 e2 qb => ?_
  simp only [List.set_cons_succ, List.set_cons_zero]
  have bo := blank_ok (n := n) hT.c1
  refine q_disp1 (P := P) (w := w) (key := gramK (blank n)) (dv (v := vb) rfl qb) (fun _ _ => keyV_gram) Evl.ev_c fun dl H3 hl3 e3 hN3 => ?_
  simp only [List.set_cons_succ, List.set_cons_zero]
  refine q_disp1 (P := P) (w := w) (key := gramK (blank n)) (dv (v := vb) rfl (exd e3 qb)) (fun _ _ => keyV_gram) Evl.ev_c fun dr H4 hr4 e4 hN4 => ?_
  simp only [List.set_cons_succ, List.set_cons_zero]
  have qb4 := exd (e3.trans e4) qb
  refine q_disp1 (P := P) (w := w) (key := ctxK (blank n, 0, 0, blank n)) (dd := ctxD (blank n, 0, 0, blank n)) (d_tup (ds := [gramD (blank n), .int 0, .int 0, gramD (blank n)]) (as_d (dv (v := vb) rfl qb4) (as_d (Ev.int Evl.ev_c) (as_d (Ev.int Evl.ev_c) (as_d (dv (v := vb) rfl qb4) as_nil))))) (fun _ _ => keyV_ctx) Evl.ev_c fun dc H5 hc5 e5 hN5 => ?_
  simp only [List.set_cons_succ, List.set_cons_zero]
  refine Evl.q_asg Evl.ev_c fun H6 e6 => ?_
  simp only [List.set_cons_succ, List.set_cons_zero]
  have e02 := e1.trans e2
  have nl : dl ≠ dr := fun e => by
    obtain ⟨φ, hφ⟩ := hN3.there
    rw [e, hr4] at hφ; cases hφ
  have nc : dl ≠ dc := fun e => by
    obtain ⟨φ, hφ⟩ := hN3.there
    have := e4 _ _ hφ
    rw [e, hc5] at this; cases this
  have nrc : dr ≠ dc := fun e => by
    obtain ⟨φ, hφ⟩ := hN4.there
    rw [e, hc5] at hφ; cases hφ
  have fl : H dl = none := Evl.fresh_back e02 hl3
  have fr : H dr = none := Evl.fresh_back (e02.trans e3) hr4
  have fc : H dc = none := Evl.fresh_back ((e02.trans e3).trans e4) hc5
  have e05 := (((e02.trans e3).trans e4).trans e5).trans e6
  have G : G3 P w K H6 dl dr dc [blank n] [blank n] [(blank n, 0, 0, blank n)] := ⟨⟨_, hN3.ex ((e4.trans e5).trans e6), rfl⟩, ⟨_, hN4.ex (e5.trans e6), rfl⟩, ⟨_, hN5.ex e6, rfl⟩, nl, nc, nrc⟩
  refine Evl.q_while (fun m' σ' H' => ∃ L R C, ∃ came : Int, σ' = [some (.ref m), some (.int (n : Nat)), some (.int 200), some vb, some (.ref dl), some (.ref dr), some (.ref dc), some (.int came)] ∧ Ex H H' ∧ G3 P w K H' dl dr dc L R C ∧ (∀ g ∈ L, GramOk n c g) ∧ (∀ g ∈ R, GramOk n c g) ∧ (∀ x ∈ C, CtxOk n S c x) ∧
      (∀ g ∈ L, ∃ x ∈ C, x.1 = g) ∧ (∀ g ∈ R, ∃ x ∈ C, x.2.2.2 = g) ∧ blank n ∈ L ∧ blank n ∈ R ∧ (blank n, 0, 0, blank n) ∈ C ∧ (¬ 0 < came → (∀ x ∈ C, Closed Tb L R C x) ∧ C.length ≤ 200) ∧ m' = 2 * (1000 - (L.length + R.length + C.length)) + (if 0 < came then 1 else 0))
    (2 * (1000 - 3) + 1) ⟨[blank n], [blank n], [(blank n, 0, 0, blank n)], 1, rfl, e05, G, (fun g hg => by rw [List.mem_singleton.mp hg]; exact bo), (fun g hg => by rw [List.mem_singleton.mp hg]; exact bo), (fun x hx => by rw [List.mem_singleton.mp hx]; exact ⟨bo, hT.s1, hT.c1, bo⟩), (fun g hg => ⟨_, List.mem_singleton.mpr rfl, (List.mem_singleton.mp hg).symm⟩), (fun g hg => ⟨_, List.mem_singleton.mpr rfl, (List.mem_singleton.mp hg).symm⟩), List.mem_singleton.mpr rfl, List.mem_singleton.mpr rfl, List.mem_singleton.mpr rfl, (fun h => absurd (by decide) h), rfl⟩ ?_
  rintro m' σ' H7 ⟨L, R, C, came, rfl, e7, G7, okL, okR, okC, sL, sR, bL, bR, bC, cl, rfl⟩
  have lL : L.length ≤ C.length := by
    have := nodup_le (M := C.map (·.1)) G7.l.nodup fun g hg => by
      obtain ⟨x, hx, rfl⟩ := sL g hg
      exact List.mem_map.mpr ⟨x, hx, rfl⟩
    rw [List.length_map] at this
    exact this
  have lR : R.length ≤ C.length := by
    have := nodup_le (M := C.map (·.2.2.2)) G7.r.nodup fun g hg => by
      obtain ⟨x, hx, rfl⟩ := sR g hg
      exact List.mem_map.mpr ⟨x, hx, rfl⟩
    rw [List.length_map] at this
    exact this
  refine ⟨decide (0 < came), Evl.et_test (Evl.ev_op (Evl.ev_var rfl) Evl.ev_c Evl.rv_I0), fun hb H8 e8 => ?_, fun hb H8 e8 => ?_⟩
  · have hc0 := of_decide_eq_true hb
    have G8 := G7.ex e8
    have e08 := e7.trans e8
    refine ⟨fun σ2 H2 => ∃ L2 R2 C2, ∃ came2 : Int, σ2 = [some (.ref m), some (.int (n : Nat)), some (.int 200), some vb, some (.ref dl), some (.ref dr), some (.ref dc), some (.int came2)] ∧ Ex H H2 ∧ G3 P w K H2 dl dr dc L2 R2 C2 ∧ (∀ g ∈ L2, GramOk n c g) ∧ (∀ g ∈ R2, GramOk n c g) ∧ (∀ x ∈ C2, CtxOk n S c x) ∧
      (∀ g ∈ L2, ∃ x ∈ C2, x.1 = g) ∧ (∀ g ∈ R2, ∃ x ∈ C2, x.2.2.2 = g) ∧ blank n ∈ L2 ∧ blank n ∈ R2 ∧ (blank n, 0, 0, blank n) ∈ C2 ∧ (¬ 0 < came2 → (∀ x ∈ C2, Closed Tb L2 R2 C2 x) ∧ C2.length ≤ 200) ∧ C.length ≤ 200 ∧ came2 = ((L2.length + R2.length + C2.length : Nat) : Int) - ((L.length + R.length + C.length : Nat) : Int) ∧ L.length + R.length + C.length ≤ L2.length + R2.length + C2.length,
      fun σ2 H2 ⟨L2, R2, C2, came2, h1, h2, h3, h4, h5, h6, h7, h8, h9, h10, h11, h12, h13, h14, h15⟩ => ⟨_, ?_, L2, R2, C2, came2, h1, h2, h3, h4, h5, h6, h7, h8, h9, h10, h11, h12, rfl⟩, ?_⟩
    · rw [if_pos hc0]
      by_cases q : 0 < came2
      · rw [if_pos q]; omega
      · rw [if_neg q]; omega
    · refine Evl.q_when (Evl.et_test (Evl.ev_op (ev_lenC (P := P) (w := w) (Evl.ev_var rfl) G8.c) (Evl.ev_var rfl) Evl.rv_I0)) (fun hb H9 e9 => sD_ret (Ev.non Evl.ev_c) fun v H10 e10 q => k _ v H10 (.inl rfl) ((e08.trans e9).trans e10) q) fun hb H9 e9 => ?_
      have zc : C.length ≤ 200 := by have := of_decide_eq_false hb; omega
      have e09 := e08.trans e9
      refine q_grow (Evl.ea_cons (Evl.ev_var rfl) (Evl.ea_cons (Evl.ev_var rfl) (Evl.ea_cons (Evl.ev_var rfl) (Evl.ea_cons (Evl.ev_var rfl) Evl.ea_nil)))) (hm.ex e09) hT n1 n2 (G8.ex e9) (by omega) (by omega) zc okL okR okC (fun H10 m10 => ?_) fun H10 L' R' C' m10 k10 G10 gr gc => ?_
      · exact Evl.s_when (b := true) (Evl.et_test (Evl.ev_op (Evl.ev_var (v := .non) rfl) Evl.ev_c (fun H1 _ Q q => ⟨rfl, q H1 (Evl.Ex.refl _)⟩))) (fun _ H11 e11 => sD_ret (Ev.non Evl.ev_c) fun v H12 e12 q => k _ v H12 (.inl rfl) (((m10.ex e09 fl fr fc).trans e11).trans e12) q) (fun z => nomatch z)
      · simp only [List.set_cons_succ, List.set_cons_zero]
        have e010 := m10.ex e09 fl fr fc
        refine Evl.s_when (b := false) (Evl.et_test (d_isN (K := K) (dv rfl (.int _)))) (fun z => nomatch z) fun _ H11 e11 => ?_
        have len1 := gr.pl.length_le
        have len2 := gr.pr.length_le
        have len3 := gr.pc.length_le
        refine ⟨L', R', C', _, rfl, e010.trans e11, G10.ex e11, gr.okL, gr.okR, gr.okC, fun g hg => ?_, fun g hg => ?_, gr.pl.subset bL, gr.pr.subset bR, gr.pc.subset bC, fun hn => ?_, zc, rfl, by omega⟩
        · rcases gr.subL g hg with h | ⟨x, hx, h⟩
          · obtain ⟨x, hx, h⟩ := sL g h
            exact ⟨x, gr.pc.subset hx, h⟩
          · exact ⟨x, gr.pc.subset hx, h⟩
        · rcases gr.subR g hg with h | ⟨x, hx, h⟩
          · obtain ⟨x, hx, h⟩ := sR g h
            exact ⟨x, gr.pc.subset hx, h⟩
          · exact ⟨x, gr.pc.subset hx, h⟩
        · have h1 := pre_eq gr.pl (by omega)
          have h2 := pre_eq gr.pr (by omega)
          have h3 := pre_eq gr.pc (by omega)
          subst h1 h2 h3
          exact ⟨gc rfl rfl rfl, zc⟩
  · have hc0 := of_decide_eq_false hb
    obtain ⟨cl1, zc⟩ := cl hc0
    have G8 := G7.ex e8
    have e08 := e7.trans e8
    have hW : WallOk Tb S c n L R C := ⟨n1, bL, bR, bC, cl1, okL, okR, okC⟩
    have ne : ∀ g, GramOk n c g → g ≠ [] := fun g h z => by
      have := h.1
      rw [z] at this
      simp at this
      omega
    refine s_ret5 ?_
    refine Evl.ev_c H8 (Evl.Ex.refl _) _ fun H9 e9 => ?_
    refine Evl.ev_var rfl H9 (Evl.Ex.refl _) _ fun H10 e10 => ?_
    have e8a := e9.trans e10
    show tCB (rSortN K gramD 1) (tCons (tCB (rListN P w K) (tCons (tVar 4) tNil)) tNil) _ _ _
    refine s_sortG (P := P) (w := w) (Evl.ev_var rfl) (G8.ex e8a).l (by omega) (fun g hg => ne g (okL g hg)) fun L' v1 H11 p1 e11 q1 => ?_
    show tCB (rSortN K gramD 1) (tCons (tCB (rListN P w K) (tCons (tVar 5) tNil)) tNil) _ _ _
    refine s_sortG (P := P) (w := w) (Evl.ev_var rfl) (G8.ex (e8a.trans e11)).r (by omega) (fun g hg => ne g (okR g hg)) fun R' v2 H12 p2 e12 q2 => ?_
    show tCB (rSortN K ctxD 2) (tCons (tCB (rListN P w K) (tCons (tVar 6) tNil)) tNil) _ _ _
    refine s_sortC (P := P) (w := w) (Evl.ev_var rfl) (G8.ex ((e8a.trans e11).trans e12)).c (by omega) fun C' v3 H13 p3 e13 q3 => ?_
    refine ⟨Evl.sz_of (by simp), fun p hp => k (wallD n L' R' C') _ _ (.inr ⟨L', R', C', rfl, wall_perm hW p1 p2 p3, by have := p1.length_eq; omega, by have := p2.length_eq; omega, by have := p3.length_eq; omega⟩) ((((e08.trans e8a).trans e11).trans (e12.trans e13)).trans (Evl.Ex.new hp)) (.tup (.of upd_same) ?_)⟩
    have en := Evl.Ex.new (o := HO.tup [.str "wall", .int (n : Nat), v1, v2, v3]) hp
    exact .cons (.str _) (.cons (.int _) (.cons (exd ((e12.trans e13).trans en) q1) (.cons (exd (e13.trans en) q2) (.cons (exd en q3) .nil))))
end
end WK
end
section
set_option Elab.async false
set_option linter.all false
set_option maxRecDepth 100000
set_option maxHeartbeats 4000000
/-! Walks: papers shown and taken. -/
namespace WK
open PySem PySem.Spec PyProof.Rows L2 HD DT2 TX TP ND EN LC
theorem Top_most {K : PySem.W.Frag} {mg : Str → Option Value} (T : Top K mg) : ∃ t, mg "MOST_CONTEXTS" = some (.int 200 t) := by
  obtain ⟨h, X, G⟩ := T.h
  exact He.int_ok X G (He.SaysD.fact T.d 77 (f := .int "MOST_CONTEXTS" 200) (by rfl))
section
variable {P : Program} {w : World} {K : PySem.W.Frag} {mg : Str → Option Value} {base : Heap}
/-! ### papers -/
def PaperOk (T : Tbl) (S c : Nat) (p : PyData) : Prop := (∃ f l : Nat, ∃ s, p = roundD "same" f l ∧ f < l ∧ l ≤ 1000 ∧ runs T f = some s ∧ runs T l = some s) ∨ (∃ f l : Nat, p = roundD "shifted" f l ∧ ShiftOk T f l ∧ l ≤ 1000) ∨
  ∃ n L R C, p = wallD n L R C ∧ WallOk T S c n L R C ∧ n ≤ 1000 ∧ L.length ≤ 10000 ∧ R.length ≤ 10000 ∧ C.length ≤ 10000
def PapIs (T : Tbl) (S c : Nat) (N : Prop) (d : PyData) : Prop := (d = .none ∧ N) ∨ PaperOk T S c d
theorem PaperOk.no {T : Tbl} {S c : Nat} {p : PyData} (h : PaperOk T S c p) : isNone p = false := by
  rcases h with ⟨_, _, _, rfl, _⟩ | ⟨_, _, rfl, _⟩ | ⟨_, _, _, _, rfl, _⟩ <;> rfl
/-! ### first_wall -/
def FWIs (T : Tbl) (S c : Nat) (d : PyData) : Prop := d = .none ∨ ∃ n L R C, d = wallD n L R C ∧ WallOk T S c n L R C ∧ n ≤ 2 ∧ L.length ≤ 1000 ∧ R.length ≤ 1000 ∧ C.length ≤ 1000
def spFirstWall (K : PySem.W.Frag) : Sp := fun vs H Q _ => ∃ m T S c n, vs = [.ref m, .int (n : Nat)] ∧ MachAt K H m T ∧ TblOk T S c ∧ n ≤ 2 ∧ ∀ d v H', FWIs T S c d → Ex H H' → Dp K H' v d → Q v H'
theorem q_wallOf {H : Hp} {σ : L2.St} {D : Ends} {tz : TS} {ta : TA} {i m S c n : Nat} {E : XK} {Tb : Tbl} (h : Evl.EvA ta σ H [.ref m, .int (n : Nat), .int 200]) (hm : MachAt K H m Tb) (hT : TblOk Tb S c) (n1 : 1 ≤ n) (n2 : n ≤ 1000) (k : ∀ d v H', WallIs Tb S c n d → Ex H H' → Dp K H' v d → tz D (σ.set i (some v)) H') :
    tSeq (tAsg (tCall (spWallOf K) [] E ta) (gName i)) tz D σ H := h H (Evl.Ex.refl _) _ fun H1 e1 => ⟨m, Tb, S, c, n, rfl, hm.ex e1, hT, n1, n2, fun d v H' hd e q => k d v H' hd (e1.trans e) q⟩
theorem s_firstWall {H : Hp} {σ : L2.St} {D : Ends} {ta : TA} {i m S c n : Nat} {E : XK} {Tb : Tbl} (h : Evl.EvA ta σ H [.ref m, .int (n : Nat)]) (hm : MachAt K H m Tb) (hT : TblOk Tb S c) (n2 : n ≤ 2) (k : ∀ d v H', FWIs Tb S c d → Ex H H' → Dp K H' v d → D.nx (σ.set i (some v)) H') :
    tAsg (tCall (spFirstWall K) [] E ta) (gName i) D σ H := h H (Evl.Ex.refl _) _ fun H1 e1 => ⟨m, Tb, S, c, n, rfl, hm.ex e1, hT, n2, fun d v H' hd e q => k d v H' hd (e1.trans e) q⟩
theorem sc_first_wall : FnScope ["machine", "width", "wide", "paper"] ["machine", "width"] (defScope (top 49)) := ⟨rfl, rfl, rfl, by decide +kernel, rfl, by decide +kernel, by decide +kernel⟩
theorem h_first_wall (T : Top K mg) : Has P w K mg base "first_wall" ["machine", "width"] 4 (spFirstWall K) := by
  have H_wall_of : Has P w K mg base "wall_of" ["machine", "width", "most"] 3 (spWallOf K) := h_wall_of T
  obtain ⟨tk, mostC⟩ := Top_most T
  refine mk_has T 31 rfl rfl (fun _ _ _ _ _ _ us hl => match us, hl with | [_, _], _ => rfl) fun fd F => ?_
  refine F.ok sc_first_wall (fun vs H Q E h => by obtain ⟨_, _, _, _, _, rfl, _⟩ := h; rfl) fun cdv A outer s H vs Q E hr h => ⟨_, PSs.nox (pss_cons (ps_for PassesOwn.never rfl (pi_range2 (by rfl) (T.free 59) (pa_cons pe_int (pa_cons (pe_op op_add (pv 1) pe_int) pa_nil))) (pg_name (i := 2) sc_first_wall.nd rfl (Or.inl rfl)) (pss_cons (ps_set (i := 3) sc_first_wall.nd rfl (Or.inl rfl) (pe_callH H_wall_of (hr.mono (by decide)) (pa_cons (pv 0) (pa_cons (pv 2) (pa_cons (pe_glob (v := .int 200) rfl mostC ⟨_, rfl⟩) pa_nil)))))
      (pss_one (ps_if (pt_cmpR op_notN (pv 3) pe_non (nomark _)) (pss_one (ps_ret (pv 3))) pss_nil))))
      (pss_one (ps_ret pe_non))), ?_⟩
  obtain ⟨m, Tb, S, c, n, rfl, hm, hT, n2, k⟩ := h
  simp only [L2.start, List.map_cons, List.map_nil, List.length_cons, List.length_nil, Nat.reduceAdd, Nat.reduceSub, List.replicate_succ, List.replicate_zero, List.cons_append, List.nil_append]
  refine Evl.q_forR2 (lo := 1) (n := ((n + 1 : Nat) : Nat)) (Evl.ea_cons Evl.ev_c (Evl.ea_cons (Evl.ev_is (Evl.ev_op (Evl.ev_var rfl) Evl.ev_c Evl.rv_I0) (by congr 1)) Evl.ea_nil)) (by omega)
    (fun i σ' H' => ∃ u u', σ' = [some (.ref m), some (.int (n : Nat)), u, u'] ∧ Ex H H') (fun H2 e2 => ⟨none, none, rfl, e2⟩) ?_ ?_
  · rintro i σ' H' hi ⟨u, u', rfl, e2⟩
    have ei : (1 : Int) + (i : Nat) = ((1 + i : Nat) : Nat) := by omega
    rw [ei]
    simp only [List.set_cons_succ, List.set_cons_zero]
    refine q_wallOf (n := 1 + i) (Evl.ea_cons (Evl.ev_var rfl) (Evl.ea_cons (Evl.ev_var rfl) (Evl.ea_cons Evl.ev_c Evl.ea_nil))) (hm.ex e2) hT (by omega) (by omega) fun d vd H5 hd e5 qd => ?_
    simp only [List.set_cons_succ, List.set_cons_zero]
    refine Evl.s_when (Evl.et_test (d_notN (dv (v := vd) rfl qd))) (fun hb H6 e6 => ?_) (fun hb H6 e6 => ⟨_, _, rfl, (e2.trans e5).trans e6⟩)
    refine sD_ret (dv (v := vd) rfl (exd e6 qd)) fun v7 H7 e7 q7 => k d v7 H7 ?_ (((e2.trans e5).trans e6).trans e7) q7
    rcases hd with rfl | ⟨L, R, C, h1, h2, h3, h4, h5⟩
    · cases hb
    · exact .inr ⟨1 + i, L, R, C, h1, h2, by omega, h3, h4, h5⟩
  · rintro σ' H' ⟨u, u', rfl, e2⟩
    exact sD_ret (Ev.non Evl.ev_c) fun v7 H7 e7 q7 => k _ v7 H7 (.inl rfl) (e2.trans e7) q7
/-! ### shown -/
def ShownIs (T : Tbl) (S c n : Nat) (d : PyData) : Prop := (step T (go T n first).1 = none ∧ d = .tuple [.str "stops", .int ((go T n first).2 : Nat)]) ∨
  (step T (go T n first).1 ≠ none ∧ ((∃ p, d = .tuple [.str "never", p] ∧ PaperOk T S c p) ∨ (d = .tuple [.str "open", .none] ∧ NoRep T n ∧ NoSh T n)))
def spShown (K : PySem.W.Frag) : Sp := fun vs H Q _ => ∃ m T S c n n', vs = [.ref m, .int (n : Nat), .int (n' : Nat)] ∧ MachAt K H m T ∧ TblOk T S c ∧ n ≤ 1000 ∧ n' ≤ 2 ∧ ∀ d v H', ShownIs T S c n d → Ex H H' → Dp K H' v d → Q v H'
theorem same_ok {T : Tbl} {S c n : Nat} {d : PyData} (hn : n ≤ 1000) (h : SameIs T n d) : PapIs T S c (NoRep T n) d := by
  rcases h with h | ⟨i, j, s, h1, h2, h3, h4, h5, _⟩
  · exact .inl h
  · exact .inr (.inl ⟨i, j, s, h3, h1, by omega, h4, h5⟩)
theorem shifted_ok {T : Tbl} {S c n : Nat} {d : PyData} (hn : n ≤ 1000) (h : ShiftedIs T n d) : PapIs T S c (NoSh T n) d := by
  rcases h with h | ⟨f, l, h1, h2, h3, _⟩
  · exact .inl h
  · exact .inr (.inr (.inl ⟨f, l, h2, h3, by omega⟩))
theorem wall_ok {T : Tbl} {S c : Nat} {d : PyData} (h : FWIs T S c d) : PapIs T S c True d := by
  rcases h with h | ⟨n, L, R, C, h1, h2, h3, h4, h5, h6⟩
  · exact .inl ⟨h, trivial⟩
  · exact .inr (.inr (.inr ⟨n, L, R, C, h1, h2, by omega, by omega, by omega, by omega⟩))
theorem sc_shown : FnScope ["machine", "most", "width", "steps", "paper"] ["machine", "most", "width"] (defScope (top 50)) := ⟨rfl, rfl, rfl, by decide +kernel, rfl, by decide +kernel, by decide +kernel⟩
theorem h_shown (T : Top K mg) : Has P w K mg base "shown" ["machine", "most", "width"] 5 (spShown K) := by
  have H_stops_at : Has P w K mg base "stops_at" ["machine", "most"] 3 (SpD K (RStops K)) := h_stops_at T
  have H_same_of : Has P w K mg base "same_of" ["machine", "most"] 4 (SpMN K SameIs) := h_same_of T
  have H_shifted_of : Has P w K mg base "shifted_of" ["machine", "most"] 4 (SpMN K ShiftedIs) := h_shifted_of T
  have H_first_wall : Has P w K mg base "first_wall" ["machine", "width"] 4 (spFirstWall K) := h_first_wall T
  obtain ⟨fd, F0⟩ := He.SaysD.def_ T.d 32 (d := dd "shown" 50 [.int 2]) (by rfl)
  have F : FunD K "shown" "shown" (defArgs (top 50)) (defBody (top 50)) (defScope (top 50)) [.int 2] [] (He.ga K "shown") fd := F0
  obtain ⟨ds, hds, hb⟩ := F.binds1 (ps := ["machine", "most", "width"]) 3 1 (by decide) (by rfl) fun Ta kV doc pm an cdv ct us its h1 h2 => match us, its, h1, h2 with | [_, _, _], [_], _, _ => ⟨_, rfl, rfl⟩
  refine ⟨_, fd, ds, T.glo 32, F.kp, hb, hds, ?_⟩
  refine F.ok sc_shown (fun vs H Q E h => by obtain ⟨_, _, _, _, _, _, rfl, _⟩ := h; rfl) fun cdv A outer s H vs Q E hr h => ⟨_, PSs.nox (pss_cons (ps_set (i := 3) sc_shown.nd rfl (Or.inl rfl) (pe_callH H_stops_at (hr.mono (by decide)) (pa_cons (pv 0) (pa_cons (pv 1) pa_nil))))
      (pss_cons (ps_if (pt_cmpR op_notN (pv 3) pe_non (nomark _)) (pss_one (ps_ret (pe_tup (pa_cons pe_str (pa_cons (pv 3) pa_nil))))) pss_nil)
      (pss_cons (ps_set (i := 4) sc_shown.nd rfl (Or.inl rfl) (pe_callH H_same_of (hr.mono (by decide)) (pa_cons (pv 0) (pa_cons (pv 1) pa_nil))))
      (pss_cons (ps_if (pt_cmpR op_isN (pv 4) pe_non (nomark _)) (pss_one (ps_set (i := 4) sc_shown.nd rfl (Or.inl rfl) (pe_callH H_shifted_of (hr.mono (by decide)) (pa_cons (pv 0) (pa_cons (pv 1) pa_nil))))) pss_nil)
      (pss_cons (ps_if (pt_cmpR op_isN (pv 4) pe_non (nomark _)) (pss_one (ps_set (i := 4) sc_shown.nd rfl (Or.inl rfl) (pe_callH H_first_wall (hr.mono (by decide)) (pa_cons (pv 0) (pa_cons (pv 2) pa_nil))))) pss_nil)
      (pss_cons (ps_if (pt_cmpR op_isN (pv 4) pe_non (nomark _)) (pss_one (ps_ret (pe_tup (pa_cons pe_str (pa_cons pe_non pa_nil))))) pss_nil)
      (pss_one (ps_ret (pe_tup (pa_cons pe_str (pa_cons (pv 4) pa_nil))))))))))), ?_⟩
  obtain ⟨m, Tb, S, c, n, n', rfl, hm, hT, hn, hn', k⟩ := h
  simp only [L2.start, List.map_cons, List.map_nil, List.length_cons, List.length_nil, Nat.reduceAdd, Nat.reduceSub, List.replicate_succ, List.replicate_zero, List.cons_append, List.nil_append]
  refine qD_asg (d_call (as_v (Evl.ev_var rfl) (as_v (Evl.ev_var rfl) as_nil)) fun H1 e1 => ⟨m, Tb, S, c, n, rfl, hm.ex e1, hT, by omega, rfl⟩) fun vs H1 e1 q1 => ?_
  simp only [List.set_cons_succ, List.set_cons_zero]
  refine Evl.q_when (Evl.et_test (d_notN (dv (v := vs) rfl q1))) (fun hb H2 e2 => ?_) (fun hb H2 e2 => ?_)
  · have hs : step Tb (go Tb n first).1 = none := by
      refine Decidable.byContradiction fun z => ?_
      unfold stopsD at hb
      rw [if_neg z] at hb
      cases hb
    refine sD_ret (d_tup (ds := [.str "stops", stopsD Tb n]) (as_d (Ev.str Evl.ev_c) (as_d (dv (v := vs) rfl (exd e2 q1)) as_nil))) fun v3 H3 e3 q3 => k _ v3 H3 (.inl ⟨hs, ?_⟩) ((e1.trans e2).trans e3) q3
    unfold stopsD
    rw [if_pos hs]
  · have hs : step Tb (go Tb n first).1 ≠ none := by
      intro z
      unfold stopsD at hb
      rw [if_pos z] at hb
      cases hb
    have e12 := e1.trans e2
    refine q_asgMN (Evl.ea_cons (Evl.ev_var rfl) (Evl.ea_cons (Evl.ev_var rfl) Evl.ea_nil)) (hm.ex e12) hT (by omega) fun d1 v1 H3 hd1 e3 qd1 => ?_
    simp only [List.set_cons_succ, List.set_cons_zero]
    have p1 := same_ok (S := S) (c := c) (by omega) hd1
    refine q_ifK (fun σ' H' => ∃ d v, σ' = [some (.ref m), some (.int (n : Nat)), some (.int (n' : Nat)), some vs, some v] ∧ Ex H H' ∧ Dp K H' v d ∧ PapIs Tb S c (NoRep Tb n ∧ NoSh Tb n) d) (Evl.et_test (d_isN (dv (v := v1) rfl qd1))) ?_ (fun hb H4 e4 kk => ?_) (fun hb H4 e4 kk => kk _ _ ⟨d1, v1, rfl, (e12.trans e3).trans e4, exd e4 qd1, ?_⟩)
    · rintro σ' H5 ⟨d, v, rfl, e5, q5, p5⟩
      refine q_ifK (fun σ' H' => ∃ d v, σ' = [some (.ref m), some (.int (n : Nat)), some (.int (n' : Nat)), some vs, some v] ∧ Ex H H' ∧ Dp K H' v d ∧ PapIs Tb S c (NoRep Tb n ∧ NoSh Tb n) d) (Evl.et_test (d_isN (dv (v := v) rfl q5))) ?_ (fun hb H6 e6 kk => ?_) (fun hb H6 e6 kk => kk _ _ ⟨d, v, rfl, e5.trans e6, exd e6 q5, p5⟩)
      · rintro σ' H7 ⟨d, v, rfl, e7, q7, p7⟩
        refine Evl.q_when (Evl.et_test (d_isN (dv (v := v) rfl q7))) (fun hb H8 e8 => ?_) (fun hb H8 e8 => ?_)
        · rcases p7 with ⟨rfl, h1, h2⟩ | h
          · exact sD_ret (d_tup (ds := [.str "open", .none]) (as_d (Ev.str Evl.ev_c) (as_d (Ev.non Evl.ev_c) as_nil))) fun v9 H9 e9 q9 => k _ v9 H9 (.inr ⟨hs, .inr ⟨rfl, h1, h2⟩⟩) ((e7.trans e8).trans e9) q9
          · rw [h.no] at hb; cases hb
        · rcases p7 with ⟨rfl, h1, h2⟩ | h
          · cases hb
          · exact sD_ret (d_tup (ds := [.str "never", d]) (as_d (Ev.str Evl.ev_c) (as_d (dv (v := v) rfl (exd e8 q7)) as_nil))) fun v9 H9 e9 q9 => k _ v9 H9 (.inr ⟨hs, .inl ⟨d, rfl, h⟩⟩) ((e7.trans e8).trans e9) q9
      · have hN : NoRep Tb n ∧ NoSh Tb n := by
          rcases p5 with ⟨_, h⟩ | h
          · exact h
          · rw [h.no] at hb; cases hb
        refine s_firstWall (n := n') (Evl.ea_cons (Evl.ev_var rfl) (Evl.ea_cons (Evl.ev_var rfl) Evl.ea_nil)) (hm.ex (e5.trans e6)) hT hn' fun d2 v2 H8 hd2 e8 qd2 => kk _ _ ⟨d2, v2, rfl, (e5.trans e6).trans e8, qd2, ?_⟩
        rcases wall_ok hd2 with ⟨h, _⟩ | h
        · exact .inl ⟨h, hN⟩
        · exact .inr h
    · have hN : NoRep Tb n := by
        rcases p1 with ⟨_, h⟩ | h
        · exact h
        · rw [h.no] at hb; cases hb
      refine s_asgMN (Evl.ea_cons (Evl.ev_var rfl) (Evl.ea_cons (Evl.ev_var rfl) Evl.ea_nil)) (hm.ex ((e12.trans e3).trans e4)) hT (by omega) fun d2 v2 H8 hd2 e8 qd2 => kk _ _ ⟨d2, v2, rfl, ((e12.trans e3).trans e4).trans e8, qd2, ?_⟩
      rcases shifted_ok (S := S) (c := c) (by omega) hd2 with ⟨h, h2⟩ | h
      · exact .inl ⟨h, hN, h2⟩
      · exact .inr h
    · rcases p1 with ⟨rfl, _⟩ | h
      · cases hb
      · exact .inr h
/-! ### takes -/
def RTakes (K : PySem.W.Frag) : List Ag → PyData → Hp → Prop := fun as d H => ∃ m T S c p, as = [.v (.ref m), .d p] ∧ MachAt K H m T ∧ TblOk T S c ∧ PaperOk T S c p ∧ d = .bool true
theorem str_t {H : Hp} {σ : L2.St} {te : TE} {ds : List PyData} {a b : Str} (h : EvD K te σ H (.tuple (.str a :: ds))) : Evl.EvT (tTest (tOp rEq (tOp (rIxT K) te (tC (.int 0))) (tC (.str b)))) σ H (decide (V.str a = V.str b)) :=
  Evl.et_test (Evl.ev_op (EvD.str (d_ixT (d := .str a) h Evl.ev_c (atI_nat (j := 0) rfl))) Evl.ev_c (Evl.rv_eq rfl))
theorem sc_takes : FnScope ["machine", "paper"] ["machine", "paper"] (defScope (top 87)) := ⟨rfl, rfl, rfl, by decide +kernel, rfl, by decide +kernel, by decide +kernel⟩
theorem h_takes (T : Top K mg) : Has P w K mg base "takes" ["machine", "paper"] 6 (SpD K (RTakes K)) := by
  have H_takes_same : Has P w K mg base "takes_same" ["machine", "paper"] 3 (SpD K (RTSame K)) := h_takes_same T
  have H_takes_shifted : Has P w K mg base "takes_shifted" ["machine", "paper"] 3 (SpD K (RTShift K)) := h_takes_shifted T
  have H_wall_taken : Has P w K mg base "wall_taken" ["machine", "paper"] 5 (SpD K (RWall K)) := h_wall_taken T
  refine mk_has T 33 rfl rfl (fun _ _ _ _ _ _ us hl => match us, hl with | [_, _], _ => rfl) fun fd F => ?_
  refine F.ok sc_takes (fun vs H Q E h => len_of h fun as d H h => by obtain ⟨_, _, _, _, _, rfl, _⟩ := h; rfl) fun cdv A outer s H vs Q E hr h => ⟨_, PSs.nox (pss_cons (ps_if (PW.pt (pw_or (pt_not (pt_val (pe_callB call_isi (by rfl) (T.free 49) (by decide +kernel) (pa_cons (pv 1) (pa_cons (pe_bltn (v := .ty "tuple") (by rfl) (T.free 52) (by decide +kernel) rfl) pa_nil))))) (pw_or1 (pt_cmpR op_eq (pe_callB call_len_seq (by rfl) (T.free 56) (by decide +kernel) (pa_cons (pv 1) pa_nil)) pe_int (nomark _))))) (pss_one (ps_ret pe_bl)) pss_nil)
      (pss_cons (ps_if (pt_cmpR op_eq (pe_ix ix_tup (pv 1) pe_int (fun _ _ => rfl)) pe_str (nomark _)) (pss_one (ps_ret (pe_callH H_takes_same (hr.mono (by decide)) (pa_cons (pv 0) (pa_cons (pv 1) pa_nil))))) pss_nil)
      (pss_cons (ps_if (pt_cmpR op_eq (pe_ix ix_tup (pv 1) pe_int (fun _ _ => rfl)) pe_str (nomark _)) (pss_one (ps_ret (pe_callH H_takes_shifted (hr.mono (by decide)) (pa_cons (pv 0) (pa_cons (pv 1) pa_nil))))) pss_nil)
      (pss_cons (ps_if (pt_cmpR op_eq (pe_ix ix_tup (pv 1) pe_int (fun _ _ => rfl)) pe_str (nomark _)) (pss_one ps_never) pss_nil)
      (pss_cons (ps_if (pt_cmpR op_eq (pe_ix ix_tup (pv 1) pe_int (fun _ _ => rfl)) pe_str (nomark _)) (pss_one (ps_ret (pe_callH H_wall_taken (hr.mono (by decide)) (pa_cons (pv 0) (pa_cons (pv 1) pa_nil))))) pss_nil)
      (pss_one (ps_ret pe_bl))))))), ?_⟩
  obtain ⟨as, d, ha, ⟨m, Tb, S, c, p, rfl, hm, hT, hp, rfl⟩, k⟩ := h
  obtain ⟨x, y, rfl, rfl, h1⟩ := ags2 ha
  simp only [L2.start, List.map_cons, List.map_nil, List.length_cons, List.length_nil, Nat.reduceAdd, Nat.reduceSub, List.replicate_succ, List.replicate_zero, List.cons_append, List.nil_append]
  rcases hp with ⟨f, l, u, rfl, g1, g2, g3, g4⟩ | ⟨f, l, rfl, g1, g2⟩ | ⟨n, L, R, C, rfl, g1, g2, g3, g4, g5⟩
  · refine Evl.q_when (b := false) (Evl.et_or (a := false) (b := false) (Evl.et_not (a := true) (Evl.et_B (d_isi (dv (v := y) rfl h1) kit_tuple_tuple))) fun _ => Evl.et_is (Evl.et_test (Evl.ev_op (lenT (n := 3) (dv (v := y) rfl h1) rfl) Evl.ev_c (Evl.rv_eq rfl))) rfl) (fun z => nomatch z) fun _ H1 e1 => ?_
    refine Evl.q_when (b := true) (Evl.et_is (str_t (dv (v := y) rfl (exd e1 h1))) (by decide +kernel)) (fun _ H2 e2 => ?_) (fun z => nomatch z)
    exact sD_ret (d_call (as_v (Evl.ev_var rfl) (as_d (dv (v := y) rfl (exd (e1.trans e2) h1)) as_nil)) fun H3 e3 => ⟨m, Tb, S, c, u, f, l, rfl, hm.ex ((e1.trans e2).trans e3), hT, g1, by omega, g3, g4, rfl⟩) fun v H3 e3 q => k v H3 ((e1.trans e2).trans e3) q
  · refine Evl.q_when (b := false) (Evl.et_or (a := false) (b := false) (Evl.et_not (a := true) (Evl.et_B (d_isi (dv (v := y) rfl h1) kit_tuple_tuple))) fun _ => Evl.et_is (Evl.et_test (Evl.ev_op (lenT (n := 3) (dv (v := y) rfl h1) rfl) Evl.ev_c (Evl.rv_eq rfl))) rfl) (fun z => nomatch z) fun _ H1 e1 => ?_
    refine Evl.q_when (b := false) (Evl.et_is (str_t (dv (v := y) rfl (exd e1 h1))) (by decide +kernel)) (fun z => nomatch z) (fun _ H2 e2 => ?_)
    refine Evl.q_when (b := true) (Evl.et_is (str_t (dv (v := y) rfl (exd (e1.trans e2) h1))) (by decide +kernel)) (fun _ H3 e3 => ?_) (fun z => nomatch z)
    have e13 := (e1.trans e2).trans e3
    exact sD_ret (d_call (as_v (Evl.ev_var rfl) (as_d (dv (v := y) rfl (exd e13 h1)) as_nil)) fun H4 e4 => ⟨m, Tb, S, c, f, l, rfl, hm.ex (e13.trans e4), hT, g1, by omega, rfl⟩) fun v H4 e4 q => k v H4 (e13.trans e4) q
  · refine Evl.q_when (b := false) (Evl.et_or (a := false) (b := false) (Evl.et_not (a := true) (Evl.et_B (d_isi (dv (v := y) rfl h1) kit_tuple_tuple))) fun _ => Evl.et_is (Evl.et_test (Evl.ev_op (lenT (n := 5) (dv (v := y) rfl h1) rfl) Evl.ev_c (Evl.rv_eq rfl))) rfl) (fun z => nomatch z) fun _ H1 e1 => ?_
    refine Evl.q_when (b := false) (Evl.et_is (str_t (dv (v := y) rfl (exd e1 h1))) (by decide +kernel)) (fun z => nomatch z) (fun _ H2 e2 => ?_)
    refine Evl.q_when (b := false) (Evl.et_is (str_t (dv (v := y) rfl (exd (e1.trans e2) h1))) (by decide +kernel)) (fun z => nomatch z) (fun _ H3 e3 => ?_)
    have e13 := (e1.trans e2).trans e3
    refine Evl.q_when (b := false) (Evl.et_is (str_t (dv (v := y) rfl (exd e13 h1))) (by decide +kernel)) (fun z => nomatch z) (fun _ H4 e4 => ?_)
    have e14 := e13.trans e4
    refine Evl.q_when (b := true) (Evl.et_is (str_t (dv (v := y) rfl (exd e14 h1))) (by decide +kernel)) (fun _ H5 e5 => ?_) (fun z => nomatch z)
    have e15 := e14.trans e5
    exact sD_ret (d_call (as_v (Evl.ev_var rfl) (as_d (dv (v := y) rfl (exd e15 h1)) as_nil)) fun H6 e6 => ⟨⟨m, Tb, S, c, n, L, R, C, rfl, hm.ex (e15.trans e6), hT, g1, g2, g3, g4, g5⟩, rfl⟩) fun v H6 e6 q => k v H6 (e15.trans e6) q
end
end WK
end
section
set_option Elab.async false
set_option linter.all false
set_option maxRecDepth 100000
set_option maxHeartbeats 4000000
/-! Walks: machines by number. -/
namespace WK
open PySem PySem.Spec PyProof.Rows L2 HD DT2 TX TP ND EN LC
section
variable {P : Program} {w : World} {K : PySem.W.Frag} {mg : Str → Option Value} {base : Heap}
/-! ### entry_of -/
def entV (v : Nat) : Option Ent := if v = 0 then none else some ⟨(v - 1) / 2 / 2, decide (¬ (v - 1) / 2 % 2 = 0), (v - 1) % 2⟩
theorem entV_ok {v : Nat} (h : v < 9) : EntOk 2 2 (entV v) := by
  intro e he
  unfold entV at he
  split at he
  · cases he
  · cases he
    exact ⟨by show (v - 1) / 2 / 2 < 2; omega, by show (v - 1) % 2 < 2; omega⟩
def REntryOf : List Ag → PyData → Hp → Prop := fun as d _ => ∃ v : Nat, as = [.v (.int (v : Nat)), .v (.int 2)] ∧ v < 9 ∧ d = entD (entV v)
theorem sc_entry_of : FnScope ["value", "states", "rest", "later", "write", "way"] ["value", "states"] (defScope (top 33)) := ⟨rfl, rfl, rfl, by decide +kernel, rfl, by decide +kernel, by decide +kernel⟩
theorem h_entry_of (T : Top K mg) : Has P w K mg base "entry_of" ["value", "states"] 1 (SpD K REntryOf) := by
  refine mk_has T 18 rfl rfl (fun _ _ _ _ _ _ us hl => match us, hl with | [_, _], _ => rfl) fun fd F => ?_
  refine F.ok sc_entry_of (fun vs H Q E h => len_of h fun as d H h => by obtain ⟨_, rfl, _⟩ := h; rfl) fun cdv A outer s H vs Q E hr h => ⟨_, PSs.nox (pss_cons (ps_if (pt_cmpR op_eq (pv 0) pe_int (nomark _)) (pss_one (ps_ret pe_non)) pss_nil)
      (pss_cons (ps_asg (pe_callB call_divmod (by rfl) (T.free 65) (by decide +kernel) (pa_cons (pe_op op_sub (pv 0) pe_int) (pa_cons (pv 1) pa_nil))) (pg_tup rfl (pgs_cons (pg_name (i := 2) sc_entry_of.nd rfl (Or.inl rfl)) (pgs_cons (pg_name (i := 3) sc_entry_of.nd rfl (Or.inl rfl)) pgs_nil))))
      (pss_cons (ps_asg (pe_callB call_divmod (by rfl) (T.free 65) (by decide +kernel) (pa_cons (pv 2) (pa_cons pe_int pa_nil))) (pg_tup rfl (pgs_cons (pg_name (i := 4) sc_entry_of.nd rfl (Or.inl rfl)) (pgs_cons (pg_name (i := 5) sc_entry_of.nd rfl (Or.inl rfl)) pgs_nil))))
      (pss_cons (ps_if (pt_cmpR op_eq (pv 5) pe_int (nomark _)) (pss_one (ps_ret (pe_tup (pa_cons (pv 4) (pa_cons pe_str (pa_cons (pv 3) pa_nil)))))) pss_nil)
      (pss_one (ps_ret (pe_tup (pa_cons (pv 4) (pa_cons pe_str (pa_cons (pv 3) pa_nil)))))))))), ?_⟩
  obtain ⟨as, d, ha, ⟨v, rfl, hv, rfl⟩, k⟩ := h
  rw [vals_v2 ha]
  simp only [L2.start, List.map_cons, List.map_nil, List.length_cons, List.length_nil, Nat.reduceAdd, Nat.reduceSub, List.replicate_succ, List.replicate_zero, List.cons_append, List.nil_append]
  unfold entV at k
  refine Evl.q_when (Evl.et_test (Evl.ev_op (Evl.ev_var rfl) Evl.ev_c (Evl.rv_eq rfl))) (fun hb H1 e1 => ?_) (fun hb H1 e1 => ?_)
  · have h0 : v = 0 := by have := of_decide_eq_true hb; injection this with this; omega
    rw [if_pos h0] at k
    exact sD_ret (Ev.non Evl.ev_c) fun v' H2 e2 q => k v' H2 (e1.trans e2) q
  · have h0 : ¬ v = 0 := by
      have := of_decide_eq_false hb
      intro z
      exact this (by rw [z]; rfl)
    rw [if_neg h0] at k
    have a1 : (v : Int) - 1 = ((v - 1 : Nat) : Nat) := by omega
    have b1 : (((v - 1 : Nat) : Nat) : Int) / 2 = (((v - 1) / 2 : Nat) : Nat) := by omega
    have b2 : (((v - 1 : Nat) : Nat) : Int) % 2 = (((v - 1) % 2 : Nat) : Nat) := by omega
    have c1 : ((((v - 1) / 2 : Nat) : Nat) : Int) / 2 = (((v - 1) / 2 / 2 : Nat) : Nat) := by omega
    have c2 : ((((v - 1) / 2 : Nat) : Nat) : Int) % 2 = (((v - 1) / 2 % 2 : Nat) : Nat) := by omega
    refine qD_un (d_is (d_divmod (i := ((v - 1 : Nat) : Nat)) (j := 2) (Evl.ev_is (Evl.ev_op (Evl.ev_var rfl) Evl.ev_c Evl.rv_I0) (by congr 1)) (Evl.ev_var rfl) ⟨by decide, by decide⟩) (show _ = PyData.tuple [.int (((v - 1) / 2 : Nat) : Nat), .int (((v - 1) % 2 : Nat) : Nat)] by rw [b1, b2])) rfl fun xs H2 e2 hx => un2 hx fun v1 v2 q1 q2 => ?_
    cases q1
    cases q2
    simp only [List.set_cons_succ, List.set_cons_zero]
    refine qD_un (d_is (d_divmod (i := (((v - 1) / 2 : Nat) : Nat)) (j := 2) (Evl.ev_var rfl) Evl.ev_c ⟨by decide, by decide⟩) (show _ = PyData.tuple [.int (((v - 1) / 2 / 2 : Nat) : Nat), .int (((v - 1) / 2 % 2 : Nat) : Nat)] by rw [c1, c2])) rfl fun xs H3 e3 hx => un2 hx fun v1 v2 q1 q2 => ?_
    cases q1
    cases q2
    simp only [List.set_cons_succ, List.set_cons_zero]
    refine Evl.q_when (Evl.et_test (Evl.ev_op (Evl.ev_var rfl) Evl.ev_c (Evl.rv_eq rfl))) (fun hb H4 e4 => ?_) (fun hb H4 e4 => ?_)
    · have hw : (v - 1) / 2 % 2 = 0 := by have := of_decide_eq_true hb; injection this with this; omega
      refine sD_ret (K := K) (d_tup (ds := [.int (((v - 1) / 2 / 2 : Nat) : Nat), .str "l", .int (((v - 1) % 2 : Nat) : Nat)]) (as_d (Ev.int (Evl.ev_var rfl)) (as_d (Ev.str Evl.ev_c) (as_d (Ev.int (Evl.ev_var rfl)) as_nil)))) fun v' H5 e5 q => k v' H5 ((((e1.trans e2).trans e3).trans e4).trans e5) ?_
      rw [decide_eq_false (by rw [hw]; decide)]
      exact q
    · have hw : ¬ (v - 1) / 2 % 2 = 0 := by
        have := of_decide_eq_false hb
        intro z
        exact this (by rw [z]; rfl)
      refine sD_ret (K := K) (d_tup (ds := [.int (((v - 1) / 2 / 2 : Nat) : Nat), .str "r", .int (((v - 1) % 2 : Nat) : Nat)]) (as_d (Ev.int (Evl.ev_var rfl)) (as_d (Ev.str Evl.ev_c) (as_d (Ev.int (Evl.ev_var rfl)) as_nil)))) fun v' H5 e5 q => k v' H5 ((((e1.trans e2).trans e3).trans e4).trans e5) ?_
      rw [decide_eq_true hw]
      exact q
/-! ### Machine(..) -/
theorem mk_rest {H : Hp} {tv : V} {Tb : Tbl} {S c : Nat} {Q : VK} {E : XK} (hv : Dp K H tv (tblL Tb)) (hT : TblOk Tb S c) (z1 : Tb.length ≤ 1000) (z2 : c ≤ 1000) (k : ∀ x H', H x = none → Ex H H' → MachAt K H' x Tb → Q (.ref x) H') :
    ∀ x dx, H x = none → H dx = none → dx ≠ x → spMk K (.ref x :: ([tv] ++ [])) (upd (upd H dx (.own x)) x (.ins (CM K) dx [])) (fun v H2 => v = .non ∧ Q (.ref x) H2) E := fun x dx hx hdx ne => by
  have e2 : Ex H (upd (upd H dx (.own x)) x (.ins (CM K) dx [])) := (Evl.Ex.new hdx).trans (Evl.Ex.new (by rw [upd_ne (Ne.symm ne)]; exact hx))
  exact ⟨x, dx, tv, Tb, S, c, rfl, upd_same, exd e2 hv, hT, z1, z2, fun H' mm hm => ⟨rfl, k x H' hx (fun b o hb => mm b o (e2 b o hb) (ne_of_none hb hx)) hm⟩⟩
/-! ### lists of lists, one of them growing -/
/-- what stands at l: a list whose items are the lines, known without l itself -/
structure Rows (K : PySem.W.Frag) (H : Hp) (l : Addr) (rs : List (List (Option Ent))) : Prop where
  ex : ∃ ws, H l = some (.lst ws) ∧ DpAll K (del H l) ws (rs.map rowL)
theorem Rows.up {H H' : Hp} {l : Addr} {rs : List (List (Option Ent))} (h : Rows K H l rs) (e : Ex (del H l) (del H' l)) (hl : H' l = H l) : Rows K H' l rs := by
  obtain ⟨ws, h1, h2⟩ := h.ex
  exact ⟨ws, by rw [hl]; exact h1, exa e h2⟩
theorem Rows.len {H : Hp} {l : Addr} {rs : List (List (Option Ent))} {ws : List V} (h : Rows K H l rs) (hl : H l = some (.lst ws)) : ws.length = rs.length ∧ DpAll K (del H l) ws (rs.map rowL) := by
  obtain ⟨ws', h1, h2⟩ := h.ex
  rw [hl] at h1
  cases h1
  exact ⟨by rw [h2.length, List.length_map], h2⟩
theorem Rows.tbl {H : Hp} {l : Addr} {rs : List (List (Option Ent))} (h : Rows K H l rs) : Dp K H (.ref l) (tblL rs) := by
  obtain ⟨ws, h1, h2⟩ := h.ex
  exact .lst (.of h1) (exa del_ex h2)
/-- a line laid at the end -/
theorem Rows.add {H : Hp} {l p : Addr} {rs : List (List (Option Ent))} {us ws : List V} {r : List (Option Ent)} (h : Rows K H l rs) (hl : H l = some (.lst ws)) (hp : H p = some (.lst us)) (ne : p ≠ l) (hr : DpAll K H us (r.map entD)) : Rows K (upd H l (.lst (ws ++ [.ref p]))) l (rs ++ [r]) := by
  obtain ⟨hn, h2⟩ := h.len hl
  refine ⟨_, upd_same, ?_⟩
  rw [List.map_append]
  refine (show DpAll K (del (upd H l (.lst (ws ++ [.ref p]))) l) ws (rs.map rowL) by rw [del_upd]; exact h2).append (.cons ?_ .nil)
  rw [del_upd]
  refine .lst (.of (by rw [del_ne ne]; exact hp)) (dpTs (keepT_del hl) _ _ (noLs_map noL_ent r) hr)
/-! ### machine_of -/
def spMachineOf (K : PySem.W.Frag) : Sp := fun vs H Q _ => ∃ n : Nat, vs = [.int 2, .int 2, .int (n : Nat)] ∧ n < 6561 ∧ ∀ H' m T, Ex H H' → MachAt K H' m T → TblOk T 2 2 → Q (.ref m) H'
theorem q_ifF {H : Hp} {σ : L2.St} {D : Ends} {tt : TT} {tu tz : TS} (h : Evl.EvT tt σ H false) (k : ∀ H1, Ex H H1 → tz D σ H1) : tSeq (tIfS tt tu tNext) tz D σ H := Evl.q_when (b := false) h (fun z => nomatch z) fun _ => k
theorem qD_drop {H : Hp} {σ : L2.St} {D : Ends} {tz : TS} {i : Nat} {ta : TA} (h : Evl.EvA ta σ H []) (k : ∀ p H1, H p = none → Ex H H1 → H1 p = some (.lst []) → tz D (σ.set i (some (.ref p))) H1) : tSeq (tAsg (tLst ta) (gName i)) tz D σ H := Evl.q_asgL (Evl.el_lst h (by decide)) k
theorem sc_machine_of : FnScope ["states", "signs", "number", "values", "table", "state", "line", "sign", "value"] ["states", "signs", "number"] (defScope (top 34)) := ⟨rfl, rfl, rfl, by decide +kernel, rfl, by decide +kernel, by decide +kernel⟩
theorem h_machine_of (T : Top K mg) : Has P w K mg base "machine_of" ["states", "signs", "number"] 5 (spMachineOf K) := by
  have H_entry_of : Has P w K mg base "entry_of" ["value", "states"] 1 (SpD K REntryOf) := h_entry_of T
  have H_Machine : HasC P w K mg base (CM K) "Machine" ["self", "table"] 3 (spMk K) := h_Machine T
  refine mk_has T 19 rfl rfl (fun _ _ _ _ _ _ us hl => match us, hl with | [_, _, _], _ => rfl) fun fd F => ?_
  refine F.ok sc_machine_of (fun vs H Q E h => by obtain ⟨_, rfl, _⟩ := h; rfl) fun cdv A outer s H vs Q E hr h => ⟨_, PSs.nox (pss_cons (ps_if (PW.pt (pw_or (pt_cmpR op_lt (pv 0) pe_int (nomark _)) (pw_or (pt_cmpR op_lt (pv 1) pe_int (nomark _)) (pw_or1 (pt_cmpR op_lt (pv 2) pe_int (nomark _)))))) (pss_one ps_never) pss_nil)
      (pss_cons (ps_set (i := 3) sc_machine_of.nd rfl (Or.inl rfl) (pe_op op_add (pe_op op_mul (pe_op op_mul pe_int (pv 0)) (pv 1)) pe_int))
      (pss_cons (ps_set (i := 4) sc_machine_of.nd rfl (Or.inl rfl) (pe_lst pa_nil))
      (pss_cons (ps_for PassesOwn.never rfl (pi_range1 (by rfl) (T.free 59) (pa_cons (pv 0) pa_nil)) (pg_name (i := 5) sc_machine_of.nd rfl (Or.inl rfl)) (pss_cons (ps_set (i := 6) sc_machine_of.nd rfl (Or.inl rfl) (pe_lst pa_nil))
      (pss_cons (ps_for PassesOwn.never rfl (pi_range1 (by rfl) (T.free 59) (pa_cons (pv 1) pa_nil)) (pg_name (i := 7) sc_machine_of.nd rfl (Or.inl rfl)) (pss_cons (ps_asg (pe_callB call_divmod (by rfl) (T.free 65) (by decide +kernel) (pa_cons (pv 2) (pa_cons (pv 3) pa_nil))) (pg_tup rfl (pgs_cons (pg_name (i := 2) sc_machine_of.nd rfl (Or.inl rfl)) (pgs_cons (pg_name (i := 8) sc_machine_of.nd rfl (Or.inl rfl)) pgs_nil))))
      (pss_one (ps_expr (pe_bm PySem.F.plainAttrs_list PySem.F.slot_list_append PySem.F.type_list_append mt_append (pv 6) (pa_cons (pe_callH H_entry_of (hr.mono (by decide)) (pa_cons (pv 8) (pa_cons (pv 0) pa_nil))) pa_nil))))))
      (pss_one (ps_expr (pe_bm PySem.F.plainAttrs_list PySem.F.slot_list_append PySem.F.type_list_append mt_append (pv 4) (pa_cons (pv 6) pa_nil)))))))
      (pss_cons (ps_if (pt_cmpR op_gt (pv 2) pe_int (nomark _)) (pss_one ps_never) pss_nil)
      (pss_one (ps_ret (pe_makeH H_Machine (hr.mono (by decide)) (pa_cons (pv 4) pa_nil))))))))), ?_⟩
  obtain ⟨n, rfl, hn, k⟩ := h
  simp only [L2.start, List.map_cons, List.map_nil, List.length_cons, List.length_nil, Nat.reduceAdd, Nat.reduceSub, List.replicate_succ, List.replicate_zero, List.cons_append, List.nil_append]
  refine q_ifF (Evl.et_or (a := false) (b := false) (Evl.et_test (Evl.ev_op (Evl.ev_var rfl) Evl.ev_c Evl.rv_I0)) fun _ => Evl.et_or (a := false) (b := false) (Evl.et_test (Evl.ev_op (Evl.ev_var rfl) Evl.ev_c Evl.rv_I0)) fun _ => Evl.et_is (Evl.et_test (Evl.ev_op (Evl.ev_var rfl) Evl.ev_c Evl.rv_I0)) (decide_eq_false (by omega))) fun H1 e1 => ?_
  refine Evl.q_asg (v := .int 9) (Evl.ev_op (Evl.ev_op (Evl.ev_op Evl.ev_c (Evl.ev_var rfl) (Evl.rv_I (.inl (by decide)))) (Evl.ev_var rfl) (Evl.rv_I (.inl (by decide)))) Evl.ev_c Evl.rv_I0) fun H2 e2 => ?_
  simp only [List.set_cons_succ, List.set_cons_zero]
  refine qD_drop Evl.ea_nil fun l H3 hl e3 h3 => ?_
  simp only [List.set_cons_succ, List.set_cons_zero]
  have e03 := (e1.trans e2).trans e3
  have hlH : H l = none := Evl.fresh_back (e1.trans e2) hl
  refine Evl.q_forR1 (n := 2) (Evl.ea_cons (Evl.ev_var rfl) Evl.ea_nil) (by decide)
    (fun i σ' H' => ∃ N : Nat, ∃ rs u1 u2 u3 u4, σ' = [some (.int 2), some (.int 2), some (.int (N : Nat)), some (.int 9), some (.ref l), u1, u2, u3, u4] ∧ i ≤ 2 ∧ N < 9 ^ (4 - 2 * i) ∧ Ex H H' ∧ Rows K H' l rs ∧ rs.length = i ∧ ∀ r ∈ rs, r.length = 2 ∧ ∀ o ∈ r, EntOk 2 2 o)
    (fun H4 e4 => ⟨n, [], none, none, none, none, rfl, by omega, hn, e03.trans e4, ⟨[], e4 _ _ h3, .nil⟩, rfl, fun r hr => nomatch hr⟩) ?_ ?_
  · rintro i σ' H4 hi ⟨N, rs, u1, u2, u3, u4, rfl, hi2, hN, e4, hR, hrl, hro⟩
    have hi3 : i < 2 := by omega
    obtain ⟨ws, hw, _⟩ := id hR.ex
    refine qD_drop Evl.ea_nil fun p H5 hp e5 h5 => ?_
    simp only [List.set_cons_succ, List.set_cons_zero]
    have npl : p ≠ l := fun e => by rw [e, hw] at hp; cases hp
    have hpD : del H4 l p = none := by rw [del_ne npl]; exact hp
    refine Evl.q_forR1 (n := 2) (Evl.ea_cons (Evl.ev_var rfl) Evl.ea_nil) (by decide)
      (fun j σ' H' => ∃ N : Nat, ∃ r us u3 u4, σ' = [some (.int 2), some (.int 2), some (.int (N : Nat)), some (.int 9), some (.ref l), some (.int (i : Nat)), some (.ref p), u3, u4] ∧ j ≤ 2 ∧ N < 9 ^ (4 - 2 * i - j) ∧ Ex H H' ∧ Ex (del H4 l) (del H' l) ∧ H' l = some (.lst ws) ∧ H' p = some (.lst us) ∧ DpAll K H' us (r.map entD) ∧ r.length = j ∧ ∀ o ∈ r, EntOk 2 2 o)
      (fun H6 e6 => ⟨N, [], [], u3, u4, rfl, by omega, hN, (e4.trans e5).trans e6, ex_del (e5.trans e6), e6 _ _ (e5 _ _ hw), e6 _ _ h5, .nil, rfl, fun o ho => nomatch ho⟩) ?_ ?_
    · rintro j σ' H6 hj ⟨N2, r, us, u3, u4, rfl, hj2, hN2, e6, d6, w6, p6, q6, hrl2, hro2⟩
      have hj3 : j < 2 := by omega
      have a1 : ((N2 : Nat) : Int) / 9 = ((N2 / 9 : Nat) : Nat) := by omega
      have a2 : ((N2 : Nat) : Int) % 9 = ((N2 % 9 : Nat) : Nat) := by omega
      refine qD_un (d_is (d_divmod (i := (N2 : Nat)) (j := 9) (Evl.ev_var rfl) (Evl.ev_var rfl) ⟨by decide, by decide⟩) (show _ = PyData.tuple [.int ((N2 / 9 : Nat) : Nat), .int ((N2 % 9 : Nat) : Nat)] by rw [a1, a2])) rfl fun xs H7 e7 hx => un2 hx fun v1 v2 q1 q2 => ?_
      cases q1
      cases q2
      simp only [List.set_cons_succ, List.set_cons_zero]
      have hz := q6.length
      rw [List.length_map] at hz
      refine sD_app (e7 _ _ p6) (Evl.ev_var rfl) (d_call (as_v (Evl.ev_var rfl) (as_v (Evl.ev_var rfl) as_nil)) fun H8 e8 => ⟨N2 % 9, rfl, Nat.mod_lt _ (by decide), rfl⟩) (by omega) fun v H8 e8 q8 p8 => ?_
      have hpH : H p = none := Evl.fresh_back e4 hp
      refine ⟨N2 / 9, r ++ [entV (N2 % 9)], us ++ [v], _, _, rfl, hj3, ?_, Evl.Ex.mut ((e6.trans e7).trans e8) hpH, ?_, ?_, upd_same, ?_, by rw [List.length_append, hrl2]; rfl, fun o ho => ?_⟩
      · refine Nat.div_lt_of_lt_mul ?_
        have : 9 ^ (4 - 2 * i - j) = 9 * 9 ^ (4 - 2 * i - (j + 1)) := by
          rw [show 4 - 2 * i - j = (4 - 2 * i - (j + 1)) + 1 by omega, Nat.pow_succ, Nat.mul_comm]
        rw [← this]; exact hN2
      · have h1 : Ex (del H4 l) (del H8 l) := d6.trans (ex_del (e7.trans e8))
        intro b o hb
        have nb : b ≠ p := ne_of_none hb hpD
        by_cases q : b = l
        · rw [q, del_same] at hb; cases hb
        · have := h1 b o hb
          rw [del_ne q] at this ⊢
          rw [upd_ne nb]; exact this
      · rw [upd_ne (Ne.symm npl)]; exact e8 _ _ (e7 _ _ w6)
      · rw [List.map_append]
        refine dpTs (KeepT.lst p8) _ _ ?_ ((exa (e7.trans e8) q6).snoc q8)
        have := noLs_map noL_ent (r ++ [entV (N2 % 9)])
        rw [List.map_append] at this
        exact this
      · rcases List.mem_append.mp ho with ho | ho
        · exact hro2 o ho
        · rw [List.mem_singleton.mp ho]; exact entV_ok (Nat.mod_lt _ (by decide))
    · rintro σ' H6 ⟨N2, r, us, u3, u4, rfl, hj2, hN2, e6, d6, w6, p6, q6, hrl2, hro2⟩
      have hz := (hR.len hw).1
      refine Evl.s_app w6 (Evl.ev_var rfl) (Evl.ev_var (v := .ref p) rfl) (by omega) fun H7 e7 => ?_
      have w7 := e7 _ _ w6
      refine ⟨N2, rs ++ [r], _, _, _, _, rfl, by omega, ?_, Evl.Ex.mut (e6.trans e7) hlH, ?_, by rw [List.length_append, hrl]; rfl, fun r' hr' => ?_⟩
      · have : (2 : Int).toNat = 2 := rfl
        rw [this] at hN2
        rw [show 4 - 2 * (i + 1) = 4 - 2 * i - 2 by omega]
        exact hN2
      · exact (hR.up (d6.trans (ex_del e7)) (by rw [w7, hw])).add w7 (e7 _ _ p6) npl (exa e7 q6)
      · rcases List.mem_append.mp hr' with h | h
        · exact hro r' h
        · rw [List.mem_singleton.mp h]; exact ⟨hrl2, hro2⟩
  · rintro σ' H4 ⟨N, rs, u1, u2, u3, u4, rfl, hi2, hN, e4, hR, hrl, hro⟩
    have hN0 : N = 0 := by
      have : (9 : Nat) ^ (4 - 2 * (2 : Int).toNat) = 1 := by decide
      omega
    subst hN0
    refine q_ifF (Evl.et_test (Evl.ev_op (Evl.ev_var rfl) Evl.ev_c Evl.rv_I0)) fun H5 e5 => ?_
    have hT : TblOk rs 2 2 := ⟨by decide, by decide, hrl, fun r hr => (hro r hr).1, fun r hr o ho x hx => (hro r hr).2 o ho x hx⟩
    have q5 := exd e5 hR.tbl
    refine (Evl.ev_var (v := .ref l) rfl) H5 (Evl.Ex.refl _) _ fun H6 e6 => ?_
    exact mk_rest (exd e6 q5) hT (by rw [hrl]; decide) (by decide) fun x H' _ e7 hm => k H' x rs (((e4.trans e5).trans e6).trans e7) hm hT
end
end WK
end
section
set_option Elab.async false
set_option linter.all false
set_option maxRecDepth 100000
set_option maxHeartbeats 4000000
/-! Rules: xs[:n:k] of ints, is not True, comprehensions over zip. -/
namespace L2
open PySem PySem.Spec PyProof.Rows
theorem op_isnotB {X : Cx} : OpR X (compareOp .IsNot) (fun x y H Q => ∃ b, x = .bl b ∧ y = .bl true ∧ Q (.bl (!b)) H) := by
  intro pins s σ H x y v u Q I rx ry h
  obtain ⟨b, rfl, rfl, q⟩ := h
  cases rx
  cases ry
  cases b with
  | true => exact wpAny_isNot_self rfl ⟨.bl false, H, I, rfl, q⟩
  | false => exact wpAny_isNot_other rfl (fun z => by cases z) ⟨.bl true, H, I, rfl, q⟩
/-- xs[:n:k] of a list of ints: ints, no more than before -/
def tSlSt (K : PySem.W.Frag) (te : TE) : TE := fun σ H Q => te σ H fun x H1 => ∃ (a : Addr) (ns : List Int), x = .ref a ∧ SqL K H1 a (ns.map V.int) ∧ ∀ (p : Addr) (ms : List Int), H1 p = none → ms.length ≤ ns.length → Q (.ref p) (upd H1 p (.lst (ms.map V.int)))
theorem pe_sliceStep {X : Cx} {e : Expr} {te : TE} {n1 n2 : Int} {k1 k2 : Nat} {p1 p2 p3 pos : Pos} (he : PE X e te) (h1 : PE X (.Constant (.int n1) k1 p1) (tC (.int n1))) (h2 : PE X (.Constant (.int n2) k2 p2) (tC (.int n2))) (hne : n2 ≠ 0 := by decide) : PE X (.Subscript e (.Slice none (some (.Constant (.int n1) k1 p1)) (some (.Constant (.int n2) k2 p2)) p3) pos) (tSlSt X.K te) := by
  refine ⟨fun pins s σ H Q I h => ?_⟩
  refine Subscript_ (thn (he.run pins s σ H _ I h) fun v s1 ⟨x, H1, I1, r1, q1⟩ => ?_)
  obtain ⟨a, ns, ex, hx, q⟩ := q1
  subst ex
  cases r1
  refine wpAny_Slice (thn (po_none.run pins s1 σ H1 (fun o H2 => o = none ∧ H2 = H1) I1 ⟨rfl, rfl⟩) fun vl s2 ⟨l, H2, I2, pl, el, e2⟩ => ?_)
  subst el e2
  refine thn ((po_some h1).run pins s2 σ H2 (fun o H3 => o = some n1 ∧ H3 = H2) I2 ⟨n1, rfl, rfl, rfl⟩) fun vu s3 ⟨u, H3, I3, pu, eu, e3⟩ => ?_
  subst eu e3
  refine thn ((po_some h2).run pins s3 σ H3 (fun o H4 => o = some n2 ∧ H4 = H3) I3 ⟨n2, rfl, rfl, rfl⟩) fun vs s4 ⟨o, H4, I4, ps, eo, e4⟩ => ?_
  subst eo e4
  have I5 : Inv X pins σ H4 { s4 with heap := s4.heap.push { cls := .type "slice", data := .fields #[vl, vu, vs] } } := I4.kept (t' := s4.toks) fun b ob q => Heap.get?_push_of_some _ q
  obtain ⟨its, r, ht, hz⟩ := I5.list hx
  have hlen := r.length
  show wpAny (model X.prog X.w) X.A (subscriptTail e (.Slice none (some (.Constant (.int n1) k1 p1)) (some (.Constant (.int n2) k2 p2)) p3) (.ref a) (.ref s4.heap.objs.size)) (EP X pins σ Q) X.xe { s4 with heap := s4.heap.push { cls := .type "slice", data := .fields #[vl, vu, vs] } }
  refine tail_any (ops := [.ref a, .ref s4.heap.objs.size]) ht.isList.typeIs (PySem.slot_list_getitem.lookup) ?_ (by with_unfolding_all rfl)
  refine wpAny_getItem_list_slice ht.isList (Heap.IsSliceOf.new _ vl vu vs) pl pu ps (fun z => hne (Option.some.inj z)) ?_ (by rw [List.size_toArray]; omega)
  have hI := intsAre_of r
  have hmem : ∀ v ∈ (slicePick its.toArray none (some n1) (some n2)).toList, ∃ i t, v = Value.int i t := by
    intro v hv
    refine SrtO.ints_mem hI v ?_
    unfold slicePick at hv
    rw [List.toList_toArray] at hv
    obtain ⟨k, _, hk⟩ := List.mem_filterMap.mp hv
    have := Array.mem_of_getElem? hk
    simpa using this
  have hI2 := SrtO.ints_iv hmem
  have hsz := slicePick_size_le its.toArray none (some n1) (some n2)
  have hl2 : ((slicePick its.toArray none (some n1) (some n2)).toList.map SrtO.iv).length ≤ ns.length := by
    rw [List.length_map]
    have e1 : its.toArray.size = its.length := List.size_toArray
    rw [List.length_map] at hlen
    have e2 : (slicePick its.toArray none (some n1) (some n2)).toList.length = (slicePick its.toArray none (some n1) (some n2)).size := Array.length_toList
    omega
  refine ⟨.ref _, _, I5.laid (t' := s4.toks) (o := .lst (((slicePick its.toArray none (some n1) (some n2)).toList.map SrtO.iv).map V.int)) (fun b ob q => Heap.get?_push_of_some _ q) (Nat.le_refl _) ?_, rfl, q _ _ (I5.hok.fresh (Nat.le_refl _)) hl2⟩
  rw [List.length_map] at hz
  exact ⟨by rw [List.length_map]; omega, _, 0, vals_of_ints hI2, Heap.get?_push_size _ rfl⟩
end L2
namespace LC
open PySem PySem.Spec PyProof.Rows L2 HD DT2 TX TP ND EN RZ
/-- [e for x, y in zip(t, u)], two tuples of one length -/
theorem d_lcZ {K : PySem.W.Frag} {σ : L2.St} {H : Hp} {ta tb te : TE} {j l : Nat} {vs : List Nat} {ds es : List PyData} (f : Nat → PyData) (h : EvD K ta σ H (.tuple ds)) (h2 : EvD K tb σ H (.tuple es)) (hl : ds.length = es.length) (hz : ds.length ≤ 40000) (hn : ∀ i, noL (f i) = true)
    (hw : ∀ x y, wipe (((wipe σ vs).set j (some x)).set l (some y)) vs = wipe σ vs)
    (he : ∀ i v u d e H1, ds[i]? = some d → es[i]? = some e → Ex H H1 → Dp K H1 v d → Dp K H1 u e → EvD K te (((wipe σ vs).set j (some v)).set l (some u)) H1 (f i)) :
    EvD K (tLc (iZipA K (tCons ta (tCons tb tNil))) (gTup K 2 (gCons (gName j) (gCons (gName l) gNil))) tYes te vs) σ H (.list ((List.range ds.length).map f)) := fun H0 a0 Q k =>
  h H0 a0 _ fun v H1 a1 q => h2 H1 (a0.trans a1) _ fun u H2 a2 q2 => by
    obtain ⟨p1, x1, rfl, g1, g2⟩ := dp_tup (exd a2 q)
    obtain ⟨p2, x2, rfl, g3, g4⟩ := dp_tup q2
    have n1 := g2.length
    have n2 := g4.length
    refine ⟨p1, p2, x1, x2, rfl, .inr ⟨g1, g3, fun Dl hD => lc_gen (K := K) (J := ItzT K p1 p2) (n := ds.length) (fun H' => SqT K H' p1 x1 ∧ SqT K H' p2 x2 ∧ DpAll K H' x1 ds ∧ DpAll K H' x2 es) (fun i y H' => ∃ d e, ds[i]? = some d ∧ es[i]? = some e ∧ Dp K H' y (.tuple [d, e])) (gat (List.range ds.length) (fun _ => true) f) (fun H' e => ⟨Evl.ex_t e g1, Evl.ex_t e g3, exa e g2, exa e g4⟩) hD (fun i H' hi sc => ?_) (fun H' sc => ⟨x1, x2, sc.1, sc.2.1, .inl (by omega)⟩) (fun i H' y H3 hi sc yy => ?_) rfl (fun i _ => Nat.le_trans (gat_len i) (by simpa using hz)) (gat_no fun x _ _ => hn x) ?_ (fun H' e hq => k _ H' ((a1.trans a2).trans e) ?_)⟩⟩
    · exact ⟨x1, x2, _, _, sc.1, sc.2.1, List.getElem?_eq_getElem (by omega), List.getElem?_eq_getElem (by omega)⟩
    · obtain ⟨Tt, x, z, rfl, hT, rfl, hx1, hx2⟩ := yy
      obtain ⟨s1, s2, s3, s4⟩ := sc
      obtain ⟨d, hd1, hd2⟩ := s3.getV (hx1 x1 s1)
      obtain ⟨e, he1, he2⟩ := s4.getV (hx2 x2 s2)
      have en := Evl.Ex.new (o := HO.tup [x, z]) hT
      exact ⟨en, d, e, hd1, he1, .tup (.of upd_same) (.cons (exd en hd2) (.cons (exd en he2) .nil))⟩
    · rintro i y H' hi e ⟨d, e', hd, he', hq⟩ Q' kq
      have ee := ((a0.trans a1).trans a2).trans e
      have hx : (List.range ds.length)[i]? = some i := by rw [List.getElem?_range hi]
      obtain ⟨b, zs, rfl, g5, g6⟩ := dp_tup hq
      refine ⟨b, zs, rfl, g5, by rw [g6.length]; rfl, un2 g6 fun v1 v2 q1 q2 => ?_⟩
      exact kq _ (hw v1 v2) ⟨true, fun H3 e3 Q3 k3 => k3 H3 (Evl.Ex.refl _), (fun z => nomatch z), fun hp => ⟨f i, he i v1 v2 d e' H' hd he' ee q1 q2, (gat_next hx).2 hp⟩⟩
    · have h2 := gat_all (xs := List.range ds.length) (p := fun _ => true) (f := f)
      rw [List.length_range] at h2
      rw [h2, filter_yes] at hq
      exact hq
end LC
end
section
set_option Elab.async false
set_option linter.all false
set_option maxRecDepth 100000
set_option maxHeartbeats 4000000
/-! Walks: the law's own defs, the first half. -/
namespace WK
open PySem PySem.Spec PyProof.Rows L2 HD DT2 TX TP ND EN LC RZ
section
variable {P : Program} {w : World} {K : PySem.W.Frag} {mg : Str → Option Value} {base : Heap}
/-! ### _law_next -/
def Mut1 (H H' : Hp) (a : Addr) : Prop := ∀ b o, H b = some o → b ≠ a → H' b = some o
theorem Mut1.of_ex {H H' : Hp} {a : Addr} (e : Ex H H') : Mut1 H H' a := fun b o h _ => e b o h
theorem Mut1.trans {H H1 H2 : Hp} {a : Addr} (x : Mut1 H H1 a) (y : Mut1 H1 H2 a) : Mut1 H H2 a := fun b o h n => y b o (x b o h n) n
theorem Mut1.ex {H H1 H2 : Hp} {a : Addr} (m : Mut1 H1 H2 a) (e : Ex H H1) (h : H a = none) : Ex H H2 := fun b o q => m b o (e b o q) (ne_of_none q h)
/-- p is no mutable list, or not a -/
def KerL (K : PySem.W.Frag) (p : Addr) (xs : List V) : Prop := ∃ (o : Obj) (its : Array Value) (n : Nat), K.lookup p = some o ∧ o.cls = .type "list" ∧ o.dict = none ∧ o.data = .seq its n ∧ its.size ≤ sizeLine ∧ Vals xs its.toList
theorem Mut1.seq {H H' : Hp} {a p : Addr} {xs : List V} (m : Mut1 H H' a) (h : SqL K H p xs) (ne : p ≠ a ∨ KerL K p xs) : SqL K H' p xs := by
  rcases ne with ne | ne
  · rcases h with (h | ⟨o, h⟩) | h
    · exact .inl (.inl (m _ _ h ne))
    · exact .inl (.inr ⟨o, m _ _ h ne⟩)
    · exact .inr h
  · exact .inr ne
def AtN (H : Hp) (a : Addr) (j : Nat) : Prop := H a = some (.lst [.int (j : Nat)])
def spNext (K : PySem.W.Frag) : Sp := fun vs H Q _ => ∃ (p a : Addr) (ns : List Int) (j : Nat), vs = [.ref p, .ref a] ∧ SqL K H p (ns.map V.int) ∧ ns.length ≤ 63 ∧ AtN H a j ∧ (p ≠ a ∨ KerL K p (ns.map V.int)) ∧ j ≤ 100000 ∧ ∀ H' (i : Nat), Mut1 H H' a → AtN H' a (j + 1) → Q (.int (i : Nat)) H'
theorem fmod_nat {i j : Int} (hj : 0 < j) : ∃ n : Nat, i.fmod j = n ∧ (n : Int) < j := by
  have h1 := Int.fmod_nonneg_of_pos i hj
  have h2 := Int.fmod_lt_of_pos i hj
  exact ⟨(i.fmod j).toNat, by omega, by omega⟩
theorem sc__law_next : FnScope ["_law_script", "_law_at", "_law_cell", "_law_m"] ["_law_script", "_law_at"] (defScope (top 89)) := ⟨rfl, rfl, rfl, by decide +kernel, rfl, by decide +kernel, by decide +kernel⟩
theorem h_law_next (T : Top K mg) : Has P w K mg base "_law_next" ["_law_script", "_law_at"] 1 (spNext K) := by
  refine mk_has T 34 rfl rfl (fun _ _ _ _ _ _ us hl => match us, hl with | [_, _], _ => rfl) fun fd F => ?_
  refine F.ok sc__law_next (fun vs H Q E h => by obtain ⟨_, _, _, _, rfl, _⟩ := h; rfl) fun cdv A outer s H vs Q E hr h => ⟨_, PSs.nox (pss_cons (ps_asg (pe_op op_add (pe_ix ix_list (pv 1) pe_int (fun _ _ => rfl)) pe_int) (pg_sub (pv 1) pe_int set_list))
      (pss_cons (ps_set (i := 2) sc__law_next.nd rfl (Or.inl rfl) pe_int)
      (pss_cons (ps_if (pt_cmpR op_gt (pe_callB call_len_seq (by rfl) (T.free 56) (by decide +kernel) (pa_cons (pv 0) pa_nil)) pe_int (nomark _)) (pss_one (ps_set (i := 2) sc__law_next.nd rfl (Or.inl rfl) (pe_ix ix_list (pv 0) (pe_op op_modN (pe_ix ix_list (pv 1) pe_int (fun _ _ => rfl)) (pe_callB call_len_seq (by rfl) (T.free 56) (by decide +kernel) (pa_cons (pv 0) pa_nil))) (fun _ _ => rfl)))) pss_nil)
      (pss_cons (ps_set (i := 3) sc__law_next.nd rfl (Or.inl rfl) (pe_op op_modN (pe_op op_mul (pe_op op_add (pe_op op_add (pe_op op_modN (pv 2) pe_int) (pe_op op_mul (pe_op op_mul (pe_ix ix_list (pv 1) pe_int (fun _ _ => rfl)) (pe_ix ix_list (pv 1) pe_int (fun _ _ => rfl))) pe_int)) pe_int) pe_int) pe_int))
      (pss_one (ps_ret (pe_op op_modN (pe_op op_mul (pv 3) (pv 3)) pe_int))))))), ?_⟩
  obtain ⟨p, a, ns, j, rfl, hp, hn, ha, hne, hj, k⟩ := h
  simp only [L2.start, List.map_cons, List.map_nil, List.length_cons, List.length_nil, Nat.reduceAdd, Nat.reduceSub, List.replicate_succ, List.replicate_zero, List.cons_append, List.nil_append]
  have at0 : ∀ {σ : L2.St} {H1 : Hp} {j : Nat}, σ[1]? = some (some (.ref a)) → AtN H1 a j → Evl.Ev (tOp (rIxL K) (tVar 1) (tC (.int 0))) σ H1 (.int (j : Nat)) := fun h1 h2 => Evl.ev_op (Evl.ev_var h1) Evl.ev_c (Evl.rv_ixL (Evl.sq_of h2) rfl)
  refine Evl.q_setL (v := .int ((j + 1 : Nat) : Nat)) (j := 0) ha (Evl.ev_is (Evl.ev_op (at0 rfl ha) Evl.ev_c Evl.rv_I0) (by congr 1)) (Evl.ev_var rfl) Evl.ev_c (Nat.lt_succ_self 0) fun H1 e1 => ?_
  have m1 : Mut1 H (upd H1 a (.lst [.int ((j + 1 : Nat) : Nat)])) a := fun b o h hb => by rw [upd_ne hb]; exact e1 b o h
  have a1 : AtN (upd H1 a (.lst [.int ((j + 1 : Nat) : Nat)])) a (j + 1) := upd_same
  have p1 := m1.seq hp hne
  show tSeq _ _ _ _ (upd H1 a (.lst [.int ((j + 1 : Nat) : Nat)]))
  refine Evl.q_asg Evl.ev_c fun H2 e2 => ?_
  simp only [List.set_cons_succ, List.set_cons_zero]
  have len : (ns.map V.int).length = ns.length := List.length_map ..
  refine q_ifK (fun σ' H' => ∃ cell : Int, σ' = [some (.ref p), some (.ref a), some (.int cell), none] ∧ Mut1 H H' a ∧ AtN H' a (j + 1)) (b := decide (0 < ns.length)) (Evl.et_is (Evl.et_test (Evl.ev_op (Evl.ev_len (Evl.ev_var rfl) (Evl.ex_l e2 p1)) Evl.ev_c Evl.rv_I0)) (by rw [len]; exact dec_iff (by omega))) ?_ (fun hb H3 e3 kk => ?_) (fun hb H3 e3 kk => kk _ _ ⟨0, rfl, m1.trans (.of_ex (e2.trans e3)), e3 _ _ (e2 _ _ a1)⟩)
  · rintro σ' H3 ⟨cell, rfl, m3, a3⟩
    obtain ⟨c1, hc1, hc1'⟩ := fmod_nat (i := cell) (j := 2147483647) (by decide)
    obtain ⟨c2, hc2, hc2'⟩ := fmod_nat (i := ((c1 : Int) + ((j + 1 : Nat) : Int) * ((j + 1 : Nat) : Int) * 7919 + 11) * 48271) (j := 2147483647) (by decide)
    obtain ⟨c3, hc3, hc3'⟩ := fmod_nat (i := (c2 : Int) * (c2 : Int)) (j := 1999999973) (by decide)
    have jb : CMul ((j + 1 : Nat) : Int) ((j + 1 : Nat) : Int) := .inl ⟨by omega, by omega⟩
    refine Evl.q_asg (v := .int (c2 : Nat)) (Evl.ev_is (Evl.ev_op (Evl.ev_op (Evl.ev_op (Evl.ev_op (Evl.ev_is (Evl.ev_op (Evl.ev_var rfl) Evl.ev_c (Evl.rv_I (by decide))) (congrArg V.int hc1)) (Evl.ev_op (Evl.ev_op (at0 rfl a3) (at0 rfl a3) (Evl.rv_I jb)) Evl.ev_c (Evl.rv_I (.inr (by decide)))) Evl.rv_I0) Evl.ev_c Evl.rv_I0) Evl.ev_c (Evl.rv_I (.inr (by decide)))) Evl.ev_c (Evl.rv_I (by decide))) (congrArg V.int hc2)) fun H4 e4 => ?_
    simp only [List.set_cons_succ, List.set_cons_zero]
    exact Evl.s_ret (v := .int (c3 : Nat)) (Evl.ev_is (Evl.ev_op (Evl.ev_op (Evl.ev_var rfl) (Evl.ev_var rfl) (Evl.rv_I (.inl ⟨by omega, by omega⟩))) Evl.ev_c (Evl.rv_I (by decide))) (congrArg V.int hc3)) fun H5 e5 => k H5 c3 (m3.trans (.of_ex (e4.trans e5))) (e5 _ _ (e4 _ _ a3))
  · have hpos := of_decide_eq_true hb
    obtain ⟨c, hc, hc'⟩ := fmod_nat (i := ((j + 1 : Nat) : Int)) (j := ((ns.length : Nat) : Int)) (by omega)
    have e23 := e2.trans e3
    have hlt : c < ns.length := by omega
    refine Evl.s_asg (v := .int ns[c]) (Evl.ev_op (Evl.ev_var rfl) (Evl.ev_is (Evl.ev_op (at0 rfl (e23 _ _ a1)) (Evl.ev_is (Evl.ev_len (Evl.ev_var rfl) (Evl.ex_l e23 p1)) (by rw [len])) (Evl.rv_I (by omega))) (congrArg V.int hc)) (Evl.rv_ixL (Evl.ex_l e23 p1) (atI_nat ?_))) fun H4 e4 => kk _ _ ⟨_, rfl, m1.trans (.of_ex (e23.trans e4)), e4 _ _ (e23 _ _ a1)⟩
    rw [List.getElem?_map, List.getElem?_eq_getElem hlt]
    rfl
/-! ### _law_sign, _law_context -/
def RSign : List Ag → PyData → Hp → Prop := fun as d _ => ∃ mk, ∃ p : Int, as = [.d (mksD mk), .v (.int p)] ∧ d = .int (look mk p : Nat)
theorem sc__law_sign : FnScope ["_law_marks", "_law_place", "_law_spot", "_law_sign_here"] ["_law_marks", "_law_place"] (defScope (top 92)) := ⟨rfl, rfl, rfl, by decide +kernel, rfl, by decide +kernel, by decide +kernel⟩
theorem h_law_sign (T : Top K mg) : Has P w K mg base "_law_sign" ["_law_marks", "_law_place"] 1 (SpD K RSign) := by
  refine mk_has T 37 rfl rfl (fun _ _ _ _ _ _ us hl => match us, hl with | [_, _], _ => rfl) fun fd F => ?_
  refine F.ok sc__law_sign (fun vs H Q E h => len_of h fun as d H h => by obtain ⟨_, _, rfl, _⟩ := h; rfl) fun cdv A outer s H vs Q E hr h => ⟨_, PSs.nox (pss_cons (ps_for PassesOwn.never rfl (pi_tup (pv 0)) (pg_tup rfl (pgs_cons (pg_name (i := 2) sc__law_sign.nd rfl (Or.inl rfl)) (pgs_cons (pg_name (i := 3) sc__law_sign.nd rfl (Or.inl rfl)) pgs_nil))) (pss_one (ps_if (pt_cmpR op_eq (pv 2) (pv 1) (nomark _)) (pss_one (ps_ret (pv 3))) pss_nil)))
      (pss_one (ps_ret pe_int))), ?_⟩
  obtain ⟨as, d, ha, ⟨mk, p, rfl, rfl⟩, k⟩ := h
  obtain ⟨x, y, rfl, h1, rfl⟩ := ags2 ha
  simp only [L2.start, List.map_cons, List.map_nil, List.length_cons, List.length_nil, Nat.reduceAdd, Nat.reduceSub, List.replicate_succ, List.replicate_zero, List.cons_append, List.nil_append]
  refine qD_forT (ds := mk.map mkD) (dv rfl h1) (fun v i σ' H' => ∃ u1 u2, σ' = [some x, some (.int p), u1, u2] ∧ Ex H H' ∧ Dp K H' v (mksD mk) ∧ look (mk.drop i) p = look mk p) (fun v H1 e1 q => ⟨none, none, rfl, e1, q, rfl⟩) (fun v i σ' H' _ h => by obtain ⟨_, _, _, _, h, _⟩ := h; exact h) ?_ ?_
  · rintro v i z dd σ' H' hi hz ⟨u1, u2, rfl, e1, q, hl⟩
    rw [List.getElem?_map] at hi
    obtain ⟨b, hb, rfl⟩ := Option.map_eq_some_iff.mp hi
    have hd : mk.drop i = b :: mk.drop (i + 1) := by
      obtain ⟨hlt, e⟩ := List.getElem?_eq_some_iff.mp hb
      rw [← e]; exact List.drop_eq_getElem_cons hlt
    obtain ⟨t, xs, rfl, g1, g2⟩ := dp_tup hz
    refine ⟨t, xs, rfl, g1, by rw [g2.length]; rfl, un2 g2 fun v1 v2 q1 q2 => ?_⟩
    cases q1
    cases q2
    rw [hd, look] at hl
    refine Evl.s_when (Evl.et_test (Evl.ev_op (Evl.ev_var rfl) (Evl.ev_var rfl) (Evl.rv_eq rfl))) (fun hb2 H2 e2 => ?_) (fun hb2 H2 e2 => ?_)
    · have e : b.1 = p := by have := of_decide_eq_true hb2; injection this
      rw [if_pos e] at hl
      exact sD_ret (Ev.int (Evl.ev_var rfl)) fun v3 H3 e3 q3 => k v3 H3 ((e1.trans e2).trans e3) (by rw [← hl]; exact q3)
    · have e : ¬ b.1 = p := fun z => of_decide_eq_false hb2 (by rw [z])
      rw [if_neg e] at hl
      exact ⟨_, _, rfl, e1.trans e2, exd e2 q, hl⟩
  · rintro v σ' H' ⟨u1, u2, rfl, e1, q, hl⟩
    rw [List.length_map, List.drop_length] at hl
    exact sD_ret (Ev.int (i := 0) Evl.ev_c) fun v3 H3 e3 q3 => k v3 H3 (e1.trans e3) (by rw [← hl]; exact q3)
def RCtxOf : List Ag → PyData → Hp → Prop := fun as d _ => ∃ s, ∃ n : Nat, as = [.d (shD s), .v (.int (n : Nat))] ∧ n ≤ 1000 ∧ d = ctxD (ctx s n)
theorem ev_sign {H : Hp} {σ : L2.St} {E : XK} {ta tb : TE} {mk : List (Int × Nat)} {p : Int} (h : EvD K ta σ H (mksD mk)) (hp : Evl.Ev tb σ H (.int p)) : Evl.Ev (tCall (SpD K RSign) [] E (tCons ta (tCons tb tNil))) σ H (.int (look mk p : Nat)) :=
  EvD.int (d_call (as_d h (as_v hp as_nil)) fun H1 e1 => ⟨mk, p, rfl, rfl⟩)
theorem sc__law_context : FnScope ["_law_shot", "_law_width", "_law_state", "_law_place", "_law_marks", "_law_left", "_law_right", "_law_k"] ["_law_shot", "_law_width"] (defScope (top 93)) := ⟨rfl, rfl, rfl, by decide +kernel, rfl, by decide +kernel, by decide +kernel⟩
theorem h_law_context (T : Top K mg) : Has P w K mg base "_law_context" ["_law_shot", "_law_width"] 2 (SpD K RCtxOf) := by
  have H__law_sign : Has P w K mg base "_law_sign" ["_law_marks", "_law_place"] 1 (SpD K RSign) := h_law_sign T
  refine mk_has T 38 rfl rfl (fun _ _ _ _ _ _ us hl => match us, hl with | [_, _], _ => rfl) fun fd F => ?_
  refine F.ok sc__law_context (fun vs H Q E h => len_of h fun as d H h => by obtain ⟨_, _, rfl, _⟩ := h; rfl) fun cdv A outer s H vs Q E hr h => ⟨_, PSs.nox (pss_cons (ps_asg (pv 0) (pg_tup rfl (pgs_cons (pg_name (i := 2) sc__law_context.nd rfl (Or.inl rfl)) (pgs_cons (pg_name (i := 3) sc__law_context.nd rfl (Or.inr rfl)) (pgs_cons (pg_name (i := 4) sc__law_context.nd rfl (Or.inr rfl)) pgs_nil)))))
      (pss_cons (ps_set (i := 5) sc__law_context.nd rfl (Or.inl rfl) (pe_callTy call_tuple_of (by rfl) (T.free 52) (by decide +kernel) (pa_cons (pe_lc (own := [("_law_k", 7)]) (g := (gName 7)) (tt := tYes) rfl sc__law_context.nd (pi_range1 (by rfl) (T.free 59) (pa_cons (pv 1) pa_nil)) (blkOk_by (N := ["_law_shot", "_law_width", "_law_state", "_law_place", "_law_marks", "_law_left", "_law_right", "_law_k"]) (sc := defScope (top 93)) (by decide +kernel)) (fun _ _ _ _ _ => (pg_name (i := 7) sc__law_context.nd rfl (Or.inl rfl))) (fun _ _ _ _ _ => pts_nil) (fun _ _ _ _ _ => (pe_callH H__law_sign (hr.mono (by decide)) (pa_cons (pv 4) (pa_cons (pe_op op_sub (pe_op op_sub (pv 3) pe_int) (pv 7)) pa_nil))))) pa_nil)))
      (pss_cons (ps_set (i := 6) sc__law_context.nd rfl (Or.inl rfl) (pe_callTy call_tuple_of (by rfl) (T.free 52) (by decide +kernel) (pa_cons (pe_lc (own := [("_law_k", 7)]) (g := (gName 7)) (tt := tYes) rfl sc__law_context.nd (pi_range1 (by rfl) (T.free 59) (pa_cons (pv 1) pa_nil)) (blkOk_by (N := ["_law_shot", "_law_width", "_law_state", "_law_place", "_law_marks", "_law_left", "_law_right", "_law_k"]) (sc := defScope (top 93)) (by decide +kernel)) (fun _ _ _ _ _ => (pg_name (i := 7) sc__law_context.nd rfl (Or.inl rfl))) (fun _ _ _ _ _ => pts_nil) (fun _ _ _ _ _ => (pe_callH H__law_sign (hr.mono (by decide)) (pa_cons (pv 4) (pa_cons (pe_op op_add (pe_op op_add (pv 3) pe_int) (pv 7)) pa_nil))))) pa_nil)))
      (pss_one (ps_ret (pe_tup (pa_cons (pv 5) (pa_cons (pv 2) (pa_cons (pe_callH H__law_sign (hr.mono (by decide)) (pa_cons (pv 4) (pa_cons (pv 3) pa_nil))) (pa_cons (pv 6) pa_nil)))))))))), ?_⟩
  obtain ⟨as, d, ha, ⟨u, n, rfl, hn, rfl⟩, k⟩ := h
  obtain ⟨x, y, rfl, h1, rfl⟩ := ags2 ha
  simp only [L2.start, List.map_cons, List.map_nil, List.length_cons, List.length_nil, Nat.reduceAdd, Nat.reduceSub, List.replicate_succ, List.replicate_zero, List.cons_append, List.nil_append]
  refine qD_un (ds := [.int u.st, .int u.pl, mksD u.mks]) (dv rfl h1) rfl fun xs H2 e2 hx => un3 hx fun v1 v2 v3 q1 q2 q3 => ?_
  cases q1
  cases q2
  simp only [List.set_cons_succ, List.set_cons_zero]
  refine qD_asg (d := gramD (gramL u n 0)) (d_is (d_tupleOf (d_lcR (n := n) (fun i => .int (look u.mks (u.pl - 1 - (i : Nat)) : Nat)) (Evl.ev_var rfl) (by omega) (fun _ => rfl) (fun _ => rfl) fun i H3 hi e3 => Ev.int (ev_sign (dv rfl (exd e3 q3)) (Evl.ev_op (Evl.ev_op (Evl.ev_var rfl) Evl.ev_c Evl.rv_I0) (Evl.ev_var rfl) Evl.rv_I0)))) ?_) fun v4 H4 e4 q4 => ?_
  · unfold gramD gramL
    rw [List.map_map]
    congr 1
    refine List.map_congr_left fun i _ => ?_
    show _ = PyData.int _
    congr 3
    omega
  simp only [List.set_cons_succ, List.set_cons_zero]
  refine qD_asg (d := gramD (gramR u n 0)) (d_is (d_tupleOf (d_lcR (n := n) (fun i => .int (look u.mks (u.pl + 1 + (i : Nat)) : Nat)) (Evl.ev_var rfl) (by omega) (fun _ => rfl) (fun _ => rfl) fun i H3 hi e3 => Ev.int (ev_sign (dv rfl (exd (e4.trans e3) q3)) (Evl.ev_op (Evl.ev_op (Evl.ev_var rfl) Evl.ev_c Evl.rv_I0) (Evl.ev_var rfl) Evl.rv_I0)))) ?_) fun v5 H5 e5 q5 => ?_
  · unfold gramD gramR
    rw [List.map_map]
    congr 1
    refine List.map_congr_left fun i _ => ?_
    show _ = PyData.int _
    congr 3
    omega
  simp only [List.set_cons_succ, List.set_cons_zero]
  have e45 := e4.trans e5
  exact sD_ret (d_tup (ds := [gramD (gramL u n 0), .int (u.st : Nat), .int (look u.mks u.pl : Nat), gramD (gramR u n 0)]) (as_d (dv rfl (exd e5 q4)) (as_d (Ev.int (Evl.ev_var rfl)) (as_d (Ev.int (ev_sign (dv rfl (exd e45 q3)) (Evl.ev_var rfl))) (as_d (dv rfl q5) as_nil))))) fun v6 H6 e6 q6 => k v6 H6 ((e2.trans e45).trans e6) q6
end
end WK
end
section
set_option Elab.async false
set_option linter.all false
set_option maxRecDepth 100000
set_option maxHeartbeats 4000000
/-! Walks: the law's own defs, the rest. -/
namespace WK
open PySem PySem.Spec PyProof.Rows L2 HD DT2 TX TP ND EN LC RZ
section
variable {P : Program} {w : World} {K : PySem.W.Frag} {mg : Str → Option Value} {base : Heap}
theorem hu65 {A : Around} {k : Nat} (r : Room k A) : A.units + 65 < cLine := by have := r.un; omega
/-! ### _law_same -/
def RUp (R : List Ag → PyData → Hp → Prop) : List Ag → PyData → Hp → Prop := fun as d _ => ∃ x, as = [.d x, .d x] ∧ d = .bool true ∧ ((∃ i, x = .int i) ∨ ∃ ds, x = .tuple ds ∧ ds.length ≤ 40000 ∧ ∀ z ∈ ds, ∀ H, R [.d z, .d z] (.bool true) H)
def R0 : List Ag → PyData → Hp → Prop := fun _ _ _ => False
theorem up_int {R : List Ag → PyData → Hp → Prop} (i : Int) (H : Hp) : RUp R [.d (.int i), .d (.int i)] (.bool true) H := ⟨_, rfl, rfl, .inl ⟨i, rfl⟩⟩
theorem up_tup {R : List Ag → PyData → Hp → Prop} {ds : List PyData} (h : ∀ z ∈ ds, ∀ H, R [.d z, .d z] (.bool true) H) (hl : ds.length ≤ 40000) (H : Hp) : RUp R [.d (.tuple ds), .d (.tuple ds)] (.bool true) H := ⟨_, rfl, rfl, .inr ⟨ds, rfl, hl, h⟩⟩
theorem sc__law_same : FnScope ["_law_found", "_law_due", "_law_name", "_law_one", "_law_other"] ["_law_found", "_law_due"] (defScope (top 90)) := ⟨rfl, rfl, rfl, by decide +kernel, rfl, by decide +kernel, by decide +kernel⟩
theorem h_same0 (T : Top K mg) : Has P w K mg base "_law_same" ["_law_found", "_law_due"] 1 (SpD K R0) := by
  refine mk_has T 35 rfl rfl (fun _ _ _ _ _ _ us hl => match us, hl with | [_, _], _ => rfl) fun fd F => ?_
  exact F.ok sc__law_same (fun vs H Q E h => by obtain ⟨_, _, _, h, _⟩ := h; exact h.elim) fun cdv A outer s H vs Q E hr h => by obtain ⟨_, _, _, h, _⟩ := h; exact h.elim
theorem h_sameS (T : Top K mg) {n : Nat} {R : List Ag → PyData → Hp → Prop} (H__law_same : Has P w K mg base "_law_same" ["_law_found", "_law_due"] n (SpD K R)) : Has P w K mg base "_law_same" ["_law_found", "_law_due"] (n + 1) (SpD K (RUp R)) := by
  refine mk_has T 35 rfl rfl (fun _ _ _ _ _ _ us hl => match us, hl with | [_, _], _ => rfl) fun fd F => ?_
  refine F.ok sc__law_same (fun vs H Q E h => len_of h fun as d H h => by obtain ⟨_, rfl, _⟩ := h; rfl) fun cdv A outer s H vs Q E hr h => ⟨_, PSs.nox (pss_cons (ps_if (pt_val (pe_callB call_isi (by rfl) (T.free 49) (by decide +kernel) (pa_cons (pv 1) (pa_cons (pe_bltn (v := .ty "dict") (by rfl) (T.free 54) (by decide +kernel) rfl) pa_nil)))) (pss_cons ps_never
      (pss_one ps_never)) pss_nil)
      (pss_cons (ps_if (PW.pt (pw_or (pt_val (pe_callB call_isi (by rfl) (T.free 49) (by decide +kernel) (pa_cons (pv 1) (pa_cons (pe_bltn (v := .ty "list") (by rfl) (T.free 53) (by decide +kernel) rfl) pa_nil)))) (pw_or1 (pt_val (pe_callB call_isi (by rfl) (T.free 49) (by decide +kernel) (pa_cons (pv 1) (pa_cons (pe_bltn (v := .ty "tuple") (by rfl) (T.free 52) (by decide +kernel) rfl) pa_nil))))))) (pss_cons (ps_if (PW.pt (pw_or (pt_cmpR op_ne (pe_callB call_isi (by rfl) (T.free 49) (by decide +kernel) (pa_cons (pv 0) (pa_cons (pe_bltn (v := .ty "list") (by rfl) (T.free 53) (by decide +kernel) rfl) pa_nil))) (pe_callB call_isi (by rfl) (T.free 49) (by decide +kernel) (pa_cons (pv 1) (pa_cons (pe_bltn (v := .ty "list") (by rfl) (T.free 53) (by decide +kernel) rfl) pa_nil))) (nomark _)) (pw_or1 (pt_cmpR op_ne (pe_callB call_isi (by rfl) (T.free 49) (by decide +kernel) (pa_cons (pv 0) (pa_cons (pe_bltn (v := .ty "tuple") (by rfl) (T.free 52) (by decide +kernel) rfl) pa_nil))) (pe_callB call_isi (by rfl) (T.free 49) (by decide +kernel) (pa_cons (pv 1) (pa_cons (pe_bltn (v := .ty "tuple") (by rfl) (T.free 52) (by decide +kernel) rfl) pa_nil))) (nomark _))))) (pss_one (ps_ret pe_bl)) pss_nil)
      (pss_one (ps_ret (pe_and (pe_cmpR op_eq (pe_callB call_len_seq (by rfl) (T.free 56) (by decide +kernel) (pa_cons (pv 0) pa_nil)) (pe_callB call_len_seq (by rfl) (T.free 56) (by decide +kernel) (pa_cons (pv 1) pa_nil)) (nomark _)) (pe_one (pe_callB (cr_all rfl) (by rfl) (T.free 57) (by decide +kernel) (pa_cons (pe_lc (own := [("_law_one", 3), ("_law_other", 4)]) (g := (gTup _ 2 (gCons (gName 3) (gCons (gName 4) gNil)))) (tt := tYes) rfl sc__law_same.nd (pi_zipA (by rfl) (T.free 62) (pa_cons (pv 0) (pa_cons (pv 1) pa_nil))) (blkOk_by (N := ["_law_found", "_law_due", "_law_name", "_law_one", "_law_other"]) (sc := defScope (top 90)) (by decide +kernel)) (fun _ _ _ _ _ => (pg_tup rfl (pgs_cons (pg_name (i := 3) sc__law_same.nd rfl (Or.inl rfl)) (pgs_cons (pg_name (i := 4) sc__law_same.nd rfl (Or.inl rfl)) pgs_nil)))) (fun _ _ _ _ _ => pts_nil) (fun _ _ _ _ _ => (pe_callH H__law_same hr (pa_cons (pv 3) (pa_cons (pv 4) pa_nil))))) pa_nil))))))) pss_nil)
      (pss_cons (ps_if (pt_val (pe_callB call_isi (by rfl) (T.free 49) (by decide +kernel) (pa_cons (pv 1) (pa_cons (pe_bltn (v := .ty "str") (by rfl) (T.free 55) (by decide +kernel) rfl) pa_nil)))) (pss_one (ps_ret (pe_and (pe_callB call_isi (by rfl) (T.free 49) (by decide +kernel) (pa_cons (pv 0) (pa_cons (pe_bltn (v := .ty "str") (by rfl) (T.free 55) (by decide +kernel) rfl) pa_nil))) (pe_one (pe_cmpR op_eq (pv 0) (pv 1) (nomark _)))))) pss_nil)
      (pss_one (ps_ret (pe_and (pe_callB call_isi (by rfl) (T.free 49) (by decide +kernel) (pa_cons (pv 0) (pa_cons (pe_bltn (v := .ty "int") (by rfl) (T.free 50) (by decide +kernel) rfl) pa_nil))) (pe_and (pe_not (pe_callB call_isi (by rfl) (T.free 49) (by decide +kernel) (pa_cons (pv 0) (pa_cons (pe_bltn (v := .ty "bool") (by rfl) (T.free 51) (by decide +kernel) rfl) pa_nil)))) (pe_one (pe_cmpR op_eq (pv 0) (pv 1) (nomark _)))))))))), ?_⟩
  obtain ⟨as, d, ha, ⟨x, rfl, rfl, hx⟩, k⟩ := h
  obtain ⟨a, b, rfl, h1, h2⟩ := ags2 ha
  simp only [L2.start, List.map_cons, List.map_nil, List.length_cons, List.length_nil, Nat.reduceAdd, Nat.reduceSub, List.replicate_succ, List.replicate_zero, List.cons_append, List.nil_append]
  rcases hx with ⟨i, rfl⟩ | ⟨ds, rfl, hl, hR⟩
  · cases h1
    cases h2
    refine q_ifF (Evl.et_B (d_isi (dv rfl (.int i)) kit_int_dict)) fun H1 e1 => ?_
    refine q_ifF (Evl.et_or (a := false) (b := false) (Evl.et_B (d_isi (dv rfl (.int i)) kit_int_list)) fun _ => Evl.et_B (d_isi (dv rfl (.int i)) kit_int_tuple)) fun H2 e2 => ?_
    refine q_ifF (Evl.et_B (d_isi (dv rfl (.int i)) kit_int_str)) fun H3 e3 => ?_
    refine sD_ret (Ev.bl (Evl.ev_is (Evl.ev_andV (d_isi (dv rfl (.int i)) kit_int_int) fun _ => Evl.ev_andV (Evl.ev_notV (d_isi (dv rfl (.int i)) kit_int_bool)) fun _ => Evl.ev_op (Evl.ev_var rfl) (Evl.ev_var rfl) (Evl.rv_eq rfl)) ?_)) fun v H4 e4 q => k v H4 (((e1.trans e2).trans e3).trans e4) q
    rw [eq_yes rfl]
    rfl
  · refine q_ifF (Evl.et_B (d_isi (dv rfl h2) kit_tuple_dict)) fun H1 e1 => ?_
    have h1' := exd e1 h1
    have h2' := exd e1 h2
    refine Evl.q_when (b := true) (Evl.et_or (a := false) (b := true) (Evl.et_B (d_isi (dv rfl h2') kit_tuple_list)) fun _ => Evl.et_B (d_isi (dv rfl h2') kit_tuple_tuple)) (fun _ H2 e2 => ?_) (fun z => nomatch z)
    have h1'' := exd e2 h1'
    have h2'' := exd e2 h2'
    refine q_ifF (Evl.et_or (a := false) (b := false) (Evl.et_is (Evl.et_test (Evl.ev_op (d_isi (dv rfl h1'') kit_tuple_list) (d_isi (dv rfl h2'') kit_tuple_list) (Evl.rv_ne rfl))) (by decide +kernel)) fun _ => Evl.et_is (Evl.et_test (Evl.ev_op (d_isi (dv rfl h1'') kit_tuple_tuple) (d_isi (dv rfl h2'') kit_tuple_tuple) (Evl.rv_ne rfl))) (by decide +kernel)) fun H3 e3 => ?_
    have g1 := exd e3 h1''
    have g2 := exd e3 h2''
    refine sD_ret (Ev.bl (Evl.ev_is (Evl.ev_andV (Evl.ev_op (d_lenT (dv rfl g1)) (d_lenT (dv rfl g2)) (Evl.rv_eq rfl)) fun _ => d_all (bs := (List.range ds.length).map fun _ => true) (d_is (d_lcZ (fun _ => .bool true) (dv rfl g1) (dv rfl g2) rfl hl (fun _ => rfl) (fun _ _ => rfl) fun i v u d e H4 hd he e4 q1 q2 => ?_) (by rw [all_true]))) ?_)) fun v H4 e4 q => k v H4 (((e1.trans e2).trans e3).trans e4) q
    · rw [hd] at he
      cases he
      exact d_call (as_d (dv rfl q1) (as_d (dv rfl q2) as_nil)) fun H5 e5 => hR d (List.mem_of_getElem? hd) H5
    · rw [eq_yes rfl, all_id]
      rfl
/-- numbers and shots -/
def RSm : List Ag → PyData → Hp → Prop := RUp (RUp (RUp (RUp R0)))
theorem h_same (T : Top K mg) : Has P w K mg base "_law_same" ["_law_found", "_law_due"] 5 (SpD K RSm) := h_sameS T (h_sameS T (h_sameS T (h_sameS T (h_same0 T))))
theorem sm_sh (s : Sh) (hz : s.mks.length ≤ 40000) (H : Hp) : RSm [.d (shD s), .d (shD s)] (.bool true) H := by
  refine up_tup (fun z hz2 H => ?_) (by simp) H
  rcases List.mem_cons.mp hz2 with rfl | hz2
  · exact up_int _ H
  · rcases List.mem_cons.mp hz2 with rfl | hz2
    · exact up_int _ H
    · rw [List.mem_singleton.mp hz2]
      refine up_tup (fun z hz3 H => ?_) (by rw [List.length_map]; exact hz) H
      obtain ⟨m, _, rfl⟩ := List.mem_map.mp hz3
      refine up_tup (fun z hz4 H => ?_) (by simp) H
      rcases List.mem_cons.mp hz4 with rfl | hz4
      · exact up_int _ H
      · rw [List.mem_singleton.mp hz4]; exact up_int _ H
variable {H : Hp} {σ : L2.St} {E : XK} {ta tb tc te : TE} {m S c n : Nat} {Tb : Tbl}
theorem ev_sameI {i : Int} (h1 : Evl.Ev ta σ H (.int i)) (h2 : Evl.Ev tb σ H (.int i)) : Evl.Ev (tCall (SpD K RSm) [] E (tCons ta (tCons tb tNil))) σ H (.bl true) := EvD.bl (d_call (as_d (Ev.int h1) (as_d (Ev.int h2) as_nil)) fun H1 _ => up_int i H1)
theorem ev_sameS {s : Sh} (h1 : EvD K ta σ H (shD s)) (h2 : EvD K tb σ H (shD s)) (hz : s.mks.length ≤ 40000) : Evl.Ev (tCall (SpD K RSm) [] E (tCons ta (tCons tb tNil))) σ H (.bl true) := EvD.bl (d_call (as_d h1 (as_d h2 as_nil)) fun H1 _ => sm_sh s hz H1)
/-! ### after's two parts -/
theorem d_after (h : Evl.Ev ta σ H (.ref m)) (h2 : Evl.Ev tb σ H (.int (n : Nat))) (hm : MachAt K H m Tb) (hT : TblOk Tb S c) (hn : n ≤ 20000) : EvD K (tCall (SpD K (RAfter K)) [] E (tCons ta (tCons tb tNil))) σ H (afterD Tb n) :=
  d_call (as_v h (as_v h2 as_nil)) fun H1 e1 => ⟨m, Tb, S, c, n, rfl, hm.ex e1, hT, hn, rfl⟩
theorem d_after0 (h : Evl.Ev ta σ H (.ref m)) (h2 : Evl.Ev tb σ H (.int (n : Nat))) (hm : MachAt K H m Tb) (hT : TblOk Tb S c) (hn : n ≤ 20000) : EvD K (tOp (rIxT K) (tCall (SpD K (RAfter K)) [] E (tCons ta (tCons tb tNil))) (tC (.int 0))) σ H (shD (go Tb n first).1) := d_ixT (d_after h h2 hm hT hn) Evl.ev_c rfl
theorem ev_after1 (h : Evl.Ev ta σ H (.ref m)) (h2 : Evl.Ev tb σ H (.int (n : Nat))) (hm : MachAt K H m Tb) (hT : TblOk Tb S c) (hn : n ≤ 20000) : Evl.Ev (tOp (rIxT K) (tCall (SpD K (RAfter K)) [] E (tCons ta (tCons tb tNil))) (tC (.int 1))) σ H (.int ((go Tb n first).2 : Nat)) := EvD.int (d_ixT (d_after h h2 hm hT hn) Evl.ev_c rfl)
theorem ev_addN {i j : Nat} (h : Evl.Ev ta σ H (.int (i : Nat))) (h2 : Evl.Ev tb σ H (.int (j : Nat))) : Evl.Ev (tOp (rI0 fun i j => .int (i + j)) ta tb) σ H (.int ((i + j : Nat) : Nat)) := Evl.ev_is (Evl.ev_op h h2 Evl.rv_I0) (by congr 1)
/-! ### _law_stopped -/
def RStopped (K : PySem.W.Frag) : List Ag → PyData → Hp → Prop := fun as d H => ∃ m T S c u, ∃ i n : Nat, as = [.v (.ref m), .v (.int (i : Nat)), .v (.int (n : Nat))] ∧ MachAt K H m T ∧ TblOk T S c ∧ i ≤ n ∧ n ≤ 1000 ∧ runs T i = some u ∧ step T u = none ∧ d = .bool true
theorem sc__law_stopped : FnScope ["_law_machine", "_law_steps", "_law_most"] ["_law_machine", "_law_steps", "_law_most"] (defScope (top 94)) := ⟨rfl, rfl, rfl, by decide +kernel, rfl, by decide +kernel, by decide +kernel⟩
theorem h_law_stopped (T : Top K mg) : Has P w K mg base "_law_stopped" ["_law_machine", "_law_steps", "_law_most"] 6 (SpD K (RStopped K)) := by
  have H_after : Has P w K mg base "after" ["machine", "steps"] 4 (SpD K (RAfter K)) := h_after T
  have H__law_same : Has P w K mg base "_law_same" ["_law_found", "_law_due"] 5 (SpD K RSm) := h_same T
  refine mk_has T 39 rfl rfl (fun _ _ _ _ _ _ us hl => match us, hl with | [_, _, _], _ => rfl) fun fd F => ?_
  refine F.ok sc__law_stopped (fun vs H Q E h => len_of h fun as d H h => by obtain ⟨_, _, _, _, _, _, _, rfl, _⟩ := h; rfl) fun cdv A outer s H vs Q E hr h => ⟨_, PSs.nox (pss_cons (ps_if (PW.pt (pw_or (pt_not (pt_val (pe_callB call_isi (by rfl) (T.free 49) (by decide +kernel) (pa_cons (pv 1) (pa_cons (pe_bltn (v := .ty "int") (by rfl) (T.free 50) (by decide +kernel) rfl) pa_nil))))) (pw_or (pt_val (pe_callB call_isi (by rfl) (T.free 49) (by decide +kernel) (pa_cons (pv 1) (pa_cons (pe_bltn (v := .ty "bool") (by rfl) (T.free 51) (by decide +kernel) rfl) pa_nil)))) (pw_or1 (pt_not (pt_chain op_le op_le pe_int (pv 1) (pv 2))))))) (pss_one (ps_ret pe_bl)) pss_nil)
      (pss_one (ps_ret (pe_and (pe_callH H__law_same (hr.mono (by decide)) (pa_cons (pe_ix ix_tup (pe_callH H_after (hr.mono (by decide)) (pa_cons (pv 0) (pa_cons (pv 1) pa_nil))) pe_int (fun _ _ => rfl)) (pa_cons (pv 1) pa_nil))) (pe_one (pe_callH H__law_same (hr.mono (by decide)) (pa_cons (pe_ix ix_tup (pe_callH H_after (hr.mono (by decide)) (pa_cons (pv 0) (pa_cons (pe_op op_add (pv 1) pe_int) pa_nil))) pe_int (fun _ _ => rfl)) (pa_cons (pv 1) pa_nil)))))))), ?_⟩
  obtain ⟨as, d, ha, ⟨m, Tb, S, c, u, i, n, rfl, hm, hT, hin, hn, hu, hs, rfl⟩, k⟩ := h
  rw [vals_v3 ha]
  simp only [L2.start, List.map_cons, List.map_nil, List.length_cons, List.length_nil, Nat.reduceAdd, Nat.reduceSub, List.replicate_succ, List.replicate_zero, List.cons_append, List.nil_append]
  refine q_ifF (Evl.et_or (a := false) (b := false) (Evl.et_not (a := true) (Evl.et_B (d_isi (K := K) (dv rfl (.int (i : Nat))) kit_int_int))) fun _ => Evl.et_or (a := false) (b := false) (Evl.et_B (d_isi (K := K) (dv rfl (.int (i : Nat))) kit_int_bool)) fun _ => Evl.et_not (a := true) (Evl.et_test (ev_chain (b := true) (Evl.ev_is Evl.ev_c rfl) (Evl.ev_var rfl) (fun _ => Evl.ev_var rfl) (fun H1 _ Q q => ⟨0, (i : Nat), rfl, rfl, by show Q (V.bl (decide ((0 : Int) ≤ ((i : Nat) : Int)))) H1; rw [decide_eq_true (by omega)]; exact q H1 (Evl.Ex.refl _)⟩) (fun _ H1 _ Q q => ⟨(i : Nat), (n : Nat), rfl, rfl, by show Q (V.bl (decide (((i : Nat) : Int) ≤ ((n : Nat) : Int)))) H1; rw [decide_eq_true (by omega)]; exact q H1 (Evl.Ex.refl _)⟩) (fun z => nomatch z)))) fun H1 e1 => ?_
  have hm1 := hm.ex e1
  have g1 : (go Tb i first).2 = i := by rw [go_of_run Tb i first u hu]
  have g2 : (go Tb (i + 9) first).2 = i := by rw [go_stop (n := i + 9) hu hs (by omega)]
  refine sD_ret (Ev.bl (Evl.ev_andV (a := true) (b := true) (ev_sameI (i := (i : Nat)) (Evl.ev_is (ev_after1 (n := i) (Evl.ev_var rfl) (Evl.ev_var rfl) hm1 hT (by omega)) (by rw [g1])) (Evl.ev_var rfl)) fun _ => ev_sameI (i := (i : Nat)) (Evl.ev_is (ev_after1 (n := i + 9) (Evl.ev_var rfl) (ev_addN (j := 9) (Evl.ev_var rfl) Evl.ev_c) hm1 hT (by omega)) (by rw [g2])) (Evl.ev_var rfl))) fun v H2 e2 q => k v H2 (e1.trans e2) q
/-! ### _law_round -/
def RLRound (K : PySem.W.Frag) : List Ag → PyData → Hp → Prop := fun as d H => ∃ m T S c u, ∃ f l i : Nat, as = [.v (.ref m), .d (roundD "same" f l), .v (.int (i : Nat))] ∧ MachAt K H m T ∧ TblOk T S c ∧ f < l ∧ l ≤ 1000 ∧ i ≤ 1000 ∧ runs T f = some u ∧ runs T l = some u ∧ d = .bool true
theorem s_par {D : Ends} {tz : TS} {i j : Nat} {x y : V} (h1 : Evl.Ev ta σ H x) (h2 : Evl.Ev tb σ H y) (k : ∀ H1, Ex H H1 → tz D ((σ.set i (some x)).set j (some y)) H1) : tSeq (tPar i j (tCons ta (tCons tb tNil))) tz D σ H := h1 H (Evl.Ex.refl _) _ fun H1 e1 => h2 H1 e1 _ fun H2 e2 => ⟨x, y, rfl, k H2 (e1.trans e2)⟩
theorem ev_p1 {kd : Str} {f l : Nat} (h : EvD K te σ H (roundD kd f l)) : Evl.Ev (tOp (rIxT K) te (tC (.int 1))) σ H (.int (f : Nat)) := EvD.int (d_ixT (d := .int (f : Nat)) h Evl.ev_c rfl)
theorem ev_p2 {kd : Str} {f l : Nat} (h : EvD K te σ H (roundD kd f l)) : Evl.Ev (tOp (rIxT K) te (tC (.int 2))) σ H (.int (l : Nat)) := EvD.int (d_ixT (d := .int (l : Nat)) h Evl.ev_c rfl)
theorem sc__law_round : FnScope ["_law_machine", "_law_paper", "_law_steps", "_law_first", "_law_later", "_law_turn", "_law_one"] ["_law_machine", "_law_paper", "_law_steps"] (defScope (top 95)) := ⟨rfl, rfl, rfl, by decide +kernel, rfl, by decide +kernel, by decide +kernel⟩
theorem h_law_round (T : Top K mg) : Has P w K mg base "_law_round" ["_law_machine", "_law_paper", "_law_steps"] 6 (SpD K (RLRound K)) := by
  have H_after : Has P w K mg base "after" ["machine", "steps"] 4 (SpD K (RAfter K)) := h_after T
  have H__law_same : Has P w K mg base "_law_same" ["_law_found", "_law_due"] 5 (SpD K RSm) := h_same T
  refine mk_has T 40 rfl rfl (fun _ _ _ _ _ _ us hl => match us, hl with | [_, _, _], _ => rfl) fun fd F => ?_
  refine F.ok sc__law_round (fun vs H Q E h => len_of h fun as d H h => by obtain ⟨_, _, _, _, _, _, _, _, rfl, _⟩ := h; rfl) fun cdv A outer s H vs Q E hr h => ⟨_, PSs.nox (pss_cons (ps_par (i := 3) (j := 4) rfl sc__law_round.nd rfl rfl (by decide) rfl rfl (pa_cons (pe_ix ix_tup (pv 1) pe_int (fun _ _ => rfl)) (pa_cons (pe_ix ix_tup (pv 1) pe_int (fun _ _ => rfl)) pa_nil)) (by rfl))
      (pss_cons (ps_set (i := 5) sc__law_round.nd rfl (Or.inl rfl) (pe_op op_sub (pv 4) (pv 3)))
      (pss_cons (ps_set (i := 6) sc__law_round.nd rfl (Or.inl rfl) (pe_ix ix_tup (pe_callH H_after (hr.mono (by decide)) (pa_cons (pv 0) (pa_cons (pe_op op_add (pv 3) (pv 2)) pa_nil))) pe_int (fun _ _ => rfl)))
      (pss_one (ps_ret (pe_and (pe_callH H__law_same (hr.mono (by decide)) (pa_cons (pe_ix ix_tup (pe_callH H_after (hr.mono (by decide)) (pa_cons (pv 0) (pa_cons (pe_op op_add (pv 4) (pv 2)) pa_nil))) pe_int (fun _ _ => rfl)) (pa_cons (pv 6) pa_nil))) (pe_one (pe_cmpR op_eq (pe_ix ix_tup (pe_callH H_after (hr.mono (by decide)) (pa_cons (pv 0) (pa_cons (pe_op op_add (pv 4) (pv 5)) pa_nil))) pe_int (fun _ _ => rfl)) (pe_op op_add (pv 4) (pv 5)) (nomark _))))))))), ?_⟩
  obtain ⟨as, d, ha, ⟨m, Tb, S, c, u, f, l, i, rfl, hm, hT, hlt, hl, hi, hf, hl2, rfl⟩, k⟩ := h
  obtain ⟨x, y, z, rfl, rfl, h1, rfl⟩ := ags3 ha
  simp only [L2.start, List.map_cons, List.map_nil, List.length_cons, List.length_nil, Nat.reduceAdd, Nat.reduceSub, List.replicate_succ, List.replicate_zero, List.cons_append, List.nil_append]
  refine s_par (ev_p1 (dv (v := y) rfl h1)) (ev_p2 (dv (v := y) rfl h1)) fun H1 e1 => ?_
  simp only [List.set_cons_succ, List.set_cons_zero]
  refine Evl.q_asg (v := .int ((l - f : Nat) : Nat)) (Evl.ev_is (Evl.ev_op (Evl.ev_var rfl) (Evl.ev_var rfl) Evl.rv_I0) (by congr 1; omega)) fun H2 e2 => ?_
  simp only [List.set_cons_succ, List.set_cons_zero]
  obtain ⟨t, ht⟩ := same_never hf hl2 hlt (f + i)
  have ht2 : runs Tb (l + i) = some t := by rw [← same_shift hf hl2]; exact ht
  obtain ⟨t3, ht3⟩ := same_never hf hl2 hlt (l + (l - f))
  have g1 : (go Tb (f + i) first).1 = t := by rw [go_of_run Tb _ first t ht]
  have g2 : (go Tb (l + i) first).1 = t := by rw [go_of_run Tb _ first t ht2]
  have g3 : (go Tb (l + (l - f)) first).2 = l + (l - f) := by rw [go_of_run Tb _ first t3 ht3]
  have z1 := runs_len ht
  have e12 := e1.trans e2
  refine qD_asg (d := shD t) (d_is (d_after0 (n := f + i) (Evl.ev_var rfl) (ev_addN (Evl.ev_var rfl) (Evl.ev_var rfl)) (hm.ex e12) hT (by omega)) (by rw [g1])) fun v H3 e3 q3 => ?_
  simp only [List.set_cons_succ, List.set_cons_zero]
  have hm3 := hm.ex (e12.trans e3)
  refine sD_ret (Ev.bl (Evl.ev_andV (a := true) (b := true) (ev_sameS (d_is (d_after0 (n := l + i) (Evl.ev_var rfl) (ev_addN (Evl.ev_var rfl) (Evl.ev_var rfl)) hm3 hT (by omega)) (by rw [g2])) (dv (v := v) rfl q3) (by omega)) fun _ => Evl.ev_is (Evl.ev_op (ev_after1 (n := l + (l - f)) (Evl.ev_var rfl) (ev_addN (Evl.ev_var rfl) (Evl.ev_var rfl)) hm3 hT (by omega)) (ev_addN (Evl.ev_var rfl) (Evl.ev_var rfl)) (Evl.rv_eq rfl)) (by rw [g3, eq_yes rfl]))) fun v H4 e4 q => k v H4 ((e12.trans e3).trans e4) q
/-! ### _law_shifted -/
def RLShift (K : PySem.W.Frag) : List Ag → PyData → Hp → Prop := fun as d H => ∃ m T S c, ∃ f l i : Nat, as = [.v (.ref m), .d (roundD "shifted" f l), .v (.int (i : Nat))] ∧ MachAt K H m T ∧ TblOk T S c ∧ ShiftOk T f l ∧ l ≤ 1000 ∧ i ≤ 1000 ∧ d = .bool true
theorem sc__law_shifted : FnScope ["_law_machine", "_law_paper", "_law_steps", "_law_first", "_law_later", "_law_one", "_law_other", "_law_drift"] ["_law_machine", "_law_paper", "_law_steps"] (defScope (top 96)) := ⟨rfl, rfl, rfl, by decide +kernel, rfl, by decide +kernel, by decide +kernel⟩
theorem h_law_shifted (T : Top K mg) : Has P w K mg base "_law_shifted" ["_law_machine", "_law_paper", "_law_steps"] 5 (SpD K (RLShift K)) := by
  have H_after : Has P w K mg base "after" ["machine", "steps"] 4 (SpD K (RAfter K)) := h_after T
  refine mk_has T 41 rfl rfl (fun _ _ _ _ _ _ us hl => match us, hl with | [_, _, _], _ => rfl) fun fd F => ?_
  refine F.ok sc__law_shifted (fun vs H Q E h => len_of h fun as d H h => by obtain ⟨_, _, _, _, _, _, _, rfl, _⟩ := h; rfl) fun cdv A outer s H vs Q E hr h => ⟨_, PSs.nox (pss_cons (ps_par (i := 3) (j := 4) rfl sc__law_shifted.nd rfl rfl (by decide) rfl rfl (pa_cons (pe_ix ix_tup (pv 1) pe_int (fun _ _ => rfl)) (pa_cons (pe_ix ix_tup (pv 1) pe_int (fun _ _ => rfl)) pa_nil)) (by rfl))
      (pss_cons (ps_set (i := 5) sc__law_shifted.nd rfl (Or.inl rfl) (pe_ix ix_tup (pe_callH H_after (hr.mono (by decide)) (pa_cons (pv 0) (pa_cons (pe_op op_add (pv 3) (pv 2)) pa_nil))) pe_int (fun _ _ => rfl)))
      (pss_cons (ps_set (i := 6) sc__law_shifted.nd rfl (Or.inl rfl) (pe_ix ix_tup (pe_callH H_after (hr.mono (by decide)) (pa_cons (pv 0) (pa_cons (pe_op op_add (pv 4) (pv 2)) pa_nil))) pe_int (fun _ _ => rfl)))
      (pss_cons (ps_set (i := 7) sc__law_shifted.nd rfl (Or.inl rfl) (pe_op op_sub (pe_ix ix_tup (pe_ix ix_tup (pe_callH H_after (hr.mono (by decide)) (pa_cons (pv 0) (pa_cons (pv 4) pa_nil))) pe_int (fun _ _ => rfl)) pe_int (fun _ _ => rfl)) (pe_ix ix_tup (pe_ix ix_tup (pe_callH H_after (hr.mono (by decide)) (pa_cons (pv 0) (pa_cons (pv 3) pa_nil))) pe_int (fun _ _ => rfl)) pe_int (fun _ _ => rfl))))
      (pss_one (ps_ret (pe_and (pe_cmpR op_eq (pe_ix ix_tup (pv 5) pe_int (fun _ _ => rfl)) (pe_ix ix_tup (pv 6) pe_int (fun _ _ => rfl)) (nomark _)) (pe_and (pe_cmpR op_ne (pv 7) pe_int (nomark _)) (pe_one (pe_cmpR op_eq (pe_op op_sub (pe_ix ix_tup (pv 6) pe_int (fun _ _ => rfl)) (pe_ix ix_tup (pv 5) pe_int (fun _ _ => rfl))) (pv 7) (nomark _))))))))))), ?_⟩
  obtain ⟨as, d, ha, ⟨m, Tb, S, c, f, l, i, rfl, hm, hT, hS, hl, hi, rfl⟩, k⟩ := h
  obtain ⟨x, y, z, rfl, rfl, h1, rfl⟩ := ags3 ha
  simp only [L2.start, List.map_cons, List.map_nil, List.length_cons, List.length_nil, Nat.reduceAdd, Nat.reduceSub, List.replicate_succ, List.replicate_zero, List.cons_append, List.nil_append]
  have hlt := hS.lt
  obtain ⟨dr, hd0, hdr, hall⟩ := hS.all
  obtain ⟨a, b, _, _, hf, hl2, _⟩ := hS.ex
  obtain ⟨s1, s2, r1, r2, hst, hpl⟩ := hall i
  have g1 : (go Tb (f + i) first).1 = s1 := by rw [go_of_run Tb _ first s1 r1]
  have g2 : (go Tb (l + i) first).1 = s2 := by rw [go_of_run Tb _ first s2 r2]
  have g3 : (go Tb f first).1 = a := by rw [go_of_run Tb _ first a hf]
  have g4 : (go Tb l first).1 = b := by rw [go_of_run Tb _ first b hl2]
  rw [place_of hf, place_of hl2] at hdr
  refine s_par (ev_p1 (dv (v := y) rfl h1)) (ev_p2 (dv (v := y) rfl h1)) fun H1 e1 => ?_
  simp only [List.set_cons_succ, List.set_cons_zero]
  refine qD_asg (d := shD s1) (d_is (d_after0 (n := f + i) (Evl.ev_var rfl) (ev_addN (Evl.ev_var rfl) (Evl.ev_var rfl)) (hm.ex e1) hT (by omega)) (by rw [g1])) fun v3 H3 e3 q3 => ?_
  simp only [List.set_cons_succ, List.set_cons_zero]
  have e13 := e1.trans e3
  refine qD_asg (d := shD s2) (d_is (d_after0 (n := l + i) (Evl.ev_var rfl) (ev_addN (Evl.ev_var rfl) (Evl.ev_var rfl)) (hm.ex e13) hT (by omega)) (by rw [g2])) fun v4 H4 e4 q4 => ?_
  simp only [List.set_cons_succ, List.set_cons_zero]
  have e14 := e13.trans e4
  have hm4 := hm.ex e14
  refine Evl.q_asg (v := .int dr) (Evl.ev_is (Evl.ev_op (sh_pl (d_is (d_after0 (n := l) (Evl.ev_var rfl) (Evl.ev_var rfl) hm4 hT (by omega)) (congrArg shD g4)) Evl.ev_c) (sh_pl (d_is (d_after0 (n := f) (Evl.ev_var rfl) (Evl.ev_var rfl) hm4 hT (by omega)) (congrArg shD g3)) Evl.ev_c) Evl.rv_I0) (by rw [hdr])) fun H5 e5 => ?_
  simp only [List.set_cons_succ, List.set_cons_zero]
  have q3' := exd (e4.trans e5) q3
  have q4' := exd e5 q4
  refine sD_ret (Ev.bl (Evl.ev_is (Evl.ev_andV (Evl.ev_op (sh_st (dv (v := v3) rfl q3') Evl.ev_c) (sh_st (dv (v := v4) rfl q4') Evl.ev_c) (Evl.rv_eq rfl)) fun _ => Evl.ev_andV (Evl.ev_op (Evl.ev_var rfl) Evl.ev_c (Evl.rv_ne rfl)) fun _ => Evl.ev_op (Evl.ev_op (sh_pl (dv (v := v4) rfl q4') Evl.ev_c) (sh_pl (dv (v := v3) rfl q3') Evl.ev_c) Evl.rv_I0) (Evl.ev_var rfl) (Evl.rv_eq rfl)) ?_)) fun v H6 e6 q => k v H6 ((e14.trans e5).trans e6) q
  rw [eq_yes (by rw [hst]), eq_no hd0, eq_yes (by rw [hpl]; omega)]
  rfl
/-! ### _law_fenced -/
def RFenced (K : PySem.W.Frag) : List Ag → PyData → Hp → Prop := fun as d H => ∃ m T S c n L R C, ∃ i : Nat, as = [.v (.ref m), .d (wallD n L R C), .v (.int (i : Nat))] ∧ MachAt K H m T ∧ TblOk T S c ∧ WallOk T S c n L R C ∧ n ≤ 1000 ∧ i ≤ 1000 ∧ d = .bool true
theorem any_ctx {C : List Cxt} {x : Cxt} (h : x ∈ C) : ((C.map ctxD).any fun z => PyData.eqv z (ctxD x)) = true := by
  rw [List.any_eq_true]
  exact ⟨ctxD x, List.mem_map.mpr ⟨x, h, rfl⟩, by rw [eqv_ctx, decide_eq_true rfl]⟩
theorem sc__law_fenced : FnScope ["_law_machine", "_law_paper", "_law_steps", "_law_contexts", "_law_shot"] ["_law_machine", "_law_paper", "_law_steps"] (defScope (top 97)) := ⟨rfl, rfl, rfl, by decide +kernel, rfl, by decide +kernel, by decide +kernel⟩
theorem h_law_fenced (T : Top K mg) : Has P w K mg base "_law_fenced" ["_law_machine", "_law_paper", "_law_steps"] 4 (SpD K (RFenced K)) := by
  have H_trail : Has P w K mg base "trail" ["machine", "steps"] 3 (SpD K (RTrail K)) := h_trail T
  have H__law_context : Has P w K mg base "_law_context" ["_law_shot", "_law_width"] 2 (SpD K RCtxOf) := h_law_context T
  refine mk_has T 42 rfl rfl (fun _ _ _ _ _ _ us hl => match us, hl with | [_, _, _], _ => rfl) fun fd F => ?_
  refine F.ok sc__law_fenced (fun vs H Q E h => len_of h fun as d H h => by obtain ⟨_, _, _, _, _, _, _, _, _, rfl, _⟩ := h; rfl) fun cdv A outer s H vs Q E hr h => ⟨_, PSs.nox (pss_cons (ps_set (i := 3) sc__law_fenced.nd rfl (Or.inl rfl) (pe_callTy call_list_of (by rfl) (T.free 53) (by decide +kernel) (pa_cons (pe_ix ix_tup (pv 1) pe_int (fun _ _ => rfl)) pa_nil)))
      (pss_cons (ps_for PassesOwn.never rfl (pi_list (pe_callH H_trail (hr.mono (by decide)) (pa_cons (pv 0) (pa_cons (pv 2) pa_nil)))) (pg_name (i := 4) sc__law_fenced.nd rfl (Or.inl rfl)) (pss_one (ps_if (pt_cmpR (op_notInD (hu65 hr)) (pe_callH H__law_context (hr.mono (by decide)) (pa_cons (pv 4) (pa_cons (pe_ix ix_tup (pv 1) pe_int (fun _ _ => rfl)) pa_nil))) (pv 3) rfl) (pss_one (ps_ret pe_bl)) pss_nil)))
      (pss_one (ps_ret pe_bl)))), ?_⟩
  obtain ⟨as, d, ha, ⟨m, Tb, S, c, n, L, R, C, i, rfl, hm, hT, hW, hn, hi, rfl⟩, k⟩ := h
  obtain ⟨x, y, z, rfl, rfl, h1, rfl⟩ := ags3 ha
  simp only [L2.start, List.map_cons, List.map_nil, List.length_cons, List.length_nil, Nat.reduceAdd, Nat.reduceSub, List.replicate_succ, List.replicate_zero, List.cons_append, List.nil_append]
  refine qD_asg (d := .list (C.map ctxD)) (d_listOf (d_ixT (dv (v := y) rfl h1) Evl.ev_c rfl)) fun vc H1 e1 q1 => ?_
  simp only [List.set_cons_succ, List.set_cons_zero]
  refine qD_forL (d_trail (n := i) (as_v (Evl.ev_var rfl) (as_v (Evl.ev_var rfl) as_nil)) (hm.ex e1) hT (by omega)) (fun v j σ' H' => ∃ u, σ' = [some (.ref m), some y, some (.int (i : Nat)), some vc, u] ∧ Ex H H' ∧ Dp K H' v (.list ((tr Tb i first).map shD)) ∧ Dp K H' vc (.list (C.map ctxD))) (fun v H2 e2 q => ⟨none, rfl, e1.trans e2, q, exd e2 q1⟩) (fun v j σ' H' _ h => by obtain ⟨_, _, _, h, _⟩ := h; exact h) ?_ ?_
  · rintro v j z dd σ' H' hj hz ⟨u, rfl, e2, qv, qc⟩
    rw [List.getElem?_map] at hj
    obtain ⟨sh, hj2, rfl⟩ := Option.map_eq_some_iff.mp hj
    have hr := tr_runs hj2
    obtain ⟨sh', hs', hF⟩ := fence_all hW j
    rw [hr] at hs'
    cases hs'
    refine Evl.s_when (b := false) (Evl.et_is (Evl.et_test (d_notIn (d := ctxD (ctx sh n)) (ds := C.map ctxD) (d_call (as_d (dv (v := z) rfl hz) (as_v (EvD.int (d_ixT (d := .int (n : Nat)) (dv (v := y) rfl (exd e2 h1)) Evl.ev_c rfl)) as_nil)) fun H3 e3 => ⟨sh, n, rfl, hn, rfl⟩) (dv (v := vc) rfl qc) (ctx_shaped _) (ctxs_shaped _))) (by rw [any_ctx hF.c]; rfl)) (fun z => nomatch z) fun _ H3 e3 => ⟨_, rfl, e2.trans e3, exd e3 qv, exd e3 qc⟩
  · rintro v σ' H' ⟨u, rfl, e2, qv, qc⟩
    exact sD_ret (Ev.bl Evl.ev_c) fun v H2 e3 q => k v H2 (e2.trans e3) q
/-! ### _law_never -/
def RNever (K : PySem.W.Frag) : List Ag → PyData → Hp → Prop := fun as d H => ∃ m T S c p, ∃ i : Nat, as = [.v (.ref m), .d p, .v (.int (i : Nat))] ∧ MachAt K H m T ∧ TblOk T S c ∧ PaperOk T S c p ∧ i ≤ 1000 ∧ d = .bool true
theorem paper_never {T : Tbl} {S c : Nat} {p : PyData} (h : PaperOk T S c p) (i : Nat) : (go T i first).2 = i := by
  have : ∃ t, runs T i = some t := by
    rcases h with ⟨f, l, s, _, h1, _, h2, h3⟩ | ⟨f, l, _, h1, _⟩ | ⟨n, L, R, C, _, h1, _⟩
    · exact same_never h2 h3 h1 i
    · exact h1.never i
    · obtain ⟨s, hs, _⟩ := fence_all h1 i
      exact ⟨s, hs⟩
  obtain ⟨t, ht⟩ := this
  rw [go_of_run T i first t ht]
theorem ev_str0 {ds : List PyData} {a b : Str} (h : EvD K te σ H (.tuple (.str a :: ds))) : Evl.Ev (tOp rEq (tOp (rIxT K) te (tC (.int 0))) (tC (.str b))) σ H (.bl (decide (V.str a = V.str b))) :=
  Evl.ev_op (EvD.str (d_ixT (d := .str a) h Evl.ev_c (atI_nat (j := 0) rfl))) Evl.ev_c (Evl.rv_eq rfl)
theorem sc__law_never : FnScope ["_law_machine", "_law_paper", "_law_steps"] ["_law_machine", "_law_paper", "_law_steps"] (defScope (top 98)) := ⟨rfl, rfl, rfl, by decide +kernel, rfl, by decide +kernel, by decide +kernel⟩
theorem h_law_never (T : Top K mg) : Has P w K mg base "_law_never" ["_law_machine", "_law_paper", "_law_steps"] 7 (SpD K (RNever K)) := by
  have H_takes : Has P w K mg base "takes" ["machine", "paper"] 6 (SpD K (RTakes K)) := h_takes T
  have H_after : Has P w K mg base "after" ["machine", "steps"] 4 (SpD K (RAfter K)) := h_after T
  have H__law_round : Has P w K mg base "_law_round" ["_law_machine", "_law_paper", "_law_steps"] 6 (SpD K (RLRound K)) := h_law_round T
  have H__law_shifted : Has P w K mg base "_law_shifted" ["_law_machine", "_law_paper", "_law_steps"] 5 (SpD K (RLShift K)) := h_law_shifted T
  have H__law_fenced : Has P w K mg base "_law_fenced" ["_law_machine", "_law_paper", "_law_steps"] 4 (SpD K (RFenced K)) := h_law_fenced T
  refine mk_has T 43 rfl rfl (fun _ _ _ _ _ _ us hl => match us, hl with | [_, _, _], _ => rfl) fun fd F => ?_
  refine F.ok sc__law_never (fun vs H Q E h => len_of h fun as d H h => by obtain ⟨_, _, _, _, _, _, rfl, _⟩ := h; rfl) fun cdv A outer s H vs Q E hr h => ⟨_, PSs.nox (pss_cons (ps_if (PW.pt (pw_or (pt_cmpR op_isnotB (pe_callH H_takes (hr.mono (by decide)) (pa_cons (pv 0) (pa_cons (pv 1) pa_nil))) pe_bl (nomark _)) (pw_or1 (pt_cmpR op_ne (pe_ix ix_tup (pe_callH H_after (hr.mono (by decide)) (pa_cons (pv 0) (pa_cons (pv 2) pa_nil))) pe_int (fun _ _ => rfl)) (pv 2) (nomark _))))) (pss_one (ps_ret pe_bl)) pss_nil)
      (pss_cons (ps_if (pt_cmpR op_eq (pe_ix ix_tup (pv 1) pe_int (fun _ _ => rfl)) pe_str (nomark _)) (pss_one (ps_ret (pe_callH H__law_round (hr.mono (by decide)) (pa_cons (pv 0) (pa_cons (pv 1) (pa_cons (pv 2) pa_nil)))))) pss_nil)
      (pss_cons (ps_if (pt_cmpR op_eq (pe_ix ix_tup (pv 1) pe_int (fun _ _ => rfl)) pe_str (nomark _)) (pss_one (ps_ret (pe_callH H__law_shifted (hr.mono (by decide)) (pa_cons (pv 0) (pa_cons (pv 1) (pa_cons (pv 2) pa_nil)))))) pss_nil)
      (pss_one (ps_ret (pe_and (pe_cmpR op_eq (pe_ix ix_tup (pv 1) pe_int (fun _ _ => rfl)) pe_str (nomark _)) (pe_one (pe_callH H__law_fenced (hr.mono (by decide)) (pa_cons (pv 0) (pa_cons (pv 1) (pa_cons (pe_callB (call_min2 rfl) (by rfl) (T.free 64) (by decide +kernel) (pa_cons (pv 2) (pa_cons pe_int pa_nil))) pa_nil))))))))))), ?_⟩
  obtain ⟨as, d, ha, ⟨m, Tb, S, c, p, i, rfl, hm, hT, hp, hi, rfl⟩, k⟩ := h
  obtain ⟨x, y, z, rfl, rfl, h1, rfl⟩ := ags3 ha
  simp only [L2.start, List.map_cons, List.map_nil, List.length_cons, List.length_nil, Nat.reduceAdd, Nat.reduceSub, List.replicate_succ, List.replicate_zero, List.cons_append, List.nil_append]
  have gi := paper_never hp i
  refine q_ifF (Evl.et_or (a := false) (b := false) (Evl.et_test (Evl.ev_op (x := .bl true) (y := .bl true) (EvD.bl (d_call (as_v (Evl.ev_var rfl) (as_d (dv (v := y) rfl h1) as_nil)) fun H1 e1 => ⟨m, Tb, S, c, p, rfl, hm.ex e1, hT, hp, rfl⟩)) Evl.ev_c (fun H1 _ Q q => ⟨true, rfl, rfl, q H1 (Evl.Ex.refl _)⟩))) fun _ => Evl.et_is (Evl.et_test (Evl.ev_op (ev_after1 (n := i) (Evl.ev_var rfl) (Evl.ev_var rfl) hm hT (by omega)) (Evl.ev_var rfl) (Evl.rv_ne rfl))) (by rw [gi, eq_yes rfl]; rfl)) fun H1 e1 => ?_
  have h1' := exd e1 h1
  have hm1 := hm.ex e1
  rcases hp with ⟨f, l, u, rfl, g1, g2, g3, g4⟩ | ⟨f, l, rfl, g1, g2⟩ | ⟨n, L, R, C, rfl, g1, g2, g3, g4, g5⟩
  · refine Evl.q_when (b := true) (Evl.et_is (str_t (dv (v := y) rfl h1')) (by decide +kernel)) (fun _ H2 e2 => ?_) (fun z => nomatch z)
    exact sD_ret (d_call (as_v (Evl.ev_var rfl) (as_d (dv (v := y) rfl (exd e2 h1')) (as_v (Evl.ev_var rfl) as_nil))) fun H3 e3 => ⟨m, Tb, S, c, u, f, l, i, rfl, (hm1.ex e2).ex e3, hT, g1, g2, hi, g3, g4, rfl⟩) fun v H3 e3 q => k v H3 ((e1.trans e2).trans e3) q
  · refine q_ifF (Evl.et_is (str_t (dv (v := y) rfl h1')) (by decide +kernel)) fun H2 e2 => ?_
    refine Evl.q_when (b := true) (Evl.et_is (str_t (dv (v := y) rfl (exd e2 h1'))) (by decide +kernel)) (fun _ H3 e3 => ?_) (fun z => nomatch z)
    have e23 := e2.trans e3
    exact sD_ret (d_call (as_v (Evl.ev_var rfl) (as_d (dv (v := y) rfl (exd e23 h1')) (as_v (Evl.ev_var rfl) as_nil))) fun H4 e4 => ⟨m, Tb, S, c, f, l, i, rfl, (hm1.ex e23).ex e4, hT, g1, g2, hi, rfl⟩) fun v H4 e4 q => k v H4 ((e1.trans e23).trans e4) q
  · refine q_ifF (Evl.et_is (str_t (dv (v := y) rfl h1')) (by decide +kernel)) fun H2 e2 => ?_
    refine q_ifF (Evl.et_is (str_t (dv (v := y) rfl (exd e2 h1'))) (by decide +kernel)) fun H3 e3 => ?_
    have e23 := e2.trans e3
    have mn : (if (50 : Int) < ((i : Nat) : Int) then (50 : Int) else ((i : Nat) : Int)) = ((min i 50 : Nat) : Nat) := by
      split <;> omega
    refine sD_ret (Ev.bl (Evl.ev_andV (a := true) (b := true) (Evl.ev_is (ev_str0 (dv (v := y) rfl (exd e23 h1'))) (by decide +kernel)) fun _ => EvD.bl (d_call (as_v (Evl.ev_var rfl) (as_d (dv (v := y) rfl (exd e23 h1')) (as_v (Evl.ev_is (ev_min2' (Evl.ev_var rfl) Evl.ev_c) (congrArg V.int mn)) as_nil))) fun H4 e4 => ⟨m, Tb, S, c, n, L, R, C, min i 50, rfl, (hm1.ex e23).ex e4, hT, g1, g2, by omega, rfl⟩))) fun v H4 e4 q => k v H4 ((e1.trans e23).trans e4) q
end
end WK
end
section
set_option Elab.async false
set_option linter.all false
set_option maxRecDepth 100000
set_option maxHeartbeats 4000000
/-! Walks: the law's tables, a case, the law. -/
namespace WK
open PySem PySem.Spec PyProof.Rows L2 HD DT2 TX TP ND EN LC RZ
section
variable {P : Program} {w : World} {K : PySem.W.Frag} {mg : Str → Option Value} {base : Heap}
section
variable {H : Hp} {σ : L2.St} {E : XK} {D : Ends} {tr : TA} {ta tb tc te : TE} {tz : TS}
theorem ev_fd {a k : Nat} (h : Evl.Ev ta σ H (.int (a : Nat))) (hb : Evl.Ev tb σ H (.int (k : Nat))) (h1 : 0 < k) (h2 : k < 1073741824) : Evl.Ev (tOp (rI CDivN fun i j => .int (i.fdiv j)) ta tb) σ H (.int ((a / k : Nat) : Nat)) :=
  Evl.ev_is (Evl.ev_op h hb (Evl.rv_I ⟨by omega, by omega⟩)) (congrArg V.int (by rw [Int.fdiv_eq_ediv_of_nonneg _ (by omega)]; exact (Int.natCast_ediv a k).symm))
theorem ev_fm {a k : Nat} (h : Evl.Ev ta σ H (.int (a : Nat))) (hb : Evl.Ev tb σ H (.int (k : Nat))) (h1 : 0 < k) : Evl.Ev (tOp (rI (fun _ j => j ≠ 0) fun i j => .int (i.fmod j)) ta tb) σ H (.int ((a % k : Nat) : Nat)) :=
  Evl.ev_is (Evl.ev_op h hb (Evl.rv_I (by omega))) (congrArg V.int (by rw [Int.fmod_eq_emod_of_nonneg _ (by omega)]; exact (Int.natCast_emod a k).symm))
theorem ev_lr {b : Nat} (hb : b < 2) (h : Evl.Ev te σ H (.int (b : Nat))) : Evl.Ev (tOp rIxS (tC (.str "lr")) te) σ H (.str (wayS (decide (b = 1)))) := by
  match b, hb, h with
  | 0, _, h => exact Evl.ev_is (Evl.ev_op Evl.ev_c h (Evl.rv_ixS (c := 108) (by decide +kernel) (by decide +kernel))) (by decide +kernel)
  | 1, _, h => exact Evl.ev_is (Evl.ev_op Evl.ev_c h (Evl.rv_ixS (c := 114) (by decide +kernel) (by decide +kernel))) (by decide +kernel)
theorem q_next {p a : Addr} {ns : List Int} {j i : Nat} (h : Evl.EvA tr σ H [.ref p, .ref a]) (hp : SqL K H p (ns.map V.int)) (hn : ns.length ≤ 63) (ha : AtN H a j) (hne : p ≠ a ∨ KerL K p (ns.map V.int)) (hj : j ≤ 100000) (k : ∀ H' (n : Nat), Mut1 H H' a → AtN H' a (j + 1) → tz D (σ.set i (some (.int (n : Nat)))) H') :
    tSeq (tAsg (tCall (spNext K) [] E tr) (gName i)) tz D σ H := h H (Evl.Ex.refl _) _ fun H1 e1 => ⟨p, a, ns, j, rfl, Evl.ex_l e1 hp, hn, e1 _ _ ha, hne, hj, fun H' n m a' => k H' n ((Mut1.of_ex e1).trans m) a'⟩
end
/-- lists change: tuples stay -/
theorem Mut1.keepT {H H' : Hp} {a : Addr} {j : Nat} (m : Mut1 H H' a) (h : AtN H a j) : KeepT H H' := fun b xs r => by
  have hb : b ≠ a := by
    rintro rfl
    rcases r with r | ⟨q, r⟩ <;> (rw [show H b = some (.lst [.int (j : Nat)]) from h] at r; cases r)
  rcases r with r | ⟨q, r⟩
  · exact .inl (m _ _ r hb)
  · exact .inr ⟨q, m _ _ r hb⟩
/-! ### _law_table -/
def spTable (K : PySem.W.Frag) : Sp := fun vs H Q _ => ∃ (p a : Addr) (ns : List Int) (j S c : Nat), vs = [.ref p, .ref a, .int (S : Nat), .int (c : Nat)] ∧ SqL K H p (ns.map V.int) ∧ ns.length ≤ 63 ∧ AtN H a j ∧ (p ≠ a ∨ KerL K p (ns.map V.int)) ∧ j ≤ 50000 ∧ 1 ≤ S ∧ S ≤ 4 ∧ 1 ≤ c ∧ c ≤ 3 ∧
  ∀ H' tv rs j', Mut1 H H' a → AtN H' a j' → j' ≤ j + 12 → Dp K H' tv (tblL rs) → TblOk rs S c → Q tv H'
theorem sc__law_table : FnScope ["_law_script", "_law_at", "_law_states", "_law_signs", "_law_table_here", "_law_k", "_law_line", "_law_j", "_law_m", "_law_entry"] ["_law_script", "_law_at", "_law_states", "_law_signs"] (defScope (top 91)) := ⟨rfl, rfl, rfl, by decide +kernel, rfl, by decide +kernel, by decide +kernel⟩
theorem h_law_table (T : Top K mg) : Has P w K mg base "_law_table" ["_law_script", "_law_at", "_law_states", "_law_signs"] 2 (spTable K) := by
  have H__law_next : Has P w K mg base "_law_next" ["_law_script", "_law_at"] 1 (spNext K) := h_law_next T
  refine mk_has T 36 rfl rfl (fun _ _ _ _ _ _ us hl => match us, hl with | [_, _, _, _], _ => rfl) fun fd F => ?_
  refine F.ok sc__law_table (fun vs H Q E h => by obtain ⟨_, _, _, _, _, _, rfl, _⟩ := h; rfl) fun cdv A outer s H vs Q E hr h => ⟨_, PSs.nox (pss_cons (ps_set (i := 4) sc__law_table.nd rfl (Or.inl rfl) (pe_lst pa_nil))
      (pss_cons (ps_for PassesOwn.never rfl (pi_range1 (by rfl) (T.free 59) (pa_cons (pv 2) pa_nil)) (pg_name (i := 5) sc__law_table.nd rfl (Or.inl rfl)) (pss_cons (ps_set (i := 6) sc__law_table.nd rfl (Or.inl rfl) (pe_lst pa_nil))
      (pss_cons (ps_for PassesOwn.never rfl (pi_range1 (by rfl) (T.free 59) (pa_cons (pv 3) pa_nil)) (pg_name (i := 7) sc__law_table.nd rfl (Or.inl rfl)) (pss_cons (ps_set (i := 8) sc__law_table.nd rfl (Or.inl rfl) (pe_callH H__law_next (hr.mono (by decide)) (pa_cons (pv 0) (pa_cons (pv 1) pa_nil))))
      (pss_cons (ps_set (i := 9) sc__law_table.nd rfl (Or.inl rfl) (pe_tup (pa_cons (pe_op op_modN (pe_op op_fdivN (pv 8) pe_int) (pv 3)) (pa_cons (pe_ix ix_str pe_str (pe_op op_modN (pe_op op_fdivN (pv 8) pe_int) pe_int) (fun _ _ => rfl)) (pa_cons (pe_op op_modN (pe_op op_fdivN (pv 8) pe_int) (pv 2)) pa_nil)))))
      (pss_cons (ps_if (pt_cmpR op_eq (pe_op op_modN (pv 8) pe_int) pe_int (nomark _)) (pss_one (ps_set (i := 9) sc__law_table.nd rfl (Or.inl rfl) pe_non)) pss_nil)
      (pss_one (ps_expr (pe_bm PySem.F.plainAttrs_list PySem.F.slot_list_append PySem.F.type_list_append mt_append (pv 6) (pa_cons (pv 9) pa_nil))))))))
      (pss_one (ps_expr (pe_bm PySem.F.plainAttrs_list PySem.F.slot_list_append PySem.F.type_list_append mt_append (pv 4) (pa_cons (pv 6) pa_nil)))))))
      (pss_one (ps_ret (pv 4))))), ?_⟩
  obtain ⟨p, a, ns, j, S, c, rfl, hp, hn, ha, hne, hj, S1, S4, c1, c3, k⟩ := h
  simp only [L2.start, List.map_cons, List.map_nil, List.length_cons, List.length_nil, Nat.reduceAdd, Nat.reduceSub, List.replicate_succ, List.replicate_zero, List.cons_append, List.nil_append]
  refine qD_drop Evl.ea_nil fun l H1 hl e1 h1 => ?_
  simp only [List.set_cons_succ, List.set_cons_zero]
  have nla : l ≠ a := fun e => by rw [e, show H a = _ from ha] at hl; cases hl
  refine Evl.q_forR1 (n := (S : Nat)) (Evl.ea_cons (Evl.ev_var rfl) Evl.ea_nil) (by omega)
    (fun i σ' H' => ∃ rs ws D j' u5 u6 u7 u8 u9, σ' = [some (.ref p), some (.ref a), some (.int (S : Nat)), some (.int (c : Nat)), some (.ref l), u5, u6, u7, u8, u9] ∧ i ≤ S ∧ Mut1 H H' a ∧ AtN H' a j' ∧ j' ≤ j + 3 * i ∧ H' l = some (.lst ws) ∧ Ex D H' ∧ D l = none ∧ D a = none ∧ DpAll K D ws (rs.map rowL) ∧ rs.length = i ∧ ∀ r ∈ rs, r.length = c ∧ ∀ o ∈ r, EntOk S c o)
    (fun H2 e2 => ⟨[], [], fun _ => none, j, none, none, none, none, none, rfl, by omega, .of_ex (e1.trans e2), e2 _ _ (e1 _ _ ha), by omega, e2 _ _ h1, (fun b o h => by cases h), rfl, rfl, .nil, rfl, fun r hr => nomatch hr⟩) ?_ ?_
  · rintro i σ' H2 hi ⟨rs, ws, Dh, j2, u5, u6, u7, u8, u9, rfl, hi2, m2, a2, hj2, w2, exD, Dl, Da, hrows, hrl, hro⟩
    have hi3 : i < S := by omega
    refine qD_drop Evl.ea_nil fun q H3 hq e3 h3 => ?_
    simp only [List.set_cons_succ, List.set_cons_zero]
    have nql : q ≠ l := fun e => by rw [e, w2] at hq; cases hq
    have nqa : q ≠ a := fun e => by rw [e, show H2 a = _ from a2] at hq; cases hq
    have Dq : Dh q = none := Evl.fresh_back exD hq
    have Hq : ∀ b o, H b = some o → b ≠ a → b ≠ q := fun b o hb hba e => by
      have := m2 b o hb hba
      rw [e, hq] at this; cases this
    refine Evl.q_forR1 (n := (c : Nat)) (Evl.ea_cons (Evl.ev_var rfl) Evl.ea_nil) (by omega)
      (fun jj σ' H' => ∃ r us j' u7 u8 u9, σ' = [some (.ref p), some (.ref a), some (.int (S : Nat)), some (.int (c : Nat)), some (.ref l), some (.int (i : Nat)), some (.ref q), u7, u8, u9] ∧ jj ≤ c ∧ Mut1 H H' a ∧ AtN H' a j' ∧ j' ≤ j + 3 * i + jj ∧ H' l = some (.lst ws) ∧ Ex Dh H' ∧ H' q = some (.lst us) ∧ DpAll K H' us (r.map entD) ∧ r.length = jj ∧ ∀ o ∈ r, EntOk S c o)
      (fun H4 e4 => ⟨[], [], j2, u7, u8, u9, rfl, by omega, m2.trans (.of_ex (e3.trans e4)), e4 _ _ (e3 _ _ a2), by omega, e4 _ _ (e3 _ _ w2), exD.trans (e3.trans e4), e4 _ _ h3, .nil, rfl, fun o ho => nomatch ho⟩) ?_ ?_
    · rintro jj σ' H4 hjj ⟨r, us, j4, u7, u8, u9, rfl, hjj2, m4, a4, hj4, w4, ex4, q4, hus, hrl2, hro2⟩
      have hjj3 : jj < c := by omega
      simp only [List.set_cons_succ, List.set_cons_zero]
      refine q_next (Evl.ea_cons (Evl.ev_var rfl) (Evl.ea_cons (Evl.ev_var rfl) Evl.ea_nil)) (m4.seq hp hne) hn a4 hne (by omega) fun H5 m m5 a5 => ?_
      simp only [List.set_cons_succ, List.set_cons_zero]
      have e5 : Ex Dh H5 := m5.ex ex4 Da
      have w5 := m5 _ _ w4 nla
      have q5 := m5 _ _ q4 nqa
      have us5 := dpTs (m5.keepT a4) _ _ (noLs_map noL_ent r) hus
      have m05 := m4.trans m5
      refine qD_asg (K := K) (d := entD (some ⟨m / 9 % c, decide (m / 100 % 2 = 1), m / 300 % S⟩)) (d_tup (ds := [.int ((m / 9 % c : Nat) : Nat), .str (wayS (decide (m / 100 % 2 = 1))), .int ((m / 300 % S : Nat) : Nat)]) (as_d (Ev.int (ev_fm (ev_fd (k := 9) (Evl.ev_var rfl) Evl.ev_c (by decide) (by decide)) (Evl.ev_var rfl) (by omega))) (as_d (Ev.str (ev_lr (Nat.mod_lt _ (by decide)) (ev_fm (k := 2) (ev_fd (k := 100) (Evl.ev_var rfl) Evl.ev_c (by decide) (by decide)) Evl.ev_c (by decide)))) (as_d (Ev.int (ev_fm (ev_fd (k := 300) (Evl.ev_var rfl) Evl.ev_c (by decide) (by decide)) (Evl.ev_var rfl) (by omega))) as_nil)))) fun v H6 e6 q6 => ?_
      simp only [List.set_cons_succ, List.set_cons_zero]
      refine q_ifK (fun σ' H' => ∃ o v, σ' = [some (.ref p), some (.ref a), some (.int (S : Nat)), some (.int (c : Nat)), some (.ref l), some (.int (i : Nat)), some (.ref q), some (.int (jj : Nat)), some (.int (m : Nat)), some v] ∧ Ex H5 H' ∧ Dp K H' v (entD o) ∧ EntOk S c o) (Evl.et_test (Evl.ev_op (ev_fm (k := 9) (Evl.ev_var rfl) Evl.ev_c (by decide)) Evl.ev_c (Evl.rv_eq rfl))) ?_ (fun hb H7 e7 kk => ?_) (fun hb H7 e7 kk => kk _ _ ⟨_, v, rfl, e6.trans e7, exd e7 q6, fun x hx => by cases hx; exact ⟨Nat.mod_lt _ (by omega), Nat.mod_lt _ (by omega)⟩⟩)
      · rintro σ' H7 ⟨o, v, rfl, e7, q7, ok⟩
        have hz := us5.length
        rw [List.length_map] at hz
        refine sD_app (e7 _ _ q5) (Evl.ev_var rfl) (dv (v := v) rfl q7) (by omega) fun v' H8 e8 q8 p8 => ?_
        have e78 := e7.trans e8
        refine ⟨r ++ [o], us ++ [v'], j4 + 1, _, _, _, rfl, hjj3, ?_, ?_, by omega, ?_, Evl.Ex.mut (e5.trans e78) Dq, upd_same, ?_, by rw [List.length_append, hrl2]; rfl, fun o' ho => ?_⟩
        · intro b ob hb hba
          rw [upd_ne (Hq b ob hb hba)]
          exact e78 _ _ (m05 b ob hb hba)
        · show upd H8 q _ a = _
          rw [upd_ne (Ne.symm nqa)]; exact e78 _ _ a5
        · rw [upd_ne (Ne.symm nql)]; exact e78 _ _ w5
        · rw [List.map_append]
          refine dpTs (KeepT.lst p8) _ _ ?_ ((exa e78 us5).snoc q8)
          have := noLs_map noL_ent (r ++ [o])
          rw [List.map_append] at this
          exact this
        · rcases List.mem_append.mp ho with ho | ho
          · exact hro2 o' ho
          · rw [List.mem_singleton.mp ho]; exact ok
      · exact Evl.s_asg (v := .non) Evl.ev_c fun H8 e8 => kk _ _ ⟨none, .non, rfl, (e6.trans e7).trans e8, .non, fun x hx => by cases hx⟩
    · rintro σ' H4 ⟨r, us, j4, u7, u8, u9, rfl, hjj2, m4, a4, hj4, w4, ex4, q4, hus, hrl2, hro2⟩
      have hz := hrows.length
      rw [List.length_map] at hz
      refine Evl.s_app w4 (Evl.ev_var rfl) (Evl.ev_var (v := .ref q) rfl) (by omega) fun H5 e5 => ?_
      have w5 := e5 _ _ w4
      have a5 : AtN H5 a j4 := e5 _ _ a4
      have q5 := e5 _ _ q4
      have al : del H5 l a = some (.lst [.int (j4 : Nat)]) := by rw [del_ne (Ne.symm nla)]; exact a5
      have Dl2 : del (del H5 l) a l = none := by
        rw [del_ne nla]; exact del_same
      have exDD : Ex Dh (del (del H5 l) a) := fun b o hb => by
        rw [del_ne (ne_of_none hb Da), del_ne (ne_of_none hb Dl)]; exact e5 _ _ (ex4 _ _ hb)
      have toNat : ((c : Nat) : Int).toNat = c := by omega
      rw [toNat] at hrl2 hj4
      have Hl : ∀ b o, H b = some o → b ≠ l := fun b o hb => ne_of_none hb hl
      refine ⟨rs ++ [r], ws ++ [.ref q], del (del H5 l) a, j4, _, _, _, _, _, rfl, by omega, ?_, ?_, by omega, upd_same, ?_, Dl2, del_same, ?_, by rw [List.length_append, hrl]; rfl, fun r' hr' => ?_⟩
      · intro b ob hb hba
        rw [upd_ne (Hl b ob hb)]; exact e5 _ _ (m4 b ob hb hba)
      · show upd H5 l _ a = _
        rw [upd_ne (Ne.symm nla)]; exact a5
      · intro b o hb
        have nb : b ≠ l := fun e => by rw [e, Dl2] at hb; cases hb
        have nba : b ≠ a := fun e => by rw [e, del_same] at hb; cases hb
        rw [del_ne nba, del_ne nb] at hb
        rw [upd_ne nb]; exact hb
      · rw [List.map_append]
        refine (exa exDD hrows).append (.cons (.lst (.of ?_) (dpTs ((keepT_del w5).trans (keepT_del al)) _ _ (noLs_map noL_ent r) (exa e5 hus))) .nil)
        rw [del_ne nqa, del_ne nql]; exact q5
      · rcases List.mem_append.mp hr' with h | h
        · exact hro r' h
        · rw [List.mem_singleton.mp h]; exact ⟨hrl2, hro2⟩
  · rintro σ' H2 ⟨rs, ws, Dh, j2, u5, u6, u7, u8, u9, rfl, hi2, m2, a2, hj2, w2, exD, Dl, Da, hrows, hrl, hro⟩
    have toNat : ((S : Nat) : Int).toNat = S := by omega
    rw [toNat] at hrl hj2
    exact Evl.s_ret (Evl.ev_var rfl) fun H3 e3 => k H3 (.ref l) rs j2 (m2.trans (.of_ex e3)) (e3 _ _ a2) (by omega) (.lst (.of (e3 _ _ w2)) (exa (exD.trans e3) hrows)) ⟨S1, c1, hrl, fun r hr => (hro r hr).1, fun r hr o ho x hx => (hro r hr).2 o ho x hx⟩
/-! ### _law_case -/
def spCase (K : PySem.W.Frag) : Sp := fun vs H Q _ => ∃ (p a : Addr) (ns : List Int) (j n : Nat), vs = [.ref p, .ref a, .int (n : Nat)] ∧ SqL K H p (ns.map V.int) ∧ ns.length ≤ 63 ∧ AtN H a j ∧ (p ≠ a ∨ KerL K p (ns.map V.int)) ∧ j ≤ 10000 ∧ ∀ H' j', Mut1 H H' a → AtN H' a j' → j' ≤ j + 13 → Q (.bl true) H'
section
variable {H : Hp} {σ : L2.St} {E : XK} {D : Ends} {tr : TA} {ta tb tc te : TE} {tz : TS} {m S c n n' : Nat} {Tb : Tbl}
theorem q_machineOf {i : Nat} (h : Evl.EvA tr σ H [.int 2, .int 2, .int (n : Nat)]) (hn : n < 6561) (k : ∀ H' m T, Ex H H' → MachAt K H' m T → TblOk T 2 2 → tz D (σ.set i (some (.ref m))) H') : tSeq (tAsg (tCall (spMachineOf K) [] E tr) (gName i)) tz D σ H :=
  h H (Evl.Ex.refl _) _ fun H1 e1 => ⟨n, rfl, hn, fun H' m T e hm hT => k H' m T (e1.trans e) hm hT⟩
theorem s_mkTable {p a : Addr} {ns : List Int} {j i : Nat} (h : Evl.EvA tr σ H [.ref p, .ref a, .int (S : Nat), .int (c : Nat)]) (hp : SqL K H p (ns.map V.int)) (hn : ns.length ≤ 63) (ha : AtN H a j) (hne : p ≠ a ∨ KerL K p (ns.map V.int)) (hj : j ≤ 50000) (S1 : 1 ≤ S) (S4 : S ≤ 4) (c1 : 1 ≤ c) (c3 : c ≤ 3)
    (k : ∀ H' m T j', Mut1 H H' a → AtN H' a j' → j' ≤ j + 12 → MachAt K H' m T → TblOk T S c → D.nx (σ.set i (some (.ref m))) H') : tAsg (tMake (CM K) (spMk K) [] E (tCons (tCall (spTable K) [] E tr) tNil)) (gName i) D σ H :=
  h H (Evl.Ex.refl _) _ fun H1 e1 => ⟨p, a, ns, j, S, c, rfl, Evl.ex_l e1 hp, hn, e1 _ _ ha, hne, hj, S1, S4, c1, c3, fun H' tv rs j' m a' hj' hv hT =>
    mk_rest (Q := fun x H1 => D.nx (σ.set i (some x)) H1) hv hT (by rw [hT.len]; omega) (by omega) fun x H2 hx e2 hm => k H2 x rs j' (((Mut1.of_ex e1).trans m).trans (.of_ex e2)) (e2 _ _ a') hj' hm hT⟩
theorem q_shown {i j : Nat} (h : Evl.EvA tr σ H [.ref m, .int (n : Nat), .int (n' : Nat)]) (hm : MachAt K H m Tb) (hT : TblOk Tb S c) (hn : n ≤ 1000) (hn' : n' ≤ 2) (k : ∀ wd x v H1, ShownIs Tb S c n (.tuple [.str wd, x]) → Ex H H1 → Dp K H1 v x → tz D ((σ.set i (some (.str wd))).set j (some v)) H1) :
    tSeq (tAsg (tCall (spShown K) [] E tr) (gTup K 2 (gCons (gName i) (gCons (gName j) gNil)))) tz D σ H := h H (Evl.Ex.refl _) _ fun H1 e1 => ⟨m, Tb, S, c, n, n', rfl, hm.ex e1, hT, hn, hn', fun d v H2 hd e2 hv => by
  obtain ⟨wd, x, rfl⟩ : ∃ wd x, d = .tuple [.str wd, x] := by
    rcases hd with ⟨_, rfl⟩ | ⟨_, ⟨p, rfl, _⟩ | ⟨rfl, _⟩⟩
    · exact ⟨_, _, rfl⟩
    · exact ⟨_, _, rfl⟩
    · exact ⟨_, _, rfl⟩
  obtain ⟨q, xs, rfl, g1, g2⟩ := dp_tup hv
  refine ⟨q, xs, rfl, g1, by rw [g2.length]; rfl, un2 g2 fun v1 v2 q1 q2 => ?_⟩
  cases q1
  exact k wd x v2 H2 hd (e1.trans e2) q2⟩
theorem ev_mnNone {W : Tbl → Nat → PyData → Prop} (h : Evl.EvA tr σ H [.ref m, .int (n : Nat)]) (hm : MachAt K H m Tb) (hT : TblOk Tb S c) (hn : n ≤ 20000) (hW : ∀ d, W Tb n d → d = .none) : Evl.Ev (tOp (fun x y H Q => y = .non ∧ Q (.bl (decide (x = .non))) H) (tCall (SpMN K W) [] E tr) (tC .non)) σ H (.bl true) := fun H1 a Q k =>
  h H1 a _ fun H2 e2 => ⟨m, Tb, S, c, n, rfl, hm.ex (a.trans e2), hT, hn, fun d v H3 hd e3 hv => ⟨rfl, by
    rw [hW d hd] at hv
    cases hv
    exact k H3 (e2.trans e3)⟩⟩
end
theorem open_go {T : Tbl} {n : Nat} (h : step T (go T n first).1 ≠ none) : (go T (n + 1) first).2 = n + 1 := by
  have h1 := go_run T n first
  have h2 := go_le T n first
  have e : (go T n first).2 = n := by
    rcases Nat.lt_or_ge (go T n first).2 n with q | q
    · exact absurd (h1.2 q) h
    · omega
  have h3 := h1.1
  rw [e] at h3
  cases hs : step T (go T n first).1 with
  | none => exact absurd hs h
  | some v => rw [go_of_run T (n + 1) first v (runF_next h3 hs)]
theorem sameNone {T : Tbl} {n : Nat} (h : NoRep T n) : ∀ d, SameIs T n d → d = .none := fun d hd => by
  rcases hd with ⟨rfl, _⟩ | ⟨_, _, _, _, _, _, _, _, hn⟩
  · rfl
  · exact absurd h hn
theorem shNone {T : Tbl} {n : Nat} (h : NoSh T n) : ∀ d, ShiftedIs T n d → d = .none := fun d hd => by
  rcases hd with ⟨rfl, _⟩ | ⟨_, _, _, _, _, hn⟩
  · rfl
  · exact absurd h hn
theorem sc__law_case : FnScope ["_law_script", "_law_at", "_law_cell", "_law_m", "_law_machine", "_law_most", "_law_width", "_law_word", "_law_told"] ["_law_script", "_law_at", "_law_cell"] (defScope (top 99)) := ⟨rfl, rfl, rfl, by decide +kernel, rfl, by decide +kernel, by decide +kernel⟩
theorem h_law_case (T : Top K mg) : Has P w K mg base "_law_case" ["_law_script", "_law_at", "_law_cell"] 8 (spCase K) := by
  have H__law_next : Has P w K mg base "_law_next" ["_law_script", "_law_at"] 1 (spNext K) := h_law_next T
  have H_machine_of : Has P w K mg base "machine_of" ["states", "signs", "number"] 5 (spMachineOf K) := h_machine_of T
  have H_Machine : HasC P w K mg base (CM K) "Machine" ["self", "table"] 3 (spMk K) := h_Machine T
  have H__law_table : Has P w K mg base "_law_table" ["_law_script", "_law_at", "_law_states", "_law_signs"] 2 (spTable K) := h_law_table T
  have H_shown : Has P w K mg base "shown" ["machine", "most", "width"] 5 (spShown K) := h_shown T
  have H_after : Has P w K mg base "after" ["machine", "steps"] 4 (SpD K (RAfter K)) := h_after T
  have H__law_stopped : Has P w K mg base "_law_stopped" ["_law_machine", "_law_steps", "_law_most"] 6 (SpD K (RStopped K)) := h_law_stopped T
  have H__law_never : Has P w K mg base "_law_never" ["_law_machine", "_law_paper", "_law_steps"] 7 (SpD K (RNever K)) := h_law_never T
  have H_same_of : Has P w K mg base "same_of" ["machine", "most"] 4 (SpMN K SameIs) := h_same_of T
  have H_shifted_of : Has P w K mg base "shifted_of" ["machine", "most"] 4 (SpMN K ShiftedIs) := h_shifted_of T
  refine mk_has T 44 rfl rfl (fun _ _ _ _ _ _ us hl => match us, hl with | [_, _, _], _ => rfl) fun fd F => ?_
  refine F.ok sc__law_case (fun vs H Q E h => by obtain ⟨_, _, _, _, _, rfl, _⟩ := h; rfl) fun cdv A outer s H vs Q E hr h => ⟨_, PSs.nox (pss_cons (ps_set (i := 3) sc__law_case.nd rfl (Or.inl rfl) (pe_callH H__law_next (hr.mono (by decide)) (pa_cons (pv 0) (pa_cons (pv 1) pa_nil))))
      (pss_cons (ps_set (i := 4) sc__law_case.nd rfl (Or.inl rfl) (pe_callH H_machine_of (hr.mono (by decide)) (pa_cons pe_int (pa_cons pe_int (pa_cons (pe_op op_modN (pe_op op_add (pv 2) (pe_op op_fdivN (pv 3) pe_int)) pe_int) pa_nil)))))
      (pss_cons (ps_if (pt_cmpR op_lt (pe_op op_modN (pv 3) pe_int) pe_int (nomark _)) (pss_one (ps_set (i := 4) sc__law_case.nd rfl (Or.inl rfl) (pe_makeH H_Machine (hr.mono (by decide)) (pa_cons (pe_callH H__law_table (hr.mono (by decide)) (pa_cons (pv 0) (pa_cons (pv 1) (pa_cons (pe_op op_add pe_int (pe_op op_modN (pe_op op_fdivN (pv 3) pe_int) pe_int)) (pa_cons (pe_op op_add pe_int (pe_op op_modN (pe_op op_fdivN (pv 3) pe_int) pe_int)) pa_nil))))) pa_nil)))) pss_nil)
      (pss_cons (ps_set (i := 5) sc__law_case.nd rfl (Or.inl rfl) (pe_op op_modN (pe_op op_fdivN (pv 3) pe_int) pe_int))
      (pss_cons (ps_set (i := 6) sc__law_case.nd rfl (Or.inl rfl) (pe_op op_add pe_int (pe_op op_modN (pe_op op_fdivN (pv 3) pe_int) pe_int)))
      (pss_cons (ps_asg (pe_callH H_shown (hr.mono (by decide)) (pa_cons (pv 4) (pa_cons (pv 5) (pa_cons (pv 6) pa_nil)))) (pg_tup rfl (pgs_cons (pg_name (i := 7) sc__law_case.nd rfl (Or.inl rfl)) (pgs_cons (pg_name (i := 8) sc__law_case.nd rfl (Or.inl rfl)) pgs_nil))))
      (pss_cons (ps_if (pt_cmpR op_eq (pv 7) pe_str (nomark _)) (pss_one (ps_ret (pe_callH H__law_stopped (hr.mono (by decide)) (pa_cons (pv 4) (pa_cons (pv 8) (pa_cons (pv 5) pa_nil)))))) pss_nil)
      (pss_cons (ps_if (pt_cmpR op_ne (pe_ix ix_tup (pe_callH H_after (hr.mono (by decide)) (pa_cons (pv 4) (pa_cons (pe_op op_add (pv 5) pe_int) pa_nil))) pe_int (fun _ _ => rfl)) (pe_op op_add (pv 5) pe_int) (nomark _)) (pss_one (ps_ret pe_bl)) pss_nil)
      (pss_cons (ps_if (pt_cmpR op_eq (pv 7) pe_str (nomark _)) (pss_one (ps_ret (pe_callH H__law_never (hr.mono (by decide)) (pa_cons (pv 4) (pa_cons (pv 8) (pa_cons (pe_op op_modN (pe_op op_fdivN (pv 3) pe_int) pe_int) pa_nil)))))) pss_nil)
      (pss_one (ps_ret (pe_and (pe_cmpR op_eq (pv 7) pe_str (nomark _)) (pe_and (pe_cmpR op_isN (pv 8) pe_non (nomark _)) (pe_and (pe_cmpR op_isN (pe_callH H_same_of (hr.mono (by decide)) (pa_cons (pv 4) (pa_cons (pv 5) pa_nil))) pe_non (nomark _)) (pe_one (pe_cmpR op_isN (pe_callH H_shifted_of (hr.mono (by decide)) (pa_cons (pv 4) (pa_cons (pv 5) pa_nil))) pe_non (nomark _))))))))))))))))), ?_⟩
  obtain ⟨p, a, ns, j, n, rfl, hp, hn, ha, hne, hj, k⟩ := h
  simp only [L2.start, List.map_cons, List.map_nil, List.length_cons, List.length_nil, Nat.reduceAdd, Nat.reduceSub, List.replicate_succ, List.replicate_zero, List.cons_append, List.nil_append]
  refine q_next (Evl.ea_cons (Evl.ev_var rfl) (Evl.ea_cons (Evl.ev_var rfl) Evl.ea_nil)) hp hn ha hne (by omega) fun H1 m m1 a1 => ?_
  simp only [List.set_cons_succ, List.set_cons_zero]
  refine q_machineOf (n := (n + m / 7) % 6561) (Evl.ea_cons Evl.ev_c (Evl.ea_cons Evl.ev_c (Evl.ea_cons (ev_fm (k := 6561) (ev_addN (Evl.ev_var rfl) (ev_fd (k := 7) (Evl.ev_var rfl) Evl.ev_c (by decide) (by decide))) Evl.ev_c (by decide)) Evl.ea_nil))) (Nat.mod_lt _ (by decide)) fun H2 mm T2 e2 hm2 hT2 => ?_
  simp only [List.set_cons_succ, List.set_cons_zero]
  refine q_ifK (fun σ' H' => ∃ mm T2 S c j', σ' = [some (.ref p), some (.ref a), some (.int (n : Nat)), some (.int (m : Nat)), some (.ref mm), none, none, none, none] ∧ Mut1 H H' a ∧ AtN H' a j' ∧ j' ≤ j + 13 ∧ MachAt K H' mm T2 ∧ TblOk T2 S c) (Evl.et_test (Evl.ev_op (ev_fm (k := 7) (Evl.ev_var rfl) Evl.ev_c (by decide)) Evl.ev_c Evl.rv_I0)) ?_ (fun hb H3 e3 kk => ?_) (fun hb H3 e3 kk => kk _ _ ⟨mm, T2, 2, 2, j + 1, rfl, m1.trans (.of_ex (e2.trans e3)), e3 _ _ (e2 _ _ a1), by omega, hm2.ex e3, hT2⟩)
  · rintro σ' H3 ⟨mm, T3, S, c, j3, rfl, m3, a3, hj3, hm3, hT3⟩
    have mb : m / 100 % 31 < 31 := Nat.mod_lt _ (by decide)
    have wb : m / 3100 % 2 < 2 := Nat.mod_lt _ (by decide)
    have tb : m / 7000 % 121 < 121 := Nat.mod_lt _ (by decide)
    refine Evl.q_asg (ev_fm (k := 31) (ev_fd (k := 100) (Evl.ev_var rfl) Evl.ev_c (by decide) (by decide)) Evl.ev_c (by decide)) fun H4 e4 => ?_
    simp only [List.set_cons_succ, List.set_cons_zero]
    refine Evl.q_asg (ev_addN (i := 1) Evl.ev_c (ev_fm (k := 2) (ev_fd (k := 3100) (Evl.ev_var rfl) Evl.ev_c (by decide) (by decide)) Evl.ev_c (by decide))) fun H5 e5 => ?_
    simp only [List.set_cons_succ, List.set_cons_zero]
    have e35 := e4.trans e5
    refine q_shown (Evl.ea_cons (Evl.ev_var rfl) (Evl.ea_cons (Evl.ev_var rfl) (Evl.ea_cons (Evl.ev_var rfl) Evl.ea_nil))) (hm3.ex e35) hT3 (by omega) (by omega) fun wd x v H6 hS e6 q6 => ?_
    simp only [List.set_cons_succ, List.set_cons_zero]
    have e36 := e35.trans e6
    have hm6 := hm3.ex e36
    have fin : ∀ H', Ex H3 H' → Q (.bl true) H' := fun H' e => k H' j3 (m3.trans (.of_ex e)) (e _ _ a3) hj3
    rcases hS with ⟨hs, he⟩ | ⟨hs, ⟨pp, he, hp⟩ | ⟨he, hr, hsh⟩⟩
    · injection he with he
      injection he with he1 he2
      injection he1 with he1
      injection he2 with he2
      subst he1 he2
      refine Evl.q_when (b := true) (Evl.et_is (Evl.et_test (Evl.ev_op (Evl.ev_var rfl) Evl.ev_c (Evl.rv_eq rfl))) (by decide +kernel)) (fun _ H7 e7 => ?_) (fun z => nomatch z)
      cases q6
      refine sD_ret (d_call (as_v (Evl.ev_var rfl) (as_v (Evl.ev_var rfl) (as_v (Evl.ev_var rfl) as_nil))) fun H8 e8 => ⟨mm, T3, S, c, _, _, m / 100 % 31, rfl, (hm6.ex e7).ex e8, hT3, go_le _ _ _, by omega, go_runs _ _, hs, rfl⟩) fun v9 H9 e9 q9 => ?_
      cases q9
      exact fin H9 ((e36.trans e7).trans e9)
    · injection he with he
      injection he with he1 he2
      injection he1 with he1
      injection he2 with he2
      subst he1 he2
      have g1 := paper_never hp (m / 100 % 31 + 1)
      refine q_ifF (Evl.et_is (Evl.et_test (Evl.ev_op (Evl.ev_var rfl) Evl.ev_c (Evl.rv_eq rfl))) (by decide +kernel)) fun H7 e7 => ?_
      refine q_ifF (Evl.et_is (Evl.et_test (Evl.ev_op (ev_after1 (n := m / 100 % 31 + 1) (Evl.ev_var rfl) (ev_addN (j := 1) (Evl.ev_var rfl) Evl.ev_c) (hm6.ex e7) hT3 (by omega)) (ev_addN (j := 1) (Evl.ev_var rfl) Evl.ev_c) (Evl.rv_ne rfl))) (by rw [g1, eq_yes rfl]; rfl)) fun H8 e8 => ?_
      refine Evl.q_when (b := true) (Evl.et_is (Evl.et_test (Evl.ev_op (Evl.ev_var rfl) Evl.ev_c (Evl.rv_eq rfl))) (by decide +kernel)) (fun _ H9 e9 => ?_) (fun z => nomatch z)
      have e69 := (e7.trans e8).trans e9
      refine sD_ret (d_call (as_v (Evl.ev_var rfl) (as_d (dv (v := v) rfl (exd e69 q6)) (as_v (ev_fm (k := 121) (ev_fd (k := 7000) (Evl.ev_var rfl) Evl.ev_c (by decide) (by decide)) Evl.ev_c (by decide)) as_nil))) fun H10 e10 => ⟨mm, T3, S, c, _, m / 7000 % 121, rfl, (hm6.ex e69).ex e10, hT3, hp, by omega, rfl⟩) fun v9 H11 e11 q9 => ?_
      cases q9
      exact fin H11 ((e36.trans e69).trans e11)
    · injection he with he
      injection he with he1 he2
      injection he1 with he1
      injection he2 with he2
      subst he1 he2
      have g1 := open_go hs
      refine q_ifF (Evl.et_is (Evl.et_test (Evl.ev_op (Evl.ev_var rfl) Evl.ev_c (Evl.rv_eq rfl))) (by decide +kernel)) fun H7 e7 => ?_
      refine q_ifF (Evl.et_is (Evl.et_test (Evl.ev_op (ev_after1 (n := m / 100 % 31 + 1) (Evl.ev_var rfl) (ev_addN (j := 1) (Evl.ev_var rfl) Evl.ev_c) (hm6.ex e7) hT3 (by omega)) (ev_addN (j := 1) (Evl.ev_var rfl) Evl.ev_c) (Evl.rv_ne rfl))) (by rw [g1, eq_yes rfl]; rfl)) fun H8 e8 => ?_
      refine q_ifF (Evl.et_is (Evl.et_test (Evl.ev_op (Evl.ev_var rfl) Evl.ev_c (Evl.rv_eq rfl))) (by decide +kernel)) fun H9 e9 => ?_
      have e69 := (e7.trans e8).trans e9
      cases q6
      have mg9 := hm6.ex e69
      exact Evl.s_ret (v := .bl true) (Evl.ev_andV (a := true) (b := true) (Evl.ev_is (Evl.ev_op (Evl.ev_var rfl) Evl.ev_c (Evl.rv_eq rfl)) (by decide +kernel)) fun _ => Evl.ev_andV (a := true) (b := true) (d_isN (K := K) (dv (v := .non) rfl .non)) fun _ => Evl.ev_andV (a := true) (b := true) (ev_mnNone (Evl.ea_cons (Evl.ev_var rfl) (Evl.ea_cons (Evl.ev_var rfl) Evl.ea_nil)) mg9 hT3 (by omega) (sameNone hr)) fun _ => ev_mnNone (Evl.ea_cons (Evl.ev_var rfl) (Evl.ea_cons (Evl.ev_var rfl) Evl.ea_nil)) mg9 hT3 (by omega) (shNone hsh)) fun H10 e10 => fin H10 ((e36.trans e69).trans e10)
  · have b1 : m / 7 % 4 < 4 := Nat.mod_lt _ (by decide)
    have b2 : m / 28 % 3 < 3 := Nat.mod_lt _ (by decide)
    have mh : Mut1 H H3 a := m1.trans (.of_ex (e2.trans e3))
    exact s_mkTable (S := 1 + m / 7 % 4) (c := 1 + m / 28 % 3) (Evl.ea_cons (Evl.ev_var rfl) (Evl.ea_cons (Evl.ev_var rfl) (Evl.ea_cons (ev_addN (i := 1) Evl.ev_c (ev_fm (k := 4) (ev_fd (k := 7) (Evl.ev_var rfl) Evl.ev_c (by decide) (by decide)) Evl.ev_c (by decide))) (Evl.ea_cons (ev_addN (i := 1) Evl.ev_c (ev_fm (k := 3) (ev_fd (k := 28) (Evl.ev_var rfl) Evl.ev_c (by decide) (by decide)) Evl.ev_c (by decide))) Evl.ea_nil)))) (mh.seq hp hne) hn (e3 _ _ (e2 _ _ a1)) hne (by omega) (by omega) (by omega) (by omega) (by omega) fun H4 mm4 T4 j4 m4 a4 hj4 hm4 hT4 => kk _ _ ⟨mm4, T4, _, _, j4, rfl, mh.trans m4, a4, by omega, hm4, hT4⟩
/-! ### law -/
def spLaw (K : PySem.W.Frag) : Sp := fun vs H Q _ => ∃ (p : Addr) (ns : List Int), vs = [.ref p] ∧ SqL K H p (ns.map V.int) ∧ ns.length ≤ 63 ∧ ∀ H', Q (.bl true) H'
theorem q_unlessCase {H : Hp} {σ : L2.St} {D : Ends} {tu : TS} {tr : TA} {p a : Addr} {ns : List Int} {j n : Nat} (h : Evl.EvA tr σ H [.ref p, .ref a, .int (n : Nat)]) (hp : SqL K H p (ns.map V.int)) (hn : ns.length ≤ 63) (ha : AtN H a j) (hne : p ≠ a ∨ KerL K p (ns.map V.int)) (hj : j ≤ 10000) (k : ∀ H' j', Mut1 H H' a → AtN H' a j' → j' ≤ j + 13 → D.nx σ H') :
    tIfS (tNot (tB (tCall (spCase K) [] E0 tr))) tu tNext D σ H := h H (Evl.Ex.refl _) _ fun H1 e1 => ⟨p, a, ns, j, n, rfl, Evl.ex_l e1 hp, hn, e1 _ _ ha, hne, hj, fun H' j' m a' hj' => ⟨true, rfl, iteF (k H' j' ((Mut1.of_ex e1).trans m) a' hj')⟩⟩
theorem ev_pow40 {H : Hp} {σ : L2.St} : Evl.Ev (tOp (rI CPow fun i j => .int (i ^ j.toNat)) (tC (.int 10)) (tC (.int 40))) σ H (.int (10 ^ 40)) := Evl.ev_is (Evl.ev_op Evl.ev_c Evl.ev_c (Evl.rv_I ⟨by decide, by decide, by decide⟩)) rfl
theorem e_src {H : Hp} {σ : L2.St} {te : TE} {p : Addr} {ns : List Int} {Q : VK} (h : Evl.Ev te σ H (.ref p)) (hp : SqL K H p (ns.map V.int)) (hn : ns.length ≤ 63) (k : ∀ (q : Addr) (ms : List Int) (H2 : Hp), H q = none → Ex H H2 → H2 q = some (.lst (ms.map V.int)) → ms.length ≤ 64 → Q (.ref q) H2) :
    tOp rCat (tSlSt K te) (tLst (tCons (tC (.int 7)) tNil)) σ H Q := h H (Evl.Ex.refl _) _ fun H1 e1 => ⟨p, ns, rfl, Evl.ex_l e1 hp, fun p1 ms hp1 hl => ⟨Evl.sz_of (by simp), fun p2 hp2 => by
  have e2 : Ex H1 (upd H1 p1 (.lst (ms.map V.int))) := Evl.Ex.new hp1
  have e3 : Ex (upd H1 p1 (.lst (ms.map V.int))) (upd (upd H1 p1 (.lst (ms.map V.int))) p2 (.lst [.int 7])) := Evl.Ex.new hp2
  refine ⟨p1, p2, ms.map V.int, [.int 7], rfl, rfl, e3 _ _ upd_same, upd_same, Evl.sz_of (by rw [List.length_map]; simp; omega), fun q hq => ?_⟩
  refine k q (ms ++ [7]) _ (Evl.fresh_back ((e1.trans e2).trans e3) hq) (((e1.trans e2).trans e3).trans (Evl.Ex.new hq)) ?_ (by rw [List.length_append]; simp; omega)
  rw [List.map_append]
  exact upd_same⟩⟩
theorem q_forQ {H : Hp} {σ : L2.St} {D : Ends} {tu tz : TS} {tl : TE} {g : TG} {X : Addr → List Int → Hp → Prop} (hsrc : ∀ Q : VK, (∀ (q : Addr) (ms : List Int) (H2 : Hp), X q ms H2 → SqL K H2 q (ms.map V.int) → Q (.ref q) H2) → tl σ H Q) (Pv : Addr → List Int → Nat → L2.St → Hp → Prop) (h0 : ∀ q ms H2, X q ms H2 → Pv q ms 0 σ H2)
    (hl : ∀ q ms i σ' H', Pv q ms i σ' H' → SqL K H' q (ms.map V.int)) (hs : ∀ q ms i x σ' H', (ms.map V.int)[i]? = some x → Pv q ms i σ' H' → g x σ' H' fun σ2 H2 => tu { D with nx := Pv q ms (i + 1), ct := Pv q ms (i + 1), bk := tz D } σ2 H2) (hd : ∀ q ms σ' H', Pv q ms ms.length σ' H' → tz D σ' H') : tSeq (tFor (iList K tl) g tu) tz D σ H :=
  hsrc _ fun q ms H2 hX hq => ⟨q, rfl, ⟨_, hq⟩, for_list (xs := ms.map V.int) (Pv q ms) (h0 q ms H2 hX) (fun i σ' H' _ p => hl q ms i σ' H' p) (hs q ms) (fun σ' H' p => hd q ms σ' H' (by rw [List.length_map] at p; exact p))⟩
theorem sc_law : FnScope ["_law_script", "_law_at", "_law_cell"] ["_law_script"] (defScope (top 100)) := ⟨rfl, rfl, rfl, by decide +kernel, rfl, by decide +kernel, by decide +kernel⟩
theorem h_law (T : Top K mg) : ∃ fd, (∀ (s : Shared) (v : Value), BindsTo s fd ⟨[v], []⟩ [("_law_script", v)]) ∧ ∀ base : Heap, FnOk P w K mg base CX0 20 (He.ga K "law") fd ["_law_script"] (spLaw K) := by
  obtain ⟨fd, F0⟩ := He.SaysD.def_ T.d 45 (d := dd "law" 100 []) (by rfl)
  have F : FunD K "law" "law" (defArgs (top 100)) (defBody (top 100)) (defScope (top 100)) [] [] (He.ga K "law") fd := F0
  refine ⟨fd, fun s v => F.bindsA (ps := ["_law_script"]) (fun _ _ _ _ _ _ us hl => match us, hl with | [_], _ => rfl) s [v] rfl, fun base => ?_⟩
  have H__law_case : Has P w K mg base "_law_case" ["_law_script", "_law_at", "_law_cell"] 8 (spCase K) := h_law_case T
  refine F.ok sc_law (fun vs H Q E h => by obtain ⟨_, _, rfl, _⟩ := h; rfl) fun cdv A outer s H vs Q E hr h => ⟨_, PSs.nox (pss_cons (ps_set (i := 1) sc_law.nd rfl (Or.inl rfl) (pe_lst (pa_cons pe_int pa_nil)))
      (pss_cons (ps_for PassesOwn.never rfl (pi_list (pe_op op_cat (pe_sliceStep (pv 0) pe_int pe_int) (pe_lst (pa_cons pe_int pa_nil)))) (pg_name (i := 2) sc_law.nd rfl (Or.inl rfl)) (pss_one (ps_if (pt_not (pt_val (pe_callH H__law_case (hr.mono (by decide)) (pa_cons (pv 0) (pa_cons (pv 1) (pa_cons (pe_op op_modN (pv 2) (pe_op op_pow pe_int pe_int)) pa_nil)))))) (pss_one (ps_ret pe_bl)) pss_nil)))
      (pss_one (ps_ret pe_bl)))), ?_⟩
  obtain ⟨p, ns, rfl, hp, hn, k⟩ := h
  simp only [L2.start, List.map_cons, List.map_nil, List.length_cons, List.length_nil, Nat.reduceAdd, Nat.reduceSub, List.replicate_succ, List.replicate_zero, List.cons_append, List.nil_append]
  refine Evl.q_asgL (Evl.el_lst (Evl.ea_cons Evl.ev_c Evl.ea_nil) (Nat.le_of_lt (by simp))) fun a H1 ha e1 h1 => ?_
  simp only [List.set_cons_succ, List.set_cons_zero]
  have a1 : AtN H1 a 0 := h1
  have fin : ∀ v H', v = V.bl true → Q v H' := fun v H' e => by rw [e]; exact k H'
  have hpa : p ≠ a ∨ KerL K p (ns.map V.int) := by
    rcases hp with (hh | ⟨o, hh⟩) | hh
    · exact .inl fun e => by rw [e, ha] at hh; cases hh
    · exact .inl fun e => by rw [e, ha] at hh; cases hh
    · exact .inr hh
  have hp1 := Evl.ex_l e1 hp
  refine q_forQ (K := K) (X := fun q ms H2 => H1 q = none ∧ Ex H1 H2 ∧ H2 q = some (.lst (ms.map V.int)) ∧ ms.length ≤ 64) (fun Q kk => e_src (Evl.ev_var rfl) hp1 hn fun q ms H2 h1 h2 h3 h4 => kk q ms H2 ⟨h1, h2, h3, h4⟩ (Evl.sq_of h3))
    (fun q ms i σ' H' => ∃ j' u, σ' = [some (.ref p), some (.ref a), u] ∧ Mut1 H1 H' a ∧ AtN H' a j' ∧ j' ≤ 13 * i ∧ H' q = some (.lst (ms.map V.int)) ∧ q ≠ a ∧ ms.length ≤ 64)
    (fun q ms H2 ⟨h2, h3, h4, h5⟩ => ⟨0, none, rfl, .of_ex h3, h3 _ _ a1, by omega, h4, (fun e => by rw [e, show H1 a = _ from a1] at h2; cases h2), h5⟩) (fun q ms i σ' H' ⟨_, _, _, _, _, _, h, _⟩ => Evl.sq_of h) ?_ ?_
  · rintro q ms i x σ' H' hx ⟨j', u, rfl, m2, a2, hj2, hq, hqa, hz⟩
    rw [List.getElem?_map] at hx
    obtain ⟨y, hy, rfl⟩ := Option.map_eq_some_iff.mp hx
    have hil := (List.getElem?_eq_some_iff.mp hy).1
    obtain ⟨n, hn2, _⟩ := fmod_nat (i := y) (j := 10 ^ 40) (by decide)
    refine q_unlessCase (n := n) (Evl.ea_cons (Evl.ev_var rfl) (Evl.ea_cons (Evl.ev_var rfl) (Evl.ea_cons (Evl.ev_is (Evl.ev_op (Evl.ev_var rfl) ev_pow40 (Evl.rv_I (by decide))) (congrArg V.int hn2)) Evl.ea_nil))) (m2.seq hp1 hpa) hn a2 hpa (by omega) fun H3 j3 m3 a3 hj3 => ⟨j3, _, rfl, m2.trans m3, a3, by omega, m3 _ _ hq hqa, hqa, hz⟩
  · rintro q ms σ' H' ⟨j', u, rfl, m2, a2, hj2, hq, hqa, hz⟩
    exact Evl.s_ret Evl.ev_c fun H3 e3 => k H3
end
theorem law_ok : HD.LawOk 20 := by
  intro w mg h K X G c
  have T : Top K mg := ⟨c.t.d, c.more, h, X, G⟩
  obtain ⟨fd, hb, hf⟩ := h_law (P := PySem.Challenge.rw_tapeproof_k90_whole_never.prog) (w := w) T
  refine ⟨fd, spLaw K, hb, fun H a ns hl hs => ⟨a, ns, rfl, hs, hl, fun H' => rfl⟩, fun base _ _ => hf base⟩
end WK
end
theorem PySem.Challenge.cw_tapeproof_k90_whole_never_holds : PySem.Challenge.rw_tapeproof_k90_whole_never.Holds := by
  exact law_end WK.law_ok
