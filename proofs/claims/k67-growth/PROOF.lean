import PyProof.Rows.All
import Wide.All
import OpenK.AllK
import Wide.FinOn
import HandS.ForMost
import HandS.Evl
import HandS.Style
import HandS.SetKeys
import HandS.Codes
import KE.KDictKeyed
import HandS.Replace
import HandS.Walk
import KE.GoesEnum
import PySem.Challenge.RW_leafturner_k67_whole_growth_and_relation
import HandS.Conv
import HandS.NoneIn
set_option Elab.async false
/-! The plain law: words of a machine's letters, what they do, cutting, least words. Core Lean only. -/
namespace Lf

/-! ### letters: 2s (small) and 2s+1 (large) -/
def oth (c : Nat) : Nat := if c % 2 = 0 then c + 1 else c - 1
theorem oth_oth (c : Nat) : oth (oth c) = c := by unfold oth; split <;> split <;> omega
theorem oth_ne (c : Nat) : oth c ≠ c := by unfold oth; split <;> omega
theorem oth_lt {c L : Nat} (hL : L % 2 = 0) (h : c < L) : oth c < L := by unfold oth; split <;> omega
theorem oth_inj {a b : Nat} (h : oth a = oth b) : a = b := by rw [← oth_oth a, h, oth_oth]

/-- how letters read digits: k digits, L letters -/
structure LS (k L : Nat) (ls : Nat → Nat → Nat × Nat) : Prop where
  even : L % 2 = 0
  dig : ∀ c x, c < L → x < k → (ls c x).1 < k
  nxt : ∀ c x, c < L → x < k → (ls c x).2 < L
  inv : ∀ c x, c < L → x < k → ls (oth c) (ls c x).1 = (x, oth (ls c x).2)

/-! ### words on digits and strings -/
section
variable (ls : Nat → Nat → Nat × Nat)
def ws : List Nat → Nat → Nat × List Nat
  | [], x => (x, [])
  | c :: w, x => let r := ws w (ls c x).1; (r.1, (ls c x).2 :: r.2)
def run : List Nat → List Nat → List Nat
  | _, [] => []
  | w, x :: s => (ws ls w x).1 :: run (ws ls w x).2 s
theorem ws_append (u v : List Nat) (x : Nat) : ws ls (u ++ v) x = ((ws ls v (ws ls u x).1).1, (ws ls u x).2 ++ (ws ls v (ws ls u x).1).2) := by
  induction u generalizing x with
  | nil => rfl
  | cons c u ih => simp [ws, ih]
theorem ws_snoc (u : List Nat) (c x : Nat) : ws ls (u ++ [c]) x = ((ls c (ws ls u x).1).1, (ws ls u x).2 ++ [(ls c (ws ls u x).1).2]) := by
  rw [ws_append]; rfl
theorem ws_len (w : List Nat) (x : Nat) : (ws ls w x).2.length = w.length := by
  induction w generalizing x with
  | nil => rfl
  | cons c w ih => simp [ws, ih]
theorem run_append (u v s : List Nat) : run ls (u ++ v) s = run ls v (run ls u s) := by
  induction s generalizing u v with
  | nil => rfl
  | cons x s ih => simp [run, ws_append, ih]
theorem run_nil (s : List Nat) : run ls [] s = s := by
  induction s with
  | nil => rfl
  | cons x s ih => simp [run, ws, ih]
theorem run_len (w s : List Nat) : (run ls w s).length = s.length := by
  induction s generalizing w with
  | nil => rfl
  | cons x s ih => simp [run, ih]
end

def Wd (L : Nat) (w : List Nat) : Prop := ∀ c ∈ w, c < L
def Dg (k : Nat) (s : List Nat) : Prop := ∀ x ∈ s, x < k
theorem Wd.nil {L : Nat} : Wd L [] := fun _ h => nomatch h
theorem Wd.append {L : Nat} {u v : List Nat} (a : Wd L u) (b : Wd L v) : Wd L (u ++ v) := fun c h => (List.mem_append.mp h).elim (a c) (b c)
theorem Wd.left {L : Nat} {u v : List Nat} (a : Wd L (u ++ v)) : Wd L u := fun c h => a c (List.mem_append_left _ h)
theorem Wd.right {L : Nat} {u v : List Nat} (a : Wd L (u ++ v)) : Wd L v := fun c h => a c (List.mem_append_right _ h)
theorem Wd.one {L c : Nat} (h : c < L) : Wd L [c] := fun d hd => by simp at hd; omega
theorem Wd.cons {L c : Nat} {u : List Nat} (h : c < L) (a : Wd L u) : Wd L (c :: u) := fun d hd => (List.mem_cons.mp hd).elim (fun e => e ▸ h) (a d)
theorem Wd.tail {L c : Nat} {u : List Nat} (a : Wd L (c :: u)) : Wd L u := fun d hd => a d (List.mem_cons_of_mem _ hd)
theorem Wd.head {L c : Nat} {u : List Nat} (a : Wd L (c :: u)) : c < L := a c List.mem_cons_self

section
variable {k L : Nat} {ls : Nat → Nat → Nat × Nat} (S : LS k L ls)
include S
theorem ws_dig {w : List Nat} {x : Nat} (hw : Wd L w) (hx : x < k) : (ws ls w x).1 < k := by
  induction w generalizing x with
  | nil => exact hx
  | cons c w ih => exact ih hw.tail (S.dig c x hw.head hx)
theorem ws_wd {w : List Nat} {x : Nat} (hw : Wd L w) (hx : x < k) : Wd L (ws ls w x).2 := by
  induction w generalizing x with
  | nil => exact Wd.nil
  | cons c w ih => exact Wd.cons (S.nxt c x hw.head hx) (ih hw.tail (S.dig c x hw.head hx))
theorem run_dg {w s : List Nat} (hw : Wd L w) (hs : Dg k s) : Dg k (run ls w s) := by
  induction s generalizing w with
  | nil => intro x h; nomatch h
  | cons x s ih =>
    have hx : x < k := hs x List.mem_cons_self
    intro y hy
    rcases List.mem_cons.mp hy with e | h
    · rw [e]; exact ws_dig S hw hx
    · exact ih (ws_wd S hw hx) (fun z hz => hs z (List.mem_cons_of_mem _ hz)) y h
theorem run_pair {c : Nat} (hc : c < L) {s : List Nat} (hs : Dg k s) : run ls [c, oth c] s = s := by
  induction s generalizing c with
  | nil => rfl
  | cons x s ih =>
    have hx : x < k := hs x List.mem_cons_self
    have e := S.inv c x hc hx
    have e2 : ws ls [c, oth c] x = (x, [(ls c x).2, oth (ls c x).2]) := by
      show ((ls (oth c) (ls c x).1).1, [(ls c x).2, (ls (oth c) (ls c x).1).2]) = _
      rw [e]
    rw [run, e2]
    show x :: run ls [(ls c x).2, oth (ls c x).2] s = _
    rw [ih (S.nxt c x hc hx) fun z hz => hs z (List.mem_cons_of_mem _ hz)]
end

/-! ### equal words -/
def Eq' (k : Nat) (ls : Nat → Nat → Nat × Nat) (u v : List Nat) : Prop := ∀ s, Dg k s → run ls u s = run ls v s
section
variable {k L : Nat} {ls : Nat → Nat → Nat × Nat}
theorem Eq'.refl (u : List Nat) : Eq' k ls u u := fun _ _ => rfl
theorem Eq'.symm {u v : List Nat} (h : Eq' k ls u v) : Eq' k ls v u := fun s hs => (h s hs).symm
theorem Eq'.trans {u v w : List Nat} (h : Eq' k ls u v) (h' : Eq' k ls v w) : Eq' k ls u w := fun s hs => (h s hs).trans (h' s hs)
theorem Eq'.append (S : LS k L ls) {u u' v v' : List Nat} (h : Eq' k ls u u') (h' : Eq' k ls v v') (hu : Wd L u) : Eq' k ls (u ++ v) (u' ++ v') := fun s hs => by
  rw [run_append, run_append, ← h s hs]
  exact h' _ (run_dg S hu hs)
/-- equal words: the same digits, equal sections -/
theorem Eq'.step {u v : List Nat} (h : Eq' k ls u v) (x : Nat) (hx : x < k) : (ws ls u x).1 = (ws ls v x).1 ∧ Eq' k ls (ws ls u x).2 (ws ls v x).2 := by
  refine ⟨?_, fun s hs => ?_⟩
  · have e := h [x] (fun y hy => by simp at hy; omega)
    simpa [run] using e
  · have e := h (x :: s) (fun y hy => (List.mem_cons.mp hy).elim (fun e => e ▸ hx) (hs y))
    simp only [run, List.cons.injEq] at e
    exact e.2
theorem Eq'.of_step {u v : List Nat} (h : ∀ x, x < k → (ws ls u x).1 = (ws ls v x).1 ∧ Eq' k ls (ws ls u x).2 (ws ls v x).2) : Eq' k ls u v := fun s hs => by
  cases s with
  | nil => rfl
  | cons x s =>
    obtain ⟨h1, h2⟩ := h x (hs x List.mem_cons_self)
    rw [run, run, h1, h2 s fun z hz => hs z (List.mem_cons_of_mem _ hz)]
end

/-! ### cutting -/
def cutStep (kept : List Nat) (c : Nat) : List Nat := if kept.getLast? = some (oth c) then kept.dropLast else kept ++ [c]
def cut (w : List Nat) : List Nat := w.foldl cutStep []
theorem cutStep_len (kept : List Nat) (c : Nat) : (cutStep kept c).length ≤ kept.length + 1 := by
  unfold cutStep; split
  · simp; omega
  · simp
theorem cutFold_len (w kept : List Nat) : (w.foldl cutStep kept).length ≤ kept.length + w.length := by
  induction w generalizing kept with
  | nil => simp
  | cons c w ih =>
    have h1 := ih (cutStep kept c)
    have h2 := cutStep_len kept c
    simp only [List.foldl_cons, List.length_cons]
    omega
theorem cut_len (w : List Nat) : (cut w).length ≤ w.length := by
  have := cutFold_len w []
  simpa [cut] using this
theorem cutStep_wd {L : Nat} {kept : List Nat} {c : Nat} (hk : Wd L kept) (hc : c < L) : Wd L (cutStep kept c) := by
  unfold cutStep
  split
  · exact fun d hd => hk d (List.dropLast_subset _ hd)
  · exact hk.append (Wd.one hc)
theorem cutFold_wd {L : Nat} {w kept : List Nat} (hk : Wd L kept) (hw : Wd L w) : Wd L (w.foldl cutStep kept) := by
  induction w generalizing kept with
  | nil => exact hk
  | cons c w ih => exact ih (cutStep_wd hk hw.head) hw.tail
theorem cut_wd {L : Nat} {w : List Nat} (hw : Wd L w) : Wd L (cut w) := cutFold_wd Wd.nil hw
theorem getLast?_snoc_dropLast {l : List Nat} {a : Nat} (h : l.getLast? = some a) : l = l.dropLast ++ [a] := by
  have hne : l ≠ [] := fun e => by rw [e] at h; cases h
  have e := List.dropLast_concat_getLast hne
  rw [List.getLast?_eq_some_getLast hne] at h
  cases h
  exact e.symm
section
variable {k L : Nat} {ls : Nat → Nat → Nat × Nat} (S : LS k L ls)
include S
theorem cutStep_eq {kept : List Nat} {c : Nat} (hk : Wd L kept) (hc : c < L) : Eq' k ls (cutStep kept c) (kept ++ [c]) := by
  unfold cutStep
  split
  · rename_i h
    have e := getLast?_snoc_dropLast h
    have hk' : Wd L (kept.dropLast) := fun d hd => hk d (List.dropLast_subset _ hd)
    intro s hs
    have e2 : kept ++ [c] = kept.dropLast ++ [oth c, oth (oth c)] := by
      rw [oth_oth]
      rw [e]
      simp
    rw [e2, run_append, run_pair S (oth_lt S.even hc) (run_dg S hk' hs)]
  · exact .refl _
theorem cutFold_eq {w kept : List Nat} (hk : Wd L kept) (hw : Wd L w) : Eq' k ls (w.foldl cutStep kept) (kept ++ w) := by
  induction w generalizing kept with
  | nil => simp; exact .refl _
  | cons c w ih =>
    refine (ih (cutStep_wd hk hw.head) hw.tail).trans ?_
    have e := Eq'.append S (cutStep_eq S hk hw.head) (Eq'.refl w) (cutStep_wd hk hw.head)
    simpa using e
theorem cut_eq {w : List Nat} (hw : Wd L w) : Eq' k ls (cut w) w := by
  have := cutFold_eq S (kept := []) Wd.nil hw
  simpa [cut] using this
end

/-! ### reduced words -/
inductive Red : List Nat → Prop
  | nil : Red []
  | snoc {w : List Nat} {c : Nat} : Red w → w.getLast? ≠ some (oth c) → Red (w ++ [c])
theorem Red.init {w : List Nat} {c : Nat} (h : Red (w ++ [c])) : Red w ∧ w.getLast? ≠ some (oth c) := by
  generalize e : w ++ [c] = v at h
  cases h with
  | nil => simp at e
  | snoc a b =>
    have h1 := List.append_inj' e rfl
    obtain ⟨h1, h2⟩ := h1
    cases h2
    subst h1
    exact ⟨a, b⟩
theorem Red.dropLast {w : List Nat} (h : Red w) : Red w.dropLast := by
  cases h with
  | nil => exact .nil
  | snoc a b => simpa using a
theorem cutStep_red {kept : List Nat} {c : Nat} (h : Red kept) : Red (cutStep kept c) := by
  unfold cutStep
  split
  · exact h.dropLast
  · rename_i hn
    exact .snoc h hn
theorem cutFold_red {w kept : List Nat} (h : Red kept) : Red (w.foldl cutStep kept) := by
  induction w generalizing kept with
  | nil => exact h
  | cons c w ih => exact ih (cutStep_red h)
theorem cut_red (w : List Nat) : Red (cut w) := cutFold_red .nil
theorem Red.cut_self {w : List Nat} (h : Red w) : cut w = w := by
  induction h with
  | nil => rfl
  | snoc a b ih =>
    unfold cut at ih ⊢
    rw [List.foldl_append, ih]
    show cutStep _ _ = _
    unfold cutStep
    rw [if_neg b]
/-- the reduced words with n letters below L, in order -/
def redW (L : Nat) : Nat → List (List Nat)
  | 0 => [[]]
  | n + 1 => (redW L n).flatMap fun w => ((List.range L).filter fun c => w.getLast? != some (oth c)).map fun c => w ++ [c]
theorem mem_redW {L n : Nat} {w : List Nat} : w ∈ redW L n ↔ Red w ∧ Wd L w ∧ w.length = n := by
  induction n generalizing w with
  | zero =>
    simp only [redW, List.mem_singleton]
    constructor
    · rintro rfl; exact ⟨.nil, Wd.nil, rfl⟩
    · rintro ⟨_, _, h⟩; exact List.eq_nil_of_length_eq_zero h
  | succ n ih =>
    simp only [redW, List.mem_flatMap, List.mem_map, List.mem_filter, List.mem_range]
    constructor
    · rintro ⟨v, hv, c, ⟨hc, hn⟩, rfl⟩
      obtain ⟨h1, h2, h3⟩ := ih.mp hv
      exact ⟨.snoc h1 (by simpa using hn), h2.append (Wd.one hc), by simp [h3]⟩
    · rintro ⟨h1, h2, h3⟩
      cases h1 with
      | nil => simp at h3
      | snoc a b =>
        rename_i v c
        refine ⟨v, ih.mpr ⟨a, h2.left, by simpa using h3⟩, c, ⟨h2.right c (by simp), by simpa using b⟩, rfl⟩
end Lf
set_option Elab.async false
/-! The plain law, 2: words at rest, closed lists, rows, classes of rows, forms. -/
namespace Lf

def sec (ls : Nat → Nat → Nat × Nat) (w : List Nat) (x : Nat) : List Nat := cut (ws ls w x).2
def digs (k : Nat) (ls : Nat → Nat → Nat × Nat) (w : List Nat) : List Nat := (List.range k).map fun x => (ws ls w x).1
def secs (k : Nat) (ls : Nat → Nat → Nat × Nat) (w : List Nat) : List (List Nat) := (List.range k).map fun x => sec ls w x
theorem sec_len (ls : Nat → Nat → Nat × Nat) (w : List Nat) (x : Nat) : (sec ls w x).length ≤ w.length := by
  have := cut_len (ws ls w x).2
  rw [ws_len] at this
  exact this
theorem sec_red (ls : Nat → Nat → Nat × Nat) (w : List Nat) (x : Nat) : Red (sec ls w x) := cut_red _

abbrev Rests (k : Nat) (ls : Nat → Nat → Nat × Nat) (w : List Nat) : Prop := Eq' k ls w []

section
variable {k L : Nat} {ls : Nat → Nat → Nat × Nat}
theorem sec_wd (S : LS k L ls) {w : List Nat} {x : Nat} (hw : Wd L w) (hx : x < k) : Wd L (sec ls w x) := cut_wd (ws_wd S hw hx)
theorem sec_eq (S : LS k L ls) {w : List Nat} {x : Nat} (hw : Wd L w) (hx : x < k) : Eq' k ls (sec ls w x) (ws ls w x).2 := cut_eq S (ws_wd S hw hx)
theorem Eq'.sec (S : LS k L ls) {u v : List Nat} (hu : Wd L u) (hv : Wd L v) (h : Eq' k ls u v) {x : Nat} (hx : x < k) : Eq' k ls (Lf.sec ls u x) (Lf.sec ls v x) :=
  ((sec_eq S hu hx).trans (h.step x hx).2).trans (sec_eq S hv hx).symm
theorem Rests.out {w : List Nat} (h : Rests k ls w) {x : Nat} (hx : x < k) : (ws ls w x).1 = x := by
  have := (h.step x hx).1
  exact this
theorem Rests.sec (S : LS k L ls) {w : List Nat} (hw : Wd L w) (h : Rests k ls w) {x : Nat} (hx : x < k) : Rests k ls (Lf.sec ls w x) := by
  refine (sec_eq S hw hx).trans ?_
  exact (h.step x hx).2
theorem closed_rests (S : LS k L ls) {l : List (List Nat)} (h : ∀ w ∈ l, Wd L w ∧ ∀ x, x < k → (ws ls w x).1 = x ∧ Lf.sec ls w x ∈ l) : ∀ w ∈ l, Rests k ls w := by
  intro w hw s
  induction s generalizing w with
  | nil => intro _; rfl
  | cons x s ih =>
    intro hs
    have hx : x < k := hs x List.mem_cons_self
    have hs' : Dg k s := fun z hz => hs z (List.mem_cons_of_mem _ hz)
    obtain ⟨h1, h2⟩ := h w hw
    obtain ⟨h3, h4⟩ := h2 x hx
    rw [run_nil, run, h3, ← sec_eq S h1 hx s hs', ih _ h4 hs', run_nil]
/-- the undone word -/
def undone (w : List Nat) : List Nat := w.reverse.map oth
theorem undone_wd (hL : L % 2 = 0) {w : List Nat} (hw : Wd L w) : Wd L (undone w) := fun c hc => by
  obtain ⟨d, hd, rfl⟩ := List.mem_map.mp hc
  exact oth_lt hL (hw d (List.mem_reverse.mp hd))
theorem undone_cons (c : Nat) (w : List Nat) : undone (c :: w) = undone w ++ [oth c] := by simp [undone]
theorem undone_len (w : List Nat) : (undone w).length = w.length := by simp [undone]
theorem word_undone (S : LS k L ls) {w : List Nat} (hw : Wd L w) : Rests k ls (w ++ undone w) := by
  induction w with
  | nil => exact .refl _
  | cons c w ih =>
    have e : c :: w ++ undone (c :: w) = [c] ++ ((w ++ undone w) ++ [oth c]) := by rw [undone_cons]; simp
    rw [e]
    have hU : Wd L (w ++ undone w) := hw.tail.append (undone_wd S.even hw.tail)
    have h1 : Eq' k ls ((w ++ undone w) ++ [oth c]) ([] ++ [oth c]) := Eq'.append S (ih hw.tail) (.refl _) hU
    refine (Eq'.append S (.refl [c]) h1 (Wd.one hw.head)).trans ?_
    intro s hs
    rw [run_nil]
    exact run_pair S hw.head hs
theorem undone_undone (w : List Nat) : undone (undone w) = w := by
  unfold undone
  rw [← List.map_reverse, List.map_map, List.reverse_reverse]
  have e : oth ∘ oth = id := funext oth_oth
  rw [e, List.map_id]
theorem undone_word (S : LS k L ls) {w : List Nat} (hw : Wd L w) : Rests k ls (undone w ++ w) := by
  have := word_undone S (undone_wd S.even hw)
  rwa [undone_undone] at this
theorem eq_iff_rests (S : LS k L ls) {u v : List Nat} (hu : Wd L u) (hv : Wd L v) : Rests k ls (u ++ undone v) ↔ Eq' k ls u v := by
  constructor
  · intro h
    have h1 : Eq' k ls ((u ++ undone v) ++ v) ([] ++ v) := Eq'.append S h (.refl v) (hu.append (undone_wd S.even hv))
    have h2 : Eq' k ls (u ++ (undone v ++ v)) (u ++ []) := Eq'.append S (.refl u) (undone_word S hv) hu
    rw [List.append_nil] at h2
    rw [List.nil_append, List.append_assoc] at h1
    exact h2.symm.trans h1
  · intro h
    exact (Eq'.append S h (.refl (undone v)) hu).trans (word_undone S hv)
end

/-! ### rows of words -/
abbrev Row := List Nat × List Nat
def rowOf (k : Nat) (ls : Nat → Nat → Nat × Nat) (Wl : List (List Nat)) (w : List Nat) : Row := (digs k ls w, (secs k ls w).map fun v => Wl.idxOf v)
structure Good (k L : Nat) (ls : Nat → Nat → Nat × Nat) (u : List Nat) (Wl : List (List Nat)) : Prop where
  first : Wl[0]? = some (cut u)
  nodup : Wl.Nodup
  wd : ∀ w ∈ Wl, Wd L w
  closed : ∀ w ∈ Wl, ∀ v ∈ secs k ls w, v ∈ Wl
def rowsOf (k : Nat) (ls : Nat → Nat → Nat × Nat) (Wl : List (List Nat)) : List Row := Wl.map (rowOf k ls Wl)

/-- a list of rows, well formed -/
structure RowsOk (k : Nat) (rows : List Row) : Prop where
  dig : ∀ r ∈ rows, r.1.length = k
  nx : ∀ r ∈ rows, r.2.length = k ∧ ∀ j ∈ r.2, j < rows.length
def frun (rows : List Row) : Nat → List Nat → List Nat
  | _, [] => []
  | i, x :: s => (rows.getD i ([], [])).1.getD x 0 :: frun rows ((rows.getD i ([], [])).2.getD x 0) s
def Bis (k : Nat) (rows : List Row) (i j : Nat) : Prop := ∀ s, Dg k s → frun rows i s = frun rows j s

section
variable {k L : Nat} {ls : Nat → Nat → Nat × Nat} {u : List Nat} {Wl : List (List Nat)}
theorem digs_get {w : List Nat} {x : Nat} (hx : x < k) : (digs k ls w).getD x 0 = (ws ls w x).1 := by
  simp [digs, List.getD, hx]
theorem secs_get {w : List Nat} {x : Nat} (hx : x < k) : (secs k ls w)[x]? = some (sec ls w x) := by
  simp [secs, hx]
theorem rowsOf_get {i : Nat} {w : List Nat} (h : Wl[i]? = some w) : (rowsOf k ls Wl).getD i ([], []) = rowOf k ls Wl w := by
  simp [rowsOf, List.getD, h]
theorem Good.rowsOk (G : Good k L ls u Wl) : RowsOk k (rowsOf k ls Wl) where
  dig := fun r hr => by
    obtain ⟨w, hw, rfl⟩ := List.mem_map.mp hr
    simp [rowOf, digs]
  nx := fun r hr => by
    obtain ⟨w, hw, rfl⟩ := List.mem_map.mp hr
    refine ⟨by simp [rowOf, secs], fun j hj => ?_⟩
    obtain ⟨v, hv, rfl⟩ := List.mem_map.mp hj
    simp only [rowsOf, List.length_map]
    exact List.idxOf_lt_length_of_mem (G.closed w hw v hv)
theorem Good.frun (S : LS k L ls) (G : Good k L ls u Wl) {i : Nat} {w : List Nat} (h : Wl[i]? = some w) {s : List Nat} (hs : Dg k s) : Lf.frun (rowsOf k ls Wl) i s = run ls w s := by
  induction s generalizing i w with
  | nil => rfl
  | cons x s ih =>
    have hx : x < k := hs x List.mem_cons_self
    have hs' : Dg k s := fun z hz => hs z (List.mem_cons_of_mem _ hz)
    have hm : w ∈ Wl := List.mem_of_getElem? h
    have hv : sec ls w x ∈ Wl := G.closed w hm _ (List.mem_of_getElem? (secs_get hx))
    rw [Lf.frun, rowsOf_get h, run]
    have e1 : (rowOf k ls Wl w).1.getD x 0 = (ws ls w x).1 := digs_get hx
    have e2 : (rowOf k ls Wl w).2.getD x 0 = Wl.idxOf (sec ls w x) := by
      simp [rowOf, List.getD, secs_get hx]
    rw [e1, e2, ih (w := sec ls w x) ?_ hs', sec_eq S (G.wd w hm) hx s hs']
    have hl := List.idxOf_lt_length_of_mem hv
    rw [List.getElem?_eq_getElem hl, List.getElem_idxOf]
theorem Good.bis (S : LS k L ls) (G : Good k L ls u Wl) {i j : Nat} {v w : List Nat} (hi : Wl[i]? = some v) (hj : Wl[j]? = some w) : Bis k (rowsOf k ls Wl) i j ↔ Eq' k ls v w := by
  constructor
  · intro h s hs
    rw [← G.frun S hi hs, ← G.frun S hj hs, h s hs]
  · intro h s hs
    rw [G.frun S hi hs, G.frun S hj hs, h s hs]
end

/-! ### numbering -/
def addNew (o cs : List Nat) : List Nat := cs.foldl (fun o c => if c ∈ o then o else o ++ [c]) o
def ordAt (nx : Nat → List Nat) (c0 : Nat) : Nat → List Nat
  | 0 => [c0]
  | i + 1 => addNew (ordAt nx c0 i) (nx ((ordAt nx c0 i).getD i 0))
theorem addNew_pre (cs : List Nat) : ∀ o, ∃ r, addNew o cs = o ++ r ∧ (∀ c ∈ cs, c ∈ o ++ r) ∧ ∀ c ∈ r, c ∈ cs := by
  induction cs with
  | nil => intro o; exact ⟨[], by simp [addNew], by simp, by simp⟩
  | cons c cs ih =>
    intro o
    show ∃ r, addNew (if c ∈ o then o else o ++ [c]) cs = o ++ r ∧ _
    by_cases h : c ∈ o
    · rw [if_pos h]
      obtain ⟨r, e, m, m'⟩ := ih o
      refine ⟨r, e, fun d hd => ?_, fun d hd => List.mem_cons_of_mem _ (m' d hd)⟩
      rcases List.mem_cons.mp hd with rfl | hd
      · exact List.mem_append_left _ h
      · exact m d hd
    · rw [if_neg h]
      obtain ⟨r, e, m, m'⟩ := ih (o ++ [c])
      refine ⟨c :: r, by rw [e]; simp, fun d hd => ?_, fun d hd => ?_⟩
      · rcases List.mem_cons.mp hd with rfl | hd
        · simp
        · have := m d hd
          simpa using this
      · rcases List.mem_cons.mp hd with rfl | hd
        · exact List.mem_cons_self
        · exact List.mem_cons_of_mem _ (m' d hd)
theorem addNew_nodup (cs : List Nat) : ∀ o, o.Nodup → (addNew o cs).Nodup := by
  induction cs with
  | nil => intro o h; exact h
  | cons c cs ih =>
    intro o h
    show (addNew (if c ∈ o then o else o ++ [c]) cs).Nodup
    by_cases hc : c ∈ o
    · rw [if_pos hc]; exact ih o h
    · rw [if_neg hc]
      refine ih _ (List.nodup_append.mpr ⟨h, by simp, ?_⟩)
      intro a ha b hb e
      simp at hb
      subst hb; subst e
      exact hc ha
theorem ordAt_nodup (nx : Nat → List Nat) (c0 i : Nat) : (ordAt nx c0 i).Nodup := by
  induction i with
  | zero => simp [ordAt]
  | succ i ih => exact addNew_nodup _ _ ih
theorem ordAt_sub (nx : Nat → List Nat) (c0 : Nat) (P : Nat → Prop) (h0 : P c0) (hn : ∀ c, P c → ∀ d ∈ nx c, P d) (i : Nat) (hi : ∀ j, j < i → j < (ordAt nx c0 j).length) : ∀ c ∈ ordAt nx c0 i, P c := by
  induction i with
  | zero => intro c h; simp [ordAt] at h; exact h ▸ h0
  | succ i ih =>
    intro c h
    have ih' := ih fun j hj => hi j (by omega)
    obtain ⟨r, e, _, m'⟩ := addNew_pre (nx ((ordAt nx c0 i).getD i 0)) (ordAt nx c0 i)
    have h' : c ∈ ordAt nx c0 i ++ r := by rw [← e]; exact h
    rcases List.mem_append.mp h' with h | h
    · exact ih' c h
    · refine hn _ (ih' _ ?_) c (m' c h)
      have hl := hi i (by omega)
      rw [List.getD, List.getElem?_eq_getElem hl]
      exact List.getElem_mem hl
theorem ordAt_pre (nx : Nat → List Nat) (c0 : Nat) {i j : Nat} (h : i ≤ j) : ∃ r, ordAt nx c0 j = ordAt nx c0 i ++ r := by
  induction j with
  | zero => exact ⟨[], by rw [show i = 0 by omega]; simp⟩
  | succ j ih =>
    rcases Nat.lt_or_ge j i with q | q
    · exact ⟨[], by rw [show i = j + 1 by omega]; simp⟩
    · obtain ⟨r, e⟩ := ih q
      obtain ⟨r', e', _⟩ := addNew_pre (nx ((ordAt nx c0 j).getD j 0)) (ordAt nx c0 j)
      exact ⟨r ++ r', by show addNew _ _ = _; rw [e', e]; simp⟩
theorem idxOf_pre {o r : List Nat} {c : Nat} (h : c ∈ o) : (o ++ r).idxOf c = o.idxOf c := by
  rw [List.idxOf_append, if_pos h]

def nxC (rows : List Row) (cl : List Nat) (c : Nat) : List Nat := (rows.getD (cl.idxOf c) ([], [])).2.map fun s => cl.getD s 0
def dgC (rows : List Row) (cl : List Nat) (c : Nat) : List Nat := (rows.getD (cl.idxOf c) ([], [])).1
abbrev ordC (rows : List Row) (cl : List Nat) (n : Nat) : List Nat := ordAt (nxC rows cl) (cl.getD 0 0) n
def rowC (rows : List Row) (cl O : List Nat) (c : Nat) : Row := (dgC rows cl c, (nxC rows cl c).map fun d => O.idxOf d)
/-- what numbered gives -/
def IsNum (rows : List Row) (cl : List Nat) (F : List Row) : Prop :=
  ∃ n, (ordC rows cl n).length = n ∧ (∀ i, i < n → i < (ordC rows cl i).length) ∧ F = (ordC rows cl n).map (rowC rows cl (ordC rows cl n))

/-- the classes of rows: equal numbers exactly for rows that act alike -/
structure IsCl (k : Nat) (rows : List Row) (cl : List Nat) : Prop where
  len : cl.length = rows.length
  iff : ∀ i j, i < rows.length → j < rows.length → (cl.getD i 0 = cl.getD j 0 ↔ Bis k rows i j)

/-- the form of a word -/
def IsForm (k L : Nat) (ls : Nat → Nat → Nat × Nat) (u : List Nat) (F : List Row) : Prop :=
  ∃ Wl cl, Good k L ls u Wl ∧ IsCl k (rowsOf k ls Wl) cl ∧ IsNum (rowsOf k ls Wl) cl F

section
variable {k L : Nat} {ls : Nat → Nat → Nat × Nat}
theorem getD_idxOf {l : List Nat} {c : Nat} (h : c ∈ l) : l.getD (l.idxOf c) 0 = c := by
  have hl := List.idxOf_lt_length_of_mem h
  rw [List.getD, List.getElem?_eq_getElem hl, List.getElem_idxOf]
  rfl
theorem getD_mem {l : List Nat} {i : Nat} (h : i < l.length) : l.getD i 0 ∈ l := by
  rw [List.getD, List.getElem?_eq_getElem h]
  exact List.getElem_mem h
theorem getD_left {l r : List Nat} {i d : Nat} (h : i < l.length) : (l ++ r).getD i d = l.getD i d := by
  unfold List.getD
  rw [List.getElem?_append_left h]
theorem Bis.symm {rows : List Row} {i j : Nat} (h : Bis k rows i j) : Bis k rows j i := fun s hs => (h s hs).symm
theorem num_run {rows : List Row} {cl : List Nat} {F : List Row} (R : RowsOk k rows) (C : IsCl k rows cl) (hr : 0 < rows.length) (h : IsNum rows cl F) {s : List Nat} (hs : Dg k s) : frun F 0 s = frun rows 0 s := by
  obtain ⟨n, hn, hlt, rfl⟩ := h
  have npos : 0 < n := by
    rcases Nat.eq_zero_or_pos n with e | e
    · subst e; simp [ordAt] at hn
    · exact e
  -- every class of the order is a class
  have hcl : ∀ c ∈ ordC rows cl n, c ∈ cl := by
    refine ordAt_sub _ _ (· ∈ cl) (getD_mem (by rw [C.len]; exact hr)) (fun c hc d hd => ?_) n hlt
    obtain ⟨j, hj, rfl⟩ := List.mem_map.mp hd
    have hi := List.idxOf_lt_length_of_mem hc
    rw [C.len] at hi
    rw [List.getD, List.getElem?_eq_getElem hi] at hj
    exact getD_mem (by rw [C.len]; exact (R.nx _ (List.getElem_mem hi)).2 j hj)
  have hclosed : ∀ i, i < n → ∀ d ∈ nxC rows cl ((ordC rows cl n).getD i 0), d ∈ ordC rows cl n := by
    intro i hi d hd
    obtain ⟨r, e⟩ := ordAt_pre (nxC rows cl) (cl.getD 0 0) (show i + 1 ≤ n by omega)
    obtain ⟨r1, e1⟩ := ordAt_pre (nxC rows cl) (cl.getD 0 0) (show i ≤ n by omega)
    have e2 : (ordC rows cl n).getD i 0 = (ordC rows cl i).getD i 0 := by
      have := hlt i hi
      show (ordAt _ _ n).getD i 0 = _
      rw [e1]
      exact getD_left this
    rw [e2] at hd
    obtain ⟨r2, e3, m, _⟩ := addNew_pre (nxC rows cl ((ordC rows cl i).getD i 0)) (ordC rows cl i)
    show d ∈ ordAt _ _ n
    rw [e]
    refine List.mem_append_left _ ?_
    show d ∈ addNew _ _
    rw [e3]
    exact m d hd
  have main : ∀ s, Dg k s → ∀ i j, i < n → j < rows.length → cl.getD j 0 = (ordC rows cl n).getD i 0 → frun ((ordC rows cl n).map (rowC rows cl (ordC rows cl n))) i s = frun rows j s := by
    intro s
    induction s with
    | nil => intros; rfl
    | cons x s ih =>
      intro hs i j hi hj e
      have hx : x < k := hs x List.mem_cons_self
      have hs' : Dg k s := fun z hz => hs z (List.mem_cons_of_mem _ hz)
      have hiO : i < (ordC rows cl n).length := by rw [hn]; exact hi
      have hc : (ordC rows cl n).getD i 0 ∈ cl := hcl _ (getD_mem hiO)
      have hf := List.idxOf_lt_length_of_mem hc
      rw [C.len] at hf
      have hb : Bis k rows (cl.idxOf ((ordC rows cl n).getD i 0)) j := (C.iff _ _ hf hj).mp (by rw [getD_idxOf hc, e])
      rw [← hb (x :: s) hs]
      have eF : ((ordC rows cl n).map (rowC rows cl (ordC rows cl n))).getD i ([], []) = rowC rows cl (ordC rows cl n) ((ordC rows cl n).getD i 0) := by
        rw [List.getD, List.getElem?_map, List.getElem?_eq_getElem hiO]
        rw [List.getD, List.getElem?_eq_getElem hiO]
        rfl
      rw [frun, eF, frun]
      show dgC _ _ _ |>.getD x 0 |> fun d => d :: _ = _
      have e4 : (rows.getD (cl.idxOf ((ordC rows cl n).getD i 0)) ([], [])) ∈ rows := by
        rw [List.getD, List.getElem?_eq_getElem hf]; exact List.getElem_mem hf
      have e5 := R.nx _ e4
      generalize hrow : rows.getD (cl.idxOf ((ordC rows cl n).getD i 0)) ([], []) = row at e4 e5
      have hxl : x < row.2.length := by rw [e5.1]; exact hx
      have hj' : row.2.getD x 0 < rows.length := e5.2 _ (getD_mem hxl)
      have e6 : (rowC rows cl (ordC rows cl n) ((ordC rows cl n).getD i 0)).2.getD x 0 = (ordC rows cl n).idxOf (cl.getD (row.2.getD x 0) 0) := by
        unfold rowC nxC
        rw [hrow]
        simp [List.getD, List.getElem?_map, List.getElem?_eq_getElem hxl]
      have e7 : (rowC rows cl (ordC rows cl n) ((ordC rows cl n).getD i 0)).1 = row.1 := by
        unfold rowC dgC
        rw [hrow]
      have hmem : cl.getD (row.2.getD x 0) 0 ∈ ordC rows cl n := by
        refine hclosed i hi _ ?_
        unfold nxC
        rw [hrow]
        exact List.mem_map_of_mem (getD_mem hxl)
      rw [e6]
      have := ih hs' ((ordC rows cl n).idxOf (cl.getD (row.2.getD x 0) 0)) (row.2.getD x 0) (by have := List.idxOf_lt_length_of_mem hmem; rwa [hn] at this) hj' (getD_idxOf hmem).symm
      rw [this]
      show dgC rows cl _ |>.getD x 0 |> fun d => d :: _ = _
      unfold dgC
      rw [hrow]
  refine main s hs 0 0 npos hr ?_
  obtain ⟨r, e⟩ := ordAt_pre (nxC rows cl) (cl.getD 0 0) (Nat.zero_le n)
  show _ = (ordAt _ _ n).getD 0 0
  rw [e]
  rfl
end
end Lf
set_option Elab.async false
/-! The plain law, 3: equal words have equal forms, and back. -/
namespace Lf

/-! ### numberings of alike systems are the same -/
inductive All2 {α β : Type} (R : α → β → Prop) : List α → List β → Prop
  | nil : All2 R [] []
  | cons {a b l m} : R a b → All2 R l m → All2 R (a :: l) (b :: m)
section
variable {α β : Type} {R : α → β → Prop}
theorem All2.length {l : List α} {m : List β} (h : All2 R l m) : l.length = m.length := by
  induction h with
  | nil => rfl
  | cons _ _ ih => simp [ih]
theorem All2.append {l l' : List α} {m m' : List β} (h : All2 R l m) (h' : All2 R l' m') : All2 R (l ++ l') (m ++ m') := by
  induction h with
  | nil => exact h'
  | cons r _ ih => exact .cons r ih
theorem All2.map {γ δ : Type} {T : γ → δ → Prop} {f : α → γ} {g : β → δ} (hf : ∀ a b, R a b → T (f a) (g b)) {l : List α} {m : List β} (h : All2 R l m) : All2 T (l.map f) (m.map g) := by
  induction h with
  | nil => exact .nil
  | cons r _ ih => exact .cons (hf _ _ r) ih
theorem All2.eq_map {γ : Type} {f : α → γ} {g : β → γ} {l : List α} {m : List β} (h : All2 R l m) (hf : ∀ a b, a ∈ l → b ∈ m → R a b → f a = g b) : l.map f = m.map g := by
  induction h with
  | nil => rfl
  | cons r _ ih =>
    rw [List.map_cons, List.map_cons, hf _ _ List.mem_cons_self List.mem_cons_self r, ih fun a b ha hb => hf a b (List.mem_cons_of_mem _ ha) (List.mem_cons_of_mem _ hb)]
theorem All2.map2 {γ : Type} {f : γ → α} {g : γ → β} {l : List γ} (h : ∀ c ∈ l, R (f c) (g c)) : All2 R (l.map f) (l.map g) := by
  induction l with
  | nil => exact .nil
  | cons c l ih => exact .cons (h c List.mem_cons_self) (ih fun d hd => h d (List.mem_cons_of_mem _ hd))
theorem All2.mem_iff {l : List α} {m : List β} (h : All2 R l m) (one : ∀ a b a' b', R a b → R a' b' → (a = a' ↔ b = b')) {a : α} {b : β} (r : R a b) : a ∈ l ↔ b ∈ m := by
  induction h with
  | nil => exact ⟨fun h => (nomatch h), fun h => (nomatch h)⟩
  | cons r' _ ih => simp only [List.mem_cons, ih, one _ _ _ _ r r']
theorem All2.getD {l : List α} {m : List β} (h : All2 R l m) {i : Nat} (hi : i < l.length) (a : α) (b : β) : R (l.getD i a) (m.getD i b) := by
  induction h generalizing i with
  | nil => exact absurd hi (Nat.not_lt_zero _)
  | cons r _ ih =>
    cases i with
    | zero => exact r
    | succ i => exact ih (i := i) (by simpa using hi)
end
theorem All2.idxOf {R : Nat → Nat → Prop} {l m : List Nat} (h : All2 R l m) (one : ∀ a b a' b', R a b → R a' b' → (a = a' ↔ b = b')) {a b : Nat} (r : R a b) : l.idxOf a = m.idxOf b := by
  induction h with
  | nil => rfl
  | cons r' _ ih =>
    rw [List.idxOf_cons, List.idxOf_cons, ih]
    have e := one _ _ _ _ r' r
    rename_i a' b' _ _ _
    by_cases q : a' = a
    · have q' := e.mp q
      subst q; subst q'
      simp
    · have q' : b' ≠ b := fun z => q (e.mpr z)
      rw [beq_eq_false_iff_ne.mpr q, beq_eq_false_iff_ne.mpr q']
theorem All2.addNew {R : Nat → Nat → Prop} (one : ∀ a b a' b', R a b → R a' b' → (a = a' ↔ b = b')) {cs ds : List Nat} (hc : All2 R cs ds) : ∀ {o p : List Nat}, All2 R o p → All2 R (Lf.addNew o cs) (Lf.addNew p ds) := by
  induction hc with
  | nil => intro o p h; exact h
  | cons r _ ih =>
    intro o p h
    rename_i c d cs ds _
    show All2 R (Lf.addNew (if c ∈ o then o else o ++ [c]) cs) (Lf.addNew (if d ∈ p then p else p ++ [d]) ds)
    have e := h.mem_iff one r
    by_cases q : c ∈ o
    · rw [if_pos q, if_pos (e.mp q)]; exact ih h
    · rw [if_neg q, if_neg fun z => q (e.mpr z)]; exact ih (h.append (.cons r .nil))
theorem ordAt_alike {R : Nat → Nat → Prop} (one : ∀ a b a' b', R a b → R a' b' → (a = a' ↔ b = b')) {nx nx' : Nat → List Nat} {c d : Nat} (h0 : R c d) (hn : ∀ a b, R a b → All2 R (nx a) (nx' b)) (n : Nat)
    (hlt : ∀ i, i < n → i < (ordAt nx c i).length) : All2 R (ordAt nx c n) (ordAt nx' d n) := by
  induction n with
  | zero => exact .cons h0 .nil
  | succ n ih =>
    have h := ih fun i hi => hlt i (by omega)
    exact All2.addNew one (hn _ _ (h.getD (hlt n (by omega)) 0 0)) h

section
variable {k L : Nat} {ls : Nat → Nat → Nat × Nat}
/-- the classes of two words correspond if words in them are equal -/
def Cor (k : Nat) (ls : Nat → Nat → Nat × Nat) (Wl Wl' : List (List Nat)) (cl cl' : List Nat) (c d : Nat) : Prop :=
  ∃ i j v w, Wl[i]? = some v ∧ Wl'[j]? = some w ∧ cl.getD i 0 = c ∧ cl'.getD j 0 = d ∧ Eq' k ls v w
theorem lt_of_get {α : Type} {l : List α} {i : Nat} {a : α} (h : l[i]? = some a) : i < l.length := (List.getElem?_eq_some_iff.mp h).1
theorem rowsOf_len (Wl : List (List Nat)) : (rowsOf k ls Wl).length = Wl.length := by simp [rowsOf]
theorem Cor.one (S : LS k L ls) {u u' : List Nat} {Wl Wl' : List (List Nat)} {cl cl' : List Nat} (G : Good k L ls u Wl) (G' : Good k L ls u' Wl') (C : IsCl k (rowsOf k ls Wl) cl) (C' : IsCl k (rowsOf k ls Wl') cl') :
    ∀ a b a' b', Cor k ls Wl Wl' cl cl' a b → Cor k ls Wl Wl' cl cl' a' b' → (a = a' ↔ b = b') := by
  rintro a b a' b' ⟨i, j, v, w, h1, h2, rfl, rfl, e⟩ ⟨i', j', v', w', h1', h2', rfl, rfl, e'⟩
  rw [C.iff i i' (by rw [rowsOf_len]; exact lt_of_get h1) (by rw [rowsOf_len]; exact lt_of_get h1'), C'.iff j j' (by rw [rowsOf_len]; exact lt_of_get h2) (by rw [rowsOf_len]; exact lt_of_get h2'),
    G.bis S h1 h1', G'.bis S h2 h2']
  exact ⟨fun q => (e.symm.trans q).trans e', fun q => (e.trans q).trans e'.symm⟩
theorem nxC_at {Wl : List (List Nat)} {cl : List Nat} {c i : Nat} {v : List Nat} (hi : cl.idxOf c = i) (h : Wl[i]? = some v) : nxC (rowsOf k ls Wl) cl c = (List.range k).map fun x => cl.getD (Wl.idxOf (sec ls v x)) 0 := by
  unfold nxC
  rw [hi, rowsOf_get h]
  simp [rowOf, secs, Function.comp_def]
theorem dgC_at {Wl : List (List Nat)} {cl : List Nat} {c i : Nat} {v : List Nat} (hi : cl.idxOf c = i) (h : Wl[i]? = some v) : dgC (rowsOf k ls Wl) cl c = digs k ls v := by
  unfold dgC
  rw [hi, rowsOf_get h]
  rfl
/-- the first word of a class is equal to every word of it -/
theorem first_of (S : LS k L ls) {u : List Nat} {Wl : List (List Nat)} {cl : List Nat} (G : Good k L ls u Wl) (C : IsCl k (rowsOf k ls Wl) cl) {i : Nat} {v : List Nat} (h : Wl[i]? = some v) :
    ∃ v', Wl[cl.idxOf (cl.getD i 0)]? = some v' ∧ Eq' k ls v' v := by
  have hi : i < cl.length := by rw [C.len, rowsOf_len]; exact lt_of_get h
  have hm : cl.getD i 0 ∈ cl := getD_mem hi
  have hl := List.idxOf_lt_length_of_mem hm
  rw [C.len, rowsOf_len] at hl
  refine ⟨_, List.getElem?_eq_getElem hl, ?_⟩
  refine (G.bis S (List.getElem?_eq_getElem hl) h).mp ((C.iff _ _ (by rw [rowsOf_len]; exact hl) (by rw [rowsOf_len]; exact lt_of_get h)).mp ?_)
  exact getD_idxOf hm
theorem getElem?_idxOf {α : Type} [BEq α] [LawfulBEq α] {l : List α} {a : α} (h : a ∈ l) : l[l.idxOf a]? = some a := by
  rw [List.getElem?_eq_getElem (List.idxOf_lt_length_of_mem h), List.getElem_idxOf]
theorem Cor.rows (S : LS k L ls) {u u' : List Nat} {Wl Wl' : List (List Nat)} {cl cl' : List Nat} (G : Good k L ls u Wl) (G' : Good k L ls u' Wl') (C : IsCl k (rowsOf k ls Wl) cl) (C' : IsCl k (rowsOf k ls Wl') cl')
    {c d : Nat} (h : Cor k ls Wl Wl' cl cl' c d) : dgC (rowsOf k ls Wl) cl c = dgC (rowsOf k ls Wl') cl' d ∧ All2 (Cor k ls Wl Wl' cl cl') (nxC (rowsOf k ls Wl) cl c) (nxC (rowsOf k ls Wl') cl' d) := by
  obtain ⟨i, j, v, w, h1, h2, rfl, rfl, e⟩ := h
  obtain ⟨v', hv', ev⟩ := first_of S G C h1
  obtain ⟨w', hw', ew⟩ := first_of S G' C' h2
  have e' : Eq' k ls v' w' := (ev.trans e).trans ew.symm
  have wv : Wd L v' := G.wd _ (List.mem_of_getElem? hv')
  have ww : Wd L w' := G'.wd _ (List.mem_of_getElem? hw')
  rw [dgC_at rfl hv', dgC_at rfl hw', nxC_at rfl hv', nxC_at rfl hw']
  refine ⟨List.map_congr_left fun x hx => (e'.step x (List.mem_range.mp hx)).1, All2.map2 fun x hx => ?_⟩
  have hx := List.mem_range.mp hx
  have m1 := G.closed _ (List.mem_of_getElem? hv') _ (List.mem_of_getElem? (secs_get hx))
  have m2 := G'.closed _ (List.mem_of_getElem? hw') _ (List.mem_of_getElem? (secs_get hx))
  exact ⟨_, _, _, _, getElem?_idxOf m1, getElem?_idxOf m2, rfl, rfl, e'.sec S wv ww hx⟩

theorem IsForm.eq_of (S : LS k L ls) {u v : List Nat} {F F' : List Row} (hu : Wd L u) (hv : Wd L v) (h : IsForm k L ls u F) (h' : IsForm k L ls v F') (e : Eq' k ls u v) : F = F' := by
  obtain ⟨Wl, cl, G, C, n, hn, hlt, rfl⟩ := h
  obtain ⟨Wl', cl', G', C', n', hn', hlt', rfl⟩ := h'
  have one := Cor.one S G G' C C'
  have h0 : Cor k ls Wl Wl' cl cl' (cl.getD 0 0) (cl'.getD 0 0) := ⟨0, 0, _, _, G.first, G'.first, rfl, rfl, ((cut_eq S hu).trans e).trans (cut_eq S hv).symm⟩
  have hr := fun a b => @Cor.rows k L ls S u v Wl Wl' cl cl' G G' C C' a b
  have al := fun m => ordAt_alike one h0 (fun a b r => (hr a b r).2) m
  have en : n = n' := by
    rcases Nat.lt_trichotomy n n' with q | q | q
    · have h1 := (al n hlt).length
      have h2 := hlt' n q
      have h3 : (ordAt (nxC (rowsOf k ls Wl) cl) (cl.getD 0 0) n).length = n := hn
      have h4 : n < (ordAt (nxC (rowsOf k ls Wl') cl') (cl'.getD 0 0) n).length := h2
      omega
    · exact q
    · have h1 := (al n' fun i hi => hlt i (by omega)).length
      have h2 := hlt n' q
      have h3 : (ordAt (nxC (rowsOf k ls Wl') cl') (cl'.getD 0 0) n').length = n' := hn'
      have h4 : n' < (ordAt (nxC (rowsOf k ls Wl) cl) (cl.getD 0 0) n').length := h2
      omega
  subst en
  have A := al n hlt
  refine A.eq_map fun a b _ _ r => ?_
  obtain ⟨e1, e2⟩ := hr a b r
  unfold rowC
  rw [e1, e2.eq_map fun a b _ _ r => A.idxOf one r]
theorem IsForm.run (S : LS k L ls) {u : List Nat} {F : List Row} (hu : Wd L u) (h : IsForm k L ls u F) {s : List Nat} (hs : Dg k s) : frun F 0 s = Lf.run ls u s := by
  obtain ⟨Wl, cl, G, C, N⟩ := h
  rw [num_run G.rowsOk C (by rw [rowsOf_len]; exact lt_of_get G.first) N hs, G.frun S G.first hs]
  exact cut_eq S hu s hs
theorem IsForm.iff (S : LS k L ls) {u v : List Nat} {F F' : List Row} (hu : Wd L u) (hv : Wd L v) (h : IsForm k L ls u F) (h' : IsForm k L ls v F') : F = F' ↔ Eq' k ls u v := by
  constructor
  · rintro rfl s hs
    rw [← h.run S hu hs, ← h'.run S hv hs]
  · exact h.eq_of S hu hv h'
end

/-! ### counting -/
theorem nodup_of_sub {α : Type} [DecidableEq α] {l : List α} : ∀ {ks : List α}, ks.Nodup → (∀ a ∈ ks, a ∈ l) → l.length ≤ ks.length → l.Nodup := by
  induction l with
  | nil => intros; exact List.nodup_nil
  | cons a l ih =>
    intro ks hk hs hl
    have hn : a ∉ l := by
      intro ha
      have h1 : ks ⊆ l := fun b hb => (List.mem_cons.mp (hs b hb)).elim (fun e => e ▸ ha) id
      have := hk.length_le_of_subset h1
      simp at hl
      omega
    refine List.nodup_cons.mpr ⟨hn, ih (hk.erase a) (fun b hb => ?_) ?_⟩
    · have hb' := (hk.mem_erase_iff).mp hb
      exact (List.mem_cons.mp (hs b hb'.2)).resolve_left hb'.1
    · have := List.le_length_erase (a := a) (l := ks)
      simp at hl
      omega
theorem inj_of_nodup {α : Type} {f : α → Nat} {names : List α} (h : (names.map f).Nodup) {a b : α} (ha : a ∈ names) (hb : b ∈ names) (e : f a = f b) : a = b := by
  induction names with
  | nil => nomatch ha
  | cons c names ih =>
    rw [List.map_cons, List.nodup_cons] at h
    rcases List.mem_cons.mp ha with ha | ha
    · rcases List.mem_cons.mp hb with hb | hb
      · rw [ha, hb]
      · exact absurd (List.mem_map.mpr ⟨b, hb, by rw [← e, ha]⟩) h.1
    · rcases List.mem_cons.mp hb with hb | hb
      · exact absurd (List.mem_map.mpr ⟨a, ha, by rw [e, hb]⟩) h.1
      · exact ih h.2 ha hb
/-- names refine classes; no more names than classes: a class has one name -/
theorem names_of_count {α : Type} {names : List α} {f : α → Nat} {ks : List Nat} (hk : ks.Nodup) (hm : ∀ c ∈ ks, ∃ a ∈ names, f a = c) (hl : names.length ≤ ks.length) {a b : α} (ha : a ∈ names) (hb : b ∈ names) (e : f a = f b) : a = b :=
  inj_of_nodup (nodup_of_sub hk (fun c hc => by obtain ⟨a, h1, h2⟩ := hm c hc; exact List.mem_map.mpr ⟨a, h1, h2⟩) (by simpa using hl)) ha hb e
theorem count_le {α : Type} {names : List α} {f : α → Nat} {ks : List Nat} (hk : ks.Nodup) (hm : ∀ c ∈ ks, ∃ a ∈ names, f a = c) : ks.length ≤ names.length := by
  have h1 : ks ⊆ names.map f := fun c hc => by obtain ⟨a, h1, h2⟩ := hm c hc; exact List.mem_map.mpr ⟨a, h1, h2⟩
  simpa using hk.length_le_of_subset h1
end Lf
set_option Elab.async false
/-! The plain law, 4: refining classes; least words; what the law asks of rings. -/
namespace Lf

theorem getD_map {α β : Type} {f : α → β} {l : List α} {x : Nat} {d : β} {e : α} (h : x < l.length) : (l.map f).getD x d = f (l.getD x e) := by
  unfold List.getD
  rw [List.getElem?_map, List.getElem?_eq_getElem h]
  rfl

/-! ### refining classes -/
section
variable {k : Nat} {rows : List Row}
abbrev Name := Nat × List Nat × List Nat
def nameOf (rows : List Row) (cl : List Nat) (i : Nat) : Name := (cl.getD i 0, (rows.getD i ([], [])).1, (rows.getD i ([], [])).2.map fun s => cl.getD s 0)
structure PInv (k : Nat) (rows : List Row) (cl : List Nat) (count : Nat) : Prop where
  len : cl.length = rows.length
  snd : ∀ i j, i < rows.length → j < rows.length → Bis k rows i j → cl.getD i 0 = cl.getD j 0
  cnt : count = 0 ∨ ∃ ks : List Nat, ks.Nodup ∧ ks.length = count ∧ ∀ c ∈ ks, ∃ i, i < rows.length ∧ cl.getD i 0 = c
structure NInv (rows : List Row) (cl : List Nat) (n : Nat) (NK : List Name) (fol : List Nat) : Prop where
  nodup : NK.Nodup
  all : ∀ i, i < n → nameOf rows cl i ∈ NK
  one : ∀ a ∈ NK, ∃ i, i < n ∧ nameOf rows cl i = a
  fol : fol = (List.range n).map fun i => NK.idxOf (nameOf rows cl i)
theorem getD_row {i : Nat} (hi : i < rows.length) : rows.getD i ([], []) ∈ rows := by
  rw [List.getD, List.getElem?_eq_getElem hi]
  exact List.getElem_mem hi
theorem list_ext_getD {l m : List Nat} (h : l.length = m.length) (e : ∀ x, x < l.length → l.getD x 0 = m.getD x 0) : l = m := by
  refine List.ext_getElem h fun i h1 h2 => ?_
  have := e i h1
  simpa [List.getD, List.getElem?_eq_getElem h1, List.getElem?_eq_getElem h2] using this
theorem Bis.dig (R : RowsOk k rows) {i j : Nat} (hi : i < rows.length) (hj : j < rows.length) (h : Bis k rows i j) : (rows.getD i ([], [])).1 = (rows.getD j ([], [])).1 := by
  refine list_ext_getD (by rw [R.dig _ (getD_row hi), R.dig _ (getD_row hj)]) fun x hx => ?_
  rw [R.dig _ (getD_row hi)] at hx
  have := h [x] (fun y hy => by simp at hy; omega)
  simpa [frun] using this
theorem Bis.nx {i j : Nat} (h : Bis k rows i j) {x : Nat} (hx : x < k) : Bis k rows ((rows.getD i ([], [])).2.getD x 0) ((rows.getD j ([], [])).2.getD x 0) := fun s hs => by
  have := h (x :: s) (fun y hy => (List.mem_cons.mp hy).elim (fun e => e ▸ hx) (hs y))
  simp only [frun, List.cons.injEq] at this
  exact this.2
theorem Bis.name (R : RowsOk k rows) {cl : List Nat} {count : Nat} (I : PInv k rows cl count) {i j : Nat} (hi : i < rows.length) (hj : j < rows.length) (h : Bis k rows i j) : nameOf rows cl i = nameOf rows cl j := by
  unfold nameOf
  rw [I.snd i j hi hj h, Bis.dig R hi hj h]
  have ri := R.nx _ (getD_row hi)
  have rj := R.nx _ (getD_row hj)
  have e : (rows.getD i ([], [])).2.map (fun s => cl.getD s 0) = (rows.getD j ([], [])).2.map (fun s => cl.getD s 0) := by
    refine list_ext_getD (by rw [List.length_map, List.length_map, ri.1, rj.1]) fun x hx => ?_
    rw [List.length_map, ri.1] at hx
    have h1 : x < (rows.getD i ([], [])).2.length := by rw [ri.1]; exact hx
    have h2 : x < (rows.getD j ([], [])).2.length := by rw [rj.1]; exact hx
    have e1 : ((rows.getD i ([], [])).2.map (fun s => cl.getD s 0)).getD x 0 = cl.getD ((rows.getD i ([], [])).2.getD x 0) 0 := getD_map h1
    have e2 : ((rows.getD j ([], [])).2.map (fun s => cl.getD s 0)).getD x 0 = cl.getD ((rows.getD j ([], [])).2.getD x 0) 0 := getD_map h2
    rw [e1, e2]
    exact I.snd _ _ (ri.2 _ (getD_mem h1)) (rj.2 _ (getD_mem h2)) (h.nx hx)
  rw [e]
theorem name_bis (R : RowsOk k rows) {cl : List Nat} (st : ∀ i j, i < rows.length → j < rows.length → cl.getD i 0 = cl.getD j 0 → nameOf rows cl i = nameOf rows cl j) :
    ∀ s, Dg k s → ∀ i j, i < rows.length → j < rows.length → cl.getD i 0 = cl.getD j 0 → frun rows i s = frun rows j s := by
  intro s
  induction s with
  | nil => intros; rfl
  | cons x s ih =>
    intro hs i j hi hj e
    have hx : x < k := hs x List.mem_cons_self
    have n := st i j hi hj e
    unfold nameOf at n
    injection n with n1 n2
    injection n2 with n2 n3
    have ri := R.nx _ (getD_row hi)
    have rj := R.nx _ (getD_row hj)
    have h1 : x < (rows.getD i ([], [])).2.length := by rw [ri.1]; exact hx
    have h2 : x < (rows.getD j ([], [])).2.length := by rw [rj.1]; exact hx
    have e1 : ((rows.getD i ([], [])).2.map (fun s => cl.getD s 0)).getD x 0 = cl.getD ((rows.getD i ([], [])).2.getD x 0) 0 := getD_map h1
    have e2 : ((rows.getD j ([], [])).2.map (fun s => cl.getD s 0)).getD x 0 = cl.getD ((rows.getD j ([], [])).2.getD x 0) 0 := getD_map h2
    rw [frun, frun, n2]
    rw [ih (fun z hz => hs z (List.mem_cons_of_mem _ hz)) _ _ (ri.2 _ (getD_mem h1)) (rj.2 _ (getD_mem h2)) (by rw [← e1, ← e2, n3])]
theorem NInv.pos {cl : List Nat} {n : Nat} {NK : List Name} {fol : List Nat} (N : NInv rows cl n NK fol) (h : 0 < n) : 0 < NK.length := List.length_pos_of_mem (N.all 0 h)
theorem NInv.hit {cl : List Nat} {NK : List Name} {fol : List Nat} (N : NInv rows cl rows.length NK fol) {ks : List Nat} (h : ∀ c ∈ ks, ∃ i, i < rows.length ∧ cl.getD i 0 = c) : ∀ c ∈ ks, ∃ a ∈ NK, a.1 = c := fun c hc => by
  obtain ⟨i, hi, e⟩ := h c hc
  exact ⟨_, N.all i hi, e⟩
theorem part_done (R : RowsOk k rows) (h0 : 0 < rows.length) {cl : List Nat} {count : Nat} {NK : List Name} {fol : List Nat} (I : PInv k rows cl count) (N : NInv rows cl rows.length NK fol) (e : NK.length = count) : IsCl k rows cl where
  len := I.len
  iff := fun i j hi hj => by
    refine ⟨fun q => ?_, I.snd i j hi hj⟩
    have np := N.pos h0
    rcases I.cnt with z | ⟨ks, h1, h2, h3⟩
    · omega
    · intro s hs
      refine name_bis R (fun i j hi hj q => ?_) s hs i j hi hj q
      exact names_of_count (f := fun a : Name => a.1) h1 (N.hit h3) (by omega) (N.all i hi) (N.all j hj) q
theorem NInv.fol_get {cl : List Nat} {n : Nat} {NK : List Name} {fol : List Nat} (N : NInv rows cl n NK fol) {i : Nat} (h : i < n) : fol.getD i 0 = NK.idxOf (nameOf rows cl i) := by
  rw [N.fol]
  simp [List.getD, h]
theorem part_step (R : RowsOk k rows) (h0 : 0 < rows.length) {cl : List Nat} {count : Nat} {NK : List Name} {fol : List Nat} (I : PInv k rows cl count) (N : NInv rows cl rows.length NK fol) (e : NK.length ≠ count) :
    PInv k rows fol NK.length ∧ count < NK.length ∧ NK.length ≤ rows.length := by
  refine ⟨⟨by rw [N.fol]; simp, fun i j hi hj h => ?_, .inr ⟨List.range NK.length, List.nodup_range, by simp, fun c hc => ?_⟩⟩, ?_, ?_⟩
  · rw [N.fol_get hi, N.fol_get hj, h.name R I hi hj]
  · have hc := List.mem_range.mp hc
    obtain ⟨i, hi, e⟩ := N.one _ (List.getElem_mem hc)
    refine ⟨i, hi, ?_⟩
    rw [N.fol_get hi, e]
    exact N.nodup.idxOf_getElem c hc
  · have np := N.pos h0
    rcases I.cnt with z | ⟨ks, h1, h2, h3⟩
    · omega
    · have := count_le (f := fun a : Name => a.1) h1 (N.hit h3)
      omega
  · have h1 : NK ⊆ (List.range rows.length).map (nameOf rows cl) := fun a ha => by
      obtain ⟨i, hi, e⟩ := N.one a ha
      exact List.mem_map.mpr ⟨i, List.mem_range.mpr hi, e⟩
    simpa using N.nodup.length_le_of_subset h1
/-- one more row -/
theorem NInv.next {cl : List Nat} {n : Nat} {NK : List Name} {fol : List Nat} (N : NInv rows cl n NK fol) :
    (nameOf rows cl n ∈ NK → NInv rows cl (n + 1) NK (fol ++ [NK.idxOf (nameOf rows cl n)])) ∧
    (nameOf rows cl n ∉ NK → NInv rows cl (n + 1) (NK ++ [nameOf rows cl n]) (fol ++ [NK.length])) := by
  refine ⟨fun h => ⟨N.nodup, fun i hi => ?_, fun a ha => ?_, ?_⟩, fun h => ⟨?_, fun i hi => ?_, fun a ha => ?_, ?_⟩⟩
  · rcases Nat.lt_or_ge i n with q | q
    · exact N.all i q
    · rw [show i = n by omega]; exact h
  · obtain ⟨i, hi, e⟩ := N.one a ha
    exact ⟨i, by omega, e⟩
  · rw [List.range_succ, List.map_append, ← N.fol]; rfl
  · refine List.nodup_append.mpr ⟨N.nodup, by simp, fun a ha b hb e => ?_⟩
    simp at hb
    rw [e, hb] at ha
    exact h ha
  · rcases Nat.lt_or_ge i n with q | q
    · exact List.mem_append_left _ (N.all i q)
    · rw [show i = n by omega]; simp
  · rcases List.mem_append.mp ha with ha | ha
    · obtain ⟨i, hi, e⟩ := N.one a ha
      exact ⟨i, by omega, e⟩
    · simp at ha
      exact ⟨n, by omega, ha.symm⟩
  · rw [List.range_succ, List.map_append]
    have e1 : (List.range n).map (fun i => (NK ++ [nameOf rows cl n]).idxOf (nameOf rows cl i)) = fol := by
      rw [N.fol]
      refine List.map_congr_left fun i hi => ?_
      rw [List.idxOf_append, if_pos (N.all i (List.mem_range.mp hi))]
    rw [e1]
    simp [List.idxOf_append, h]
theorem NInv.zero {cl : List Nat} : NInv rows cl 0 [] [] := ⟨List.nodup_nil, fun i h => absurd h (Nat.not_lt_zero _), fun a h => (nomatch h), rfl⟩
end

/-! ### words by their numbers -/
def code (L : Nat) (w : List Nat) : Nat := w.foldl (fun n c => n * L + c + 1) 0
def gl (L : Nat) : Nat → Nat
  | 0 => 0
  | n + 1 => gl L n * L + 1
theorem code_nil (L : Nat) : code L [] = 0 := rfl
theorem code_snoc (L : Nat) (w : List Nat) (c : Nat) : code L (w ++ [c]) = code L w * L + c + 1 := by simp [code]
theorem snoc_ind {P : List Nat → Prop} (h0 : P []) (h1 : ∀ w c, P w → P (w ++ [c])) (w : List Nat) : P w := by
  have : ∀ n (w : List Nat), w.length = n → P w := by
    intro n
    induction n with
    | zero => intro w h; rw [List.eq_nil_of_length_eq_zero h]; exact h0
    | succ n ih =>
      intro w h
      have hne : w ≠ [] := fun e => by rw [e] at h; simp at h
      rw [← List.dropLast_concat_getLast hne]
      exact h1 _ _ (ih _ (by simp [h]))
  exact this _ w rfl
theorem code_ge (L : Nat) (w : List Nat) : gl L w.length ≤ code L w := by
  induction w using snoc_ind with
  | h0 => exact Nat.zero_le _
  | h1 w c ih =>
    rw [code_snoc, List.length_append, List.length_singleton, gl]
    have := Nat.mul_le_mul_right L ih
    omega
theorem code_le {L : Nat} {w : List Nat} (hw : Wd L w) : code L w ≤ gl L w.length * L := by
  induction w using snoc_ind with
  | h0 => exact Nat.zero_le _
  | h1 w c ih =>
    rw [code_snoc, List.length_append, List.length_singleton, gl]
    have h1 := Nat.mul_le_mul_right L (ih hw.left)
    have h2 : c < L := hw.right c (by simp)
    rw [Nat.add_mul]
    omega
theorem gl_mono {L n m : Nat} (hL : 0 < L) (h : n ≤ m) : gl L n ≤ gl L m := by
  induction h with
  | refl => exact Nat.le_refl _
  | step _ ih =>
    rw [gl]
    have := Nat.le_mul_of_pos_right (gl L ‹Nat›) hL
    omega
theorem code_len {L : Nat} (hL : 0 < L) {u v : List Nat} (hu : Wd L u) (h : code L v ≤ code L u) : v.length ≤ u.length := by
  rcases Nat.lt_or_ge u.length v.length with q | q
  · have h1 := code_le hu
    have h2 : gl L (u.length + 1) ≤ gl L v.length := gl_mono hL q
    rw [gl] at h2
    have h3 := code_ge L v
    omega
  · exact q
theorem code_lt_of_len {L : Nat} (hL : 0 < L) {u v : List Nat} (hv : Wd L v) (h : v.length < u.length) : code L v < code L u := by
  rcases Nat.lt_or_ge (code L v) (code L u) with q | q
  · exact q
  · have := code_len hL hv q
    omega
theorem code_inj {L : Nat} (hL : 0 < L) {u : List Nat} : ∀ {v : List Nat}, Wd L u → Wd L v → code L u = code L v → u = v := by
  induction u using snoc_ind with
  | h0 =>
    intro v _ hv e
    have := code_len hL (u := []) Wd.nil (v := v) (by omega)
    exact (List.eq_nil_of_length_eq_zero (by simpa using this)).symm
  | h1 u c ih =>
    intro v hu hv e
    have h1 := code_len hL hu (v := v) (by omega)
    have h2 := code_len hL hv (v := u ++ [c]) (by omega)
    have hne : v ≠ [] := fun z => by rw [z] at h2; simp at h2
    rw [← List.dropLast_concat_getLast hne] at e hv ⊢
    rw [code_snoc, code_snoc] at e
    have hc : c < L := hu.right c (by simp)
    have hd : v.getLast hne < L := hv.right _ (by simp)
    have e1 : (code L u * L + c) / L = (code L v.dropLast * L + v.getLast hne) / L := by rw [show code L u * L + c = code L v.dropLast * L + v.getLast hne by omega]
    rw [Nat.mul_comm (code L u), Nat.mul_comm (code L v.dropLast), Nat.mul_add_div hL, Nat.mul_add_div hL, Nat.div_eq_of_lt hc, Nat.div_eq_of_lt hd] at e1
    have e2 : code L u = code L v.dropLast := by omega
    have e3 : c = v.getLast hne := by rw [e2] at e; omega
    rw [ih hu.left hv.left e2, e3]
theorem code_cons (L : Nat) (a : Nat) (w : List Nat) : code L (a :: w) = (a + 1) * L ^ w.length + code L w := by
  induction w using snoc_ind with
  | h0 => simp [code]
  | h1 w c ih =>
    rw [← List.cons_append, code_snoc, code_snoc, ih, List.length_append, List.length_singleton, Nat.pow_succ, Nat.add_mul, Nat.mul_assoc]
    omega
theorem code_cons_lt {L : Nat} (hL : 0 < L) {a : Nat} {u v : List Nat} (hu : Wd L u) (h : code L v < code L u) : code L (a :: v) < code L (a :: u) := by
  rw [code_cons, code_cons]
  have h1 := code_len hL hu (v := v) (by omega)
  have h2 := Nat.mul_le_mul_left (a + 1) (Nat.pow_le_pow_right hL h1)
  omega
theorem code_snoc_lt {L : Nat} (hL : 0 < L) {c : Nat} {u v : List Nat} (h : code L v < code L u) : code L (v ++ [c]) < code L (u ++ [c]) := by
  rw [code_snoc, code_snoc]
  have := Nat.mul_lt_mul_of_pos_right h hL
  omega

end Lf
set_option Elab.async false
/-! The plain law, 5: least words, rings, what the law asks. -/
namespace Lf
def Least (k L : Nat) (ls : Nat → Nat → Nat × Nat) (u : List Nat) : Prop := ∀ v, Wd L v → code L v < code L u → ¬ Eq' k ls v u
section
variable {k L : Nat} {ls : Nat → Nat → Nat × Nat}
theorem least_nil : Least k L ls [] := fun _ _ h => absurd h (Nat.not_lt_zero _)
theorem Least.init (S : LS k L ls) {u : List Nat} {c : Nat} (hc : c < L) (h : Least k L ls (u ++ [c])) : Least k L ls u := fun v hv hlt e =>
  h (v ++ [c]) (hv.append (Wd.one hc)) (code_snoc_lt (by omega) hlt) (Eq'.append S e (.refl _) hv)
theorem Least.tail (S : LS k L ls) {u : List Nat} {a : Nat} (hu : Wd L (a :: u)) (h : Least k L ls (a :: u)) : Least k L ls u := fun v hv hlt e =>
  h (a :: v) (Wd.cons hu.head hv) (code_cons_lt (by have := hu.head; omega) hu.tail hlt) (Eq'.append S (.refl [a]) e (Wd.one hu.head))
theorem Least.left (S : LS k L ls) {u v : List Nat} (hw : Wd L (u ++ v)) (h : Least k L ls (u ++ v)) : Least k L ls u := by
  induction v using snoc_ind with
  | h0 => simpa using h
  | h1 v c ih =>
    rw [← List.append_assoc] at h hw
    exact ih hw.left (Least.init S (hw.right c (by simp)) h)
theorem Least.right (S : LS k L ls) {u v : List Nat} (hw : Wd L (u ++ v)) (h : Least k L ls (u ++ v)) : Least k L ls v := by
  induction u with
  | nil => exact h
  | cons a u ih => exact ih (Wd.tail hw) (Least.tail S hw h)
theorem exists_least (u : List Nat) (hu : Wd L u) : ∃ v, Wd L v ∧ Least k L ls v ∧ Eq' k ls v u ∧ code L v ≤ code L u := by
  have : ∀ n u, Wd L u → code L u = n → ∃ v, Wd L v ∧ Least k L ls v ∧ Eq' k ls v u ∧ code L v ≤ code L u := by
    intro n
    induction n using Nat.strongRecOn with
    | ind n ih =>
      intro u hu e
      by_cases h : Least k L ls u
      · exact ⟨u, hu, h, .refl u, Nat.le_refl _⟩
      · obtain ⟨v, h⟩ := Classical.not_forall.mp h
        obtain ⟨hv, h⟩ := Classical.not_imp.mp h
        obtain ⟨hlt, h⟩ := Classical.not_imp.mp h
        have h := Classical.not_not.mp h
        obtain ⟨w, h1, h2, h3, h4⟩ := ih (code L v) (by omega) v hv rfl
        exact ⟨w, h1, h2, h3.trans h, by omega⟩
  exact this _ u hu rfl
theorem Least.inj (hL : 0 < L) {u v : List Nat} (hu : Wd L u) (hv : Wd L v) (h : Least k L ls u) (h' : Least k L ls v) (e : Eq' k ls u v) : u = v := by
  rcases Nat.lt_trichotomy (code L u) (code L v) with q | q | q
  · exact absurd e (h' u hu q)
  · exact code_inj hL hu hv q
  · exact absurd e.symm (h v hv q)
theorem Least.cut_len (S : LS k L ls) (hL : 0 < L) {u : List Nat} (hu : Wd L u) (h : Least k L ls u) : (cut u).length = u.length := by
  have h1 := Lf.cut_len u
  rcases Nat.lt_or_ge (cut u).length u.length with q | q
  · exact absurd (cut_eq S hu) (h _ (cut_wd hu) (code_lt_of_len hL (cut_wd hu) q))
  · omega
theorem Least.red (S : LS k L ls) {u : List Nat} : Wd L u → Least k L ls u → Red u := by
  induction u using snoc_ind with
  | h0 => intros; exact .nil
  | h1 w c ih =>
    intro hu h
    have hc : c < L := hu.right c (by simp)
    refine .snoc (ih hu.left (h.init S hc)) fun e => ?_
    have e' := getLast?_snoc_dropLast e
    have hw : Wd L w := hu.left
    have hd : Wd L w.dropLast := fun d hd => hw d (List.dropLast_subset _ hd)
    refine h w.dropLast hd (code_lt_of_len (by omega) hd (by simp; omega)) ?_
    intro s hs
    have e2 : w ++ [c] = w.dropLast ++ [oth c, oth (oth c)] := by
      rw [oth_oth]
      conv => lhs; rw [e']
      simp
    rw [e2, run_append, run_pair S (oth_lt S.even hc) (run_dg S hd hs)]

/-! ### rings -/
open Classical in
noncomputable def kidsTo (k L : Nat) (ls : Nat → Nat → Nat × Nat) (w : List Nat) (n : Nat) : List (List Nat) := ((List.range n).filter fun c => decide (Least k L ls (w ++ [c]))).map fun c => w ++ [c]
noncomputable abbrev kids (k L : Nat) (ls : Nat → Nat → Nat × Nat) (w : List Nat) : List (List Nat) := kidsTo k L ls w L
noncomputable def rg (k L : Nat) (ls : Nat → Nat → Nat × Nat) : Nat → List (List Nat)
  | 0 => [[]]
  | n + 1 => (rg k L ls n).flatMap (kids k L ls)
/-- the ball -/
noncomputable def bl (k L : Nat) (ls : Nat → Nat → Nat × Nat) (n : Nat) : List (List Nat) := (List.range (n + 1)).flatMap (rg k L ls)
theorem kidsTo_zero (w : List Nat) : kidsTo k L ls w 0 = [] := rfl
theorem kidsTo_yes {w : List Nat} {c : Nat} (h : Least k L ls (w ++ [c])) : kidsTo k L ls w (c + 1) = kidsTo k L ls w c ++ [w ++ [c]] := by
  unfold kidsTo
  rw [List.range_succ, List.filter_append, List.map_append]
  simp [h]
theorem kidsTo_no {w : List Nat} {c : Nat} (h : ¬ Least k L ls (w ++ [c])) : kidsTo k L ls w (c + 1) = kidsTo k L ls w c := by
  unfold kidsTo
  rw [List.range_succ, List.filter_append, List.map_append]
  simp [h]
theorem mem_kidsTo {w v : List Nat} {n : Nat} : v ∈ kidsTo k L ls w n ↔ ∃ c, c < n ∧ Least k L ls (w ++ [c]) ∧ v = w ++ [c] := by
  unfold kidsTo
  simp only [List.mem_map, List.mem_filter, List.mem_range, decide_eq_true_eq]
  exact ⟨fun ⟨c, ⟨h1, h2⟩, e⟩ => ⟨c, h1, h2, e.symm⟩, fun ⟨c, h1, h2, e⟩ => ⟨c, ⟨h1, h2⟩, e.symm⟩⟩
theorem mem_rg (S : LS k L ls) {n : Nat} {w : List Nat} : w ∈ rg k L ls n ↔ Wd L w ∧ w.length = n ∧ Least k L ls w := by
  induction n generalizing w with
  | zero =>
    simp only [rg, List.mem_singleton]
    exact ⟨fun e => by subst e; exact ⟨Wd.nil, rfl, least_nil⟩, fun h => List.eq_nil_of_length_eq_zero h.2.1⟩
  | succ n ih =>
    simp only [rg, List.mem_flatMap, mem_kidsTo]
    constructor
    · rintro ⟨v, hv, c, hc, h, rfl⟩
      obtain ⟨h1, h2, h3⟩ := ih.mp hv
      exact ⟨h1.append (Wd.one hc), by simp [h2], h⟩
    · rintro ⟨h1, h2, h3⟩
      have hne : w ≠ [] := fun z => by rw [z] at h2; simp at h2
      have e := List.dropLast_concat_getLast hne
      rw [← e] at h1 h3
      have hc : w.getLast hne < L := h1.right _ (by simp)
      exact ⟨w.dropLast, ih.mpr ⟨h1.left, by simp [h2], h3.init S hc⟩, w.getLast hne, hc, h3, e.symm⟩
theorem mem_bl (S : LS k L ls) {n : Nat} {w : List Nat} : w ∈ bl k L ls n ↔ Wd L w ∧ w.length ≤ n ∧ Least k L ls w := by
  unfold bl
  simp only [List.mem_flatMap, List.mem_range, mem_rg S]
  exact ⟨fun ⟨i, h1, h2, h3, h4⟩ => ⟨h2, by omega, h4⟩, fun ⟨h1, h2, h3⟩ => ⟨w.length, by omega, h1, rfl, h3⟩⟩
theorem bl_succ (n : Nat) : bl k L ls (n + 1) = bl k L ls n ++ rg k L ls (n + 1) := by
  unfold bl
  rw [List.range_succ, List.flatMap_append]
  simp
theorem bl_zero : bl k L ls 0 = [[]] := by simp [bl, rg]

/-- in order -/
abbrev Inc (L : Nat) (l : List (List Nat)) : Prop := l.Pairwise fun u v => code L u < code L v
theorem kidsTo_inc (w : List Nat) (n : Nat) : Inc L (kidsTo k L ls w n) := by
  unfold kidsTo
  refine List.pairwise_map.mpr ((List.pairwise_lt_range (n := n)).filter _ |>.imp fun {a b} h => ?_)
  rw [code_snoc, code_snoc]
  omega
theorem rg_inc (S : LS k L ls) (n : Nat) : Inc L (rg k L ls n) := by
  induction n with
  | zero => simp [rg, Inc]
  | succ n ih =>
    show Inc L ((rg k L ls n).flatMap _)
    refine List.pairwise_flatMap.mpr ⟨fun w _ => kidsTo_inc w L, ih.imp fun {u v} h a ha b hb => ?_⟩
    obtain ⟨c, hc, _, rfl⟩ := mem_kidsTo.mp ha
    obtain ⟨d, hd, _, rfl⟩ := mem_kidsTo.mp hb
    rw [code_snoc, code_snoc]
    have : (code L u + 1) * L ≤ code L v * L := Nat.mul_le_mul_right L h
    rw [Nat.add_mul] at this
    omega
theorem bl_inc (S : LS k L ls) (n : Nat) : Inc L (bl k L ls n) := by
  unfold bl
  refine List.pairwise_flatMap.mpr ⟨fun i _ => rg_inc S i, (List.pairwise_lt_range (n := n + 1)).imp fun {i j} h a ha b hb => ?_⟩
  obtain ⟨h1, h2, _⟩ := (mem_rg S).mp ha
  obtain ⟨h3, h4, _⟩ := (mem_rg S).mp hb
  rcases Nat.eq_zero_or_pos L with z | z
  · subst z
    have : b = [] := by
      cases b with
      | nil => rfl
      | cons c b => exact absurd h3.head (Nat.not_lt_zero _)
    subst this
    simp at h4
    omega
  · exact code_lt_of_len z h1 (by omega)
theorem Inc.nodup {l : List (List Nat)} (h : Inc L l) : l.Nodup := h.imp fun {u v} h e => by rw [e] at h; exact absurd h (Nat.lt_irrefl _)
theorem Inc.before {l : List (List Nat)} (h : Inc L l) {i : Nat} {w v : List Nat} (hi : l[i]? = some w) (hv : v ∈ l) (hlt : code L v < code L w) : v ∈ l.take i := by
  obtain ⟨j, hj, rfl⟩ := List.getElem_of_mem hv
  obtain ⟨hi', rfl⟩ := List.getElem?_eq_some_iff.mp hi
  rcases Nat.lt_or_ge j i with q | q
  · exact List.mem_iff_getElem.mpr ⟨j, by simp; omega, by simp⟩
  · rcases Nat.lt_or_ge i j with p | p
    · have := List.pairwise_iff_getElem.mp h i j hi' hj p
      omega
    · have : i = j := by omega
      subst this
      exact absurd hlt (Nat.lt_irrefl _)
/-- what the ball holds ahead of the word w c, w the i-th word of the last ring -/
noncomputable def ahead (k L : Nat) (ls : Nat → Nat → Nat × Nat) (n i : Nat) (w : List Nat) (c : Nat) : List (List Nat) := bl k L ls n ++ (((rg k L ls n).take i).flatMap (kids k L ls) ++ kidsTo k L ls w c)
theorem ahead_wd (S : LS k L ls) {n i : Nat} {w : List Nat} {c : Nat} (hi : (rg k L ls n)[i]? = some w) (hc : c < L) : ∀ v ∈ ahead k L ls n i w c, Wd L v ∧ v.length ≤ n + 1 ∧ Least k L ls v ∧ code L v < code L (w ++ [c]) := by
  obtain ⟨w1, w2, w3⟩ := (mem_rg S).mp (List.mem_of_getElem? hi)
  intro v hv
  unfold ahead at hv
  rcases List.mem_append.mp hv with hv | hv
  · obtain ⟨h1, h2, h3⟩ := (mem_bl S).mp hv
    exact ⟨h1, by omega, h3, code_lt_of_len (by omega) h1 (by simp; omega)⟩
  · rcases List.mem_append.mp hv with hv | hv
    · obtain ⟨u, hu, hv⟩ := List.mem_flatMap.mp hv
      obtain ⟨d, hd, hl, rfl⟩ := mem_kidsTo.mp hv
      have hu' := List.mem_of_mem_take hu
      obtain ⟨h1, h2, h3⟩ := (mem_rg S).mp hu'
      refine ⟨h1.append (Wd.one hd), by simp; omega, hl, ?_⟩
      obtain ⟨j, hj, rfl⟩ := List.getElem_of_mem hu
      obtain ⟨hi', rfl⟩ := List.getElem?_eq_some_iff.mp hi
      simp only [List.length_take] at hj
      have := List.pairwise_iff_getElem.mp (rg_inc S n) j i (by omega) hi' (by omega)
      rw [List.getElem_take, code_snoc, code_snoc]
      have h5 : (code L (rg k L ls n)[j] + 1) * L ≤ code L (rg k L ls n)[i] * L := Nat.mul_le_mul_right L this
      rw [Nat.add_mul] at h5
      omega
    · obtain ⟨d, hd, hl, rfl⟩ := mem_kidsTo.mp hv
      refine ⟨w1.append (Wd.one (by omega)), by simp; omega, hl, ?_⟩
      rw [code_snoc, code_snoc]
      omega
theorem ahead_all (S : LS k L ls) {n i : Nat} {w : List Nat} {c : Nat} (hi : (rg k L ls n)[i]? = some w) (hc : c < L) {v : List Nat} (hv : Wd L v) (hl : Least k L ls v) (hlt : code L v < code L (w ++ [c])) : v ∈ ahead k L ls n i w c := by
  obtain ⟨w1, w2, w3⟩ := (mem_rg S).mp (List.mem_of_getElem? hi)
  have h1 := code_len (by omega) (w1.append (Wd.one hc)) (Nat.le_of_lt hlt)
  rw [List.length_append, List.length_singleton, w2] at h1
  unfold ahead
  rcases Nat.lt_or_ge v.length (n + 1) with q | q
  · exact List.mem_append_left _ ((mem_bl S).mpr ⟨hv, by omega, hl⟩)
  · refine List.mem_append_right _ ?_
    have hne : v ≠ [] := fun z => by rw [z] at q; simp at q
    have e := List.dropLast_concat_getLast hne
    rw [← e] at hv hl hlt ⊢
    generalize v.dropLast = u at *
    generalize v.getLast hne = d at *
    have hd : d < L := hv.right d (by simp)
    have hul : u.length = n := by
      have := congrArg List.length e
      simp at this
      omega
    have hu : u ∈ rg k L ls n := (mem_rg S).mpr ⟨hv.left, hul, hl.init S hd⟩
    rw [code_snoc, code_snoc] at hlt
    rcases Nat.lt_trichotomy (code L u) (code L w) with p | p | p
    · exact List.mem_append_left _ (List.mem_flatMap.mpr ⟨u, (rg_inc S n).before hi hu p, mem_kidsTo.mpr ⟨d, hd, hl, rfl⟩⟩)
    · have := code_inj (by omega) hv.left w1 p
      subst this
      exact List.mem_append_right _ (mem_kidsTo.mpr ⟨d, by omega, hl, rfl⟩)
    · have h5 : (code L w + 1) * L ≤ code L u * L := Nat.mul_le_mul_right L p
      rw [Nat.add_mul] at h5
      omega
/-- the test of the ball's loop -/
theorem least_iff (S : LS k L ls) {n i : Nat} {w : List Nat} {c : Nat} (hi : (rg k L ls n)[i]? = some w) (hc : c < L) : Least k L ls (w ++ [c]) ↔ (cut (w ++ [c])).length = (w ++ [c]).length ∧ ∀ v ∈ ahead k L ls n i w c, ¬ Eq' k ls v (w ++ [c]) := by
  obtain ⟨w1, w2, w3⟩ := (mem_rg S).mp (List.mem_of_getElem? hi)
  have hw := w1.append (Wd.one hc)
  constructor
  · intro h
    refine ⟨h.cut_len S (by omega) hw, fun v hv => ?_⟩
    obtain ⟨h1, _, _, h2⟩ := ahead_wd S hi hc v hv
    exact h v h1 h2
  · rintro ⟨_, h⟩ v hv hlt e
    obtain ⟨u, h1, h2, h3, h4⟩ := exists_least (k := k) (ls := ls) v hv
    exact h u (ahead_all S hi hc h1 h2 (by omega)) (h3.trans e)
end
end Lf
set_option Elab.async false
/-! The plain law, 6: what the law asks. -/
namespace Lf
theorem oth_range_len {L d : Nat} (hL : L % 2 = 0) (hd : d < L) {w : List Nat} (hw : w.getLast? = some d) : ((List.range L).filter fun c => w.getLast? != some (oth c)).length ≤ L - 1 := by
  have h1 : ((List.range L).filter fun c => w.getLast? != some (oth c)).Nodup := List.nodup_range.filter _
  have h2 : ((List.range L).filter fun c => w.getLast? != some (oth c)) ⊆ (List.range L).erase (oth d) := fun c hc => by
    obtain ⟨h3, h4⟩ := List.mem_filter.mp hc
    refine (List.nodup_range.mem_erase_iff).mpr ⟨fun e => ?_, h3⟩
    rw [hw, e, oth_oth] at h4
    simp at h4
  have h3 := h1.length_le_of_subset h2
  rw [List.length_erase_of_mem (List.mem_range.mpr (oth_lt hL hd)), List.length_range] at h3
  exact h3
theorem flatMap_len {α β : Type} {f : α → List β} {m : Nat} : ∀ {l : List α}, (∀ a ∈ l, (f a).length ≤ m) → (l.flatMap f).length ≤ l.length * m := by
  intro l
  induction l with
  | nil => intro _; simp
  | cons a l ih =>
    intro h
    have h1 := h a List.mem_cons_self
    have h2 := ih fun b hb => h b (List.mem_cons_of_mem _ hb)
    rw [List.flatMap_cons, List.length_append, List.length_cons, Nat.add_mul]
    omega
theorem redW_len {L : Nat} (hL : L % 2 = 0) : ∀ n, (redW L (n + 1)).length ≤ L * (L - 1) ^ n := by
  intro n
  induction n with
  | zero =>
    have := List.length_filter_le (fun c => (none : Option Nat) != some (oth c)) (List.range L)
    rw [List.length_range] at this
    simpa [redW] using this
  | succ n ih =>
    have h : (redW L (n + 2)).length ≤ (redW L (n + 1)).length * (L - 1) := by
      show ((redW L (n + 1)).flatMap _).length ≤ _
      refine flatMap_len fun w hw => ?_
      obtain ⟨h1, h2, h3⟩ := mem_redW.mp hw
      rw [List.length_map]
      have hne : w ≠ [] := fun z => by rw [z] at h3; simp at h3
      exact oth_range_len hL (h2 _ (List.getLast_mem hne)) (List.getLast?_eq_some_getLast hne)
    refine Nat.le_trans h ?_
    rw [Nat.pow_succ, ← Nat.mul_assoc]
    exact Nat.mul_le_mul_right _ ih
/-- all reduced words of at most n letters -/
def allRed (L n : Nat) : List (List Nat) := (List.range (n + 1)).flatMap (redW L)
theorem mem_allRed {L n : Nat} {w : List Nat} (h1 : Red w) (h2 : Wd L w) (h3 : w.length ≤ n) : w ∈ allRed L n :=
  List.mem_flatMap.mpr ⟨w.length, List.mem_range.mpr (by omega), mem_redW.mpr ⟨h1, h2, rfl⟩⟩
theorem redW_len_eq {n : Nat} {b : Nat} {L : Nat} (h : (redW L n).length = b) : (redW L n).length ≤ b := by omega
/-- how many reduced words there are: enough for every list that the law makes -/
theorem bound_of {L n : Nat} {l : List (List Nat)} (hn : l.Nodup) (h : ∀ w ∈ l, Red w ∧ Wd L w ∧ w.length ≤ n) : l.length ≤ (allRed L n).length :=
  hn.length_le_of_subset fun w hw => let ⟨a, b, c⟩ := h w hw; mem_allRed a b c
theorem allRed_succ (L n : Nat) : (allRed L (n + 1)).length = (allRed L n).length + (redW L (n + 1)).length := by
  unfold allRed
  rw [List.range_succ, List.flatMap_append]
  simp
theorem allRed_zero (L : Nat) : (allRed L 0).length = 1 := by simp [allRed, redW]
/-- the sizes that come: two or four letters to length 6, six letters to length 4 -/
theorem allRed_small {L n : Nat} (h : (L = 2 ∨ L = 4) ∧ n ≤ 6 ∨ L = 6 ∧ n ≤ 4) : (allRed L n).length ≤ 1555 := by
  have key : ∀ L, L % 2 = 0 → ∀ n, (allRed L (n + 1)).length ≤ (allRed L n).length + L * (L - 1) ^ n := fun L hL n => by
    rw [allRed_succ]
    exact Nat.add_le_add_left (redW_len hL n) _
  have z := allRed_zero L
  rcases h with ⟨rfl | rfl, hn⟩ | ⟨rfl, hn⟩
  · have k0 := key 2 (by decide) 0
    have k1 := key 2 (by decide) 1
    have k2 := key 2 (by decide) 2
    have k3 := key 2 (by decide) 3
    have k4 := key 2 (by decide) 4
    have k5 := key 2 (by decide) 5
    simp only [Nat.zero_add, Nat.reduceAdd, Nat.reduceSub, Nat.reducePow, Nat.reduceMul] at k0 k1 k2 k3 k4 k5
    have z' := allRed_zero 2
    have : n = 0 ∨ n = 1 ∨ n = 2 ∨ n = 3 ∨ n = 4 ∨ n = 5 ∨ n = 6 := by omega
    rcases this with rfl | rfl | rfl | rfl | rfl | rfl | rfl <;> omega
  · have k0 := key 4 (by decide) 0
    have k1 := key 4 (by decide) 1
    have k2 := key 4 (by decide) 2
    have k3 := key 4 (by decide) 3
    have k4 := key 4 (by decide) 4
    have k5 := key 4 (by decide) 5
    simp only [Nat.zero_add, Nat.reduceAdd, Nat.reduceSub, Nat.reducePow, Nat.reduceMul] at k0 k1 k2 k3 k4 k5
    have z' := allRed_zero 4
    have : n = 0 ∨ n = 1 ∨ n = 2 ∨ n = 3 ∨ n = 4 ∨ n = 5 ∨ n = 6 := by omega
    rcases this with rfl | rfl | rfl | rfl | rfl | rfl | rfl <;> omega
  · have k0 := key 6 (by decide) 0
    have k1 := key 6 (by decide) 1
    have k2 := key 6 (by decide) 2
    have k3 := key 6 (by decide) 3
    have k4 := key 6 (by decide) 4
    have k5 := key 6 (by decide) 5
    simp only [Nat.zero_add, Nat.reduceAdd, Nat.reduceSub, Nat.reducePow, Nat.reduceMul] at k0 k1 k2 k3 k4 k5
    have z' := allRed_zero 6
    have : n = 0 ∨ n = 1 ∨ n = 2 ∨ n = 3 ∨ n = 4 := by omega
    rcases this with rfl | rfl | rfl | rfl | rfl <;> omega
theorem allRed_tiny {L n : Nat} (h : (L = 2 ∨ L = 4 ∨ L = 6) ∧ n ≤ 3) : (allRed L n).length ≤ 187 := by
  have key : ∀ L, L % 2 = 0 → ∀ n, (allRed L (n + 1)).length ≤ (allRed L n).length + L * (L - 1) ^ n := fun L hL n => by
    rw [allRed_succ]
    exact Nat.add_le_add_left (redW_len hL n) _
  have z := allRed_zero L
  rcases h with ⟨rfl | rfl | rfl, hn⟩
  · have k0 := key 2 (by decide) 0
    have k1 := key 2 (by decide) 1
    have k2 := key 2 (by decide) 2
    simp only [Nat.zero_add, Nat.reduceAdd, Nat.reduceSub, Nat.reducePow, Nat.reduceMul] at k0 k1 k2
    have z' := allRed_zero 2
    have : n = 0 ∨ n = 1 ∨ n = 2 ∨ n = 3 := by omega
    rcases this with rfl | rfl | rfl | rfl <;> omega
  · have k0 := key 4 (by decide) 0
    have k1 := key 4 (by decide) 1
    have k2 := key 4 (by decide) 2
    simp only [Nat.zero_add, Nat.reduceAdd, Nat.reduceSub, Nat.reducePow, Nat.reduceMul] at k0 k1 k2
    have z' := allRed_zero 4
    have : n = 0 ∨ n = 1 ∨ n = 2 ∨ n = 3 := by omega
    rcases this with rfl | rfl | rfl | rfl <;> omega
  · have k0 := key 6 (by decide) 0
    have k1 := key 6 (by decide) 1
    have k2 := key 6 (by decide) 2
    simp only [Nat.zero_add, Nat.reduceAdd, Nat.reduceSub, Nat.reducePow, Nat.reduceMul] at k0 k1 k2
    have z' := allRed_zero 6
    have : n = 0 ∨ n = 1 ∨ n = 2 ∨ n = 3 := by omega
    rcases this with rfl | rfl | rfl | rfl <;> omega
section
variable {k L : Nat} {ls : Nat → Nat → Nat × Nat}
theorem bl_len (n : Nat) : (bl k L ls n).length = ((List.range (n + 1)).map fun i => (rg k L ls i).length).sum := by
  unfold bl
  rw [List.length_flatMap]
theorem rg_mul (S : LS k L ls) (j i : Nat) : (rg k L ls (j + i)).length ≤ (rg k L ls j).length * (rg k L ls i).length := by
  have h1 : (rg k L ls (j + i)).length ≤ ((rg k L ls j).flatMap fun a => (rg k L ls i).map fun b => a ++ b).length := by
    refine (Inc.nodup (rg_inc S (j + i))).length_le_of_subset fun w hw => ?_
    obtain ⟨a, b, c⟩ := (mem_rg S).mp hw
    rw [← List.take_append_drop j w] at a c
    refine List.mem_flatMap.mpr ⟨w.take j, (mem_rg S).mpr ⟨a.left, by simp; omega, c.left S a⟩, List.mem_map.mpr ⟨w.drop j, (mem_rg S).mpr ⟨a.right, by simp; omega, c.right S a⟩, List.take_append_drop j w⟩⟩
  refine Nat.le_trans h1 (flatMap_len fun a _ => by simp)
theorem rg_free (S : LS k L ls) (n : Nat) : (rg k L ls (n + 1)).length ≤ L * (L - 1) ^ n := by
  refine Nat.le_trans ?_ (redW_len S.even n)
  refine (Inc.nodup (rg_inc S (n + 1))).length_le_of_subset fun w hw => ?_
  obtain ⟨a, b, c⟩ := (mem_rg S).mp hw
  exact mem_redW.mpr ⟨c.red S a, a, b⟩
theorem rg_one (S : LS k L ls) (h1 : ∀ w ∈ redW L 1, ¬ Rests k ls w) (h2 : ∀ w ∈ redW L 2, ¬ Rests k ls w) : (rg k L ls 1).length = L := by
  refine Nat.le_antisymm (by have := rg_free S 0; simpa using this) ?_
  have e : ((List.range L).map fun c => [c]).length = L := by simp
  have hn : ((List.range L).map fun c => [c]).Nodup := by
    refine List.pairwise_map.mpr (List.nodup_range.imp fun {a b} h e => h (by simpa using e))
  refine Nat.le_trans (Nat.le_of_eq e.symm) (hn.length_le_of_subset (l₂ := rg k L ls 1) fun w hw => ?_)
  obtain ⟨c, hc, rfl⟩ := List.mem_map.mp hw
  have hc := List.mem_range.mp hc
  refine (mem_rg S).mpr ⟨Wd.one hc, rfl, fun v hv hlt q => ?_⟩
  have hl := code_len (by omega) (Wd.one hc) (Nat.le_of_lt hlt)
  match v, hv, hlt, q, hl with
  | [], _, _, q, _ =>
    refine h1 [c] (mem_redW.mpr ⟨?_, Wd.one hc, rfl⟩) q.symm
    exact Red.snoc (w := []) .nil (by simp)
  | [d], hv, hlt, q, _ =>
    have hd : d < L := hv.head
    have hdc : d ≠ c := fun z => by rw [z] at hlt; omega
    have r := (eq_iff_rests S hv (Wd.one hc)).mpr q
    refine h2 _ (mem_redW.mpr ⟨?_, hv.append (undone_wd S.even (Wd.one hc)), by simp [undone_len]⟩) r
    show Red ([d] ++ [oth c])
    refine .snoc (Red.snoc (w := []) .nil (by simp)) ?_
    rw [oth_oth]
    simpa using hdc
  | a :: b :: r, _, _, _, hl => simp at hl
theorem bl_init (S : LS k L ls) {n : Nat} {w : List Nat} (h : w ∈ bl k L ls n) : w.dropLast ∈ bl k L ls n := by
  obtain ⟨a, b, c⟩ := (mem_bl S).mp h
  by_cases hne : w = []
  · rw [hne]; rw [hne] at h; exact h
  · have e := List.dropLast_concat_getLast hne
    rw [← e] at a c
    exact (mem_bl S).mpr ⟨a.left, by simp; omega, c.left S a⟩
theorem bl_tail (S : LS k L ls) {n : Nat} {w : List Nat} (h : w ∈ bl k L ls n) : w.tail ∈ bl k L ls n := by
  obtain ⟨a, b, c⟩ := (mem_bl S).mp h
  cases w with
  | nil => exact h
  | cons d w => exact (mem_bl S).mpr ⟨a.tail, by simp at b; simp; omega, c.tail S a⟩
theorem bl_same (S : LS k L ls) (hL : 0 < L) {n : Nat} {u v : List Nat} (hu : u ∈ bl k L ls n) (hv : v ∈ bl k L ls n) : Eq' k ls u v ↔ u = v := by
  obtain ⟨a, _, c⟩ := (mem_bl S).mp hu
  obtain ⟨a', _, c'⟩ := (mem_bl S).mp hv
  exact ⟨fun e => c.inj hL a a' c' e, fun e => e ▸ .refl u⟩
theorem bl_head (n : Nat) : ∃ r, bl k L ls n = [] :: r := by
  induction n with
  | zero => exact ⟨[], bl_zero⟩
  | succ n ih =>
    obtain ⟨r, e⟩ := ih
    exact ⟨r ++ rg k L ls (n + 1), by rw [bl_succ, e]; rfl⟩
/-- the least word of a word of at most n letters -/
theorem bl_least (S : LS k L ls) (hL : 0 < L) {n : Nat} {u : List Nat} (hu : Wd L u) (hn : u.length ≤ n) : ∃ v, v ∈ bl k L ls n ∧ Eq' k ls v u := by
  obtain ⟨v, h1, h2, h3, h4⟩ := exists_least (k := k) (ls := ls) u hu
  exact ⟨v, (mem_bl S).mpr ⟨h1, by have := code_len hL hu h4; omega, h2⟩, h3⟩
theorem bl_mono (S : LS k L ls) {n m : Nat} (h : n ≤ m) {v : List Nat} (hv : v ∈ bl k L ls n) : v ∈ bl k L ls m := by
  obtain ⟨a, b, c⟩ := (mem_bl S).mp hv
  exact (mem_bl S).mpr ⟨a, by omega, c⟩
end
end Lf
set_option Elab.async false
/-! The plain law, 7: machines. -/
namespace Lf
abbrev Rows := List (List (Nat × Nat))
def ent (rows : Rows) (s x : Nat) : Nat × Nat := (rows.getD s []).getD x (0, 0)
/-- the digit for which the state s writes x -/
def inv (rows : Rows) (s x : Nat) : Nat := ((rows.getD s []).map (·.1)).idxOf x
def lsOf (rows : Rows) (c x : Nat) : Nat × Nat :=
  if c % 2 = 0 then ((ent rows (c / 2) x).1, 2 * (ent rows (c / 2) x).2)
  else (inv rows (c / 2) x, 2 * (ent rows (c / 2) (inv rows (c / 2) x)).2 + 1)
structure RowOk (k n : Nat) (r : List (Nat × Nat)) : Prop where
  outs : (r.map (·.1)).Perm (List.range k)
  next : ∀ e ∈ r, e.2 < n
structure MOk (k : Nat) (rows : Rows) : Prop where
  k2 : 2 ≤ k
  k3 : k ≤ 3
  n1 : 1 ≤ rows.length
  n3 : rows.length ≤ 3
  row : ∀ r ∈ rows, RowOk k rows.length r
section
variable {k n : Nat} {r : List (Nat × Nat)}
theorem RowOk.len (h : RowOk k n r) : r.length = k := by
  have := h.outs.length_eq
  simpa using this
theorem RowOk.nodup (h : RowOk k n r) : (r.map (·.1)).Nodup := h.outs.symm.nodup List.nodup_range
theorem RowOk.mem (h : RowOk k n r) {x : Nat} : x ∈ r.map (·.1) ↔ x < k := by
  rw [h.outs.mem_iff, List.mem_range]
theorem RowOk.out (h : RowOk k n r) {x : Nat} (hx : x < k) : (r.getD x (0, 0)).1 < k := by
  have hl : x < r.length := by rw [h.len]; exact hx
  rw [List.getD, List.getElem?_eq_getElem hl]
  exact h.mem.mp (List.mem_map.mpr ⟨_, List.getElem_mem hl, rfl⟩)
theorem RowOk.nxt (h : RowOk k n r) {x : Nat} (hx : x < k) : (r.getD x (0, 0)).2 < n := by
  have hl : x < r.length := by rw [h.len]; exact hx
  rw [List.getD, List.getElem?_eq_getElem hl]
  exact h.next _ (List.getElem_mem hl)
theorem RowOk.inv_lt (h : RowOk k n r) {x : Nat} (hx : x < k) : (r.map (·.1)).idxOf x < k := by
  have := List.idxOf_lt_length_of_mem (h.mem.mpr hx)
  rw [List.length_map, h.len] at this
  exact this
theorem RowOk.out_inv (h : RowOk k n r) {x : Nat} (hx : x < k) : (r.getD ((r.map (·.1)).idxOf x) (0, 0)).1 = x := by
  have hl := List.idxOf_lt_length_of_mem (h.mem.mpr hx)
  have e := List.getElem_idxOf hl
  have hl' := hl
  rw [List.length_map] at hl'
  rw [List.getElem_map] at e
  rw [List.getD, List.getElem?_eq_getElem hl']
  exact e
theorem RowOk.inv_out (h : RowOk k n r) {x : Nat} (hx : x < k) : (r.map (·.1)).idxOf (r.getD x (0, 0)).1 = x := by
  have hl : x < r.length := by rw [h.len]; exact hx
  have hl' : x < (r.map (·.1)).length := by simpa using hl
  rw [List.getD, List.getElem?_eq_getElem hl]
  have e : (r.map (·.1))[x] = r[x].1 := by simp
  show (r.map (·.1)).idxOf r[x].1 = x
  rw [← e]
  exact h.nodup.idxOf_getElem x hl'
end
theorem MOk.at {k : Nat} {rows : Rows} (M : MOk k rows) {s : Nat} (hs : s < rows.length) : RowOk k rows.length (rows.getD s []) := by
  rw [List.getD, List.getElem?_eq_getElem hs]
  exact M.row _ (List.getElem_mem hs)
theorem MOk.ls {k : Nat} {rows : Rows} (M : MOk k rows) : LS k (2 * rows.length) (lsOf rows) where
  even := by omega
  dig := fun c x hc hx => by
    have R := M.at (s := c / 2) (by omega)
    unfold lsOf
    split
    · exact R.out hx
    · exact R.inv_lt hx
  nxt := fun c x hc hx => by
    have R := M.at (s := c / 2) (by omega)
    unfold lsOf
    split
    · have : (ent rows (c / 2) x).2 < rows.length := R.nxt hx
      show 2 * _ < _
      omega
    · have : (ent rows (c / 2) (inv rows (c / 2) x)).2 < rows.length := R.nxt (R.inv_lt hx)
      show 2 * _ + 1 < _
      omega
  inv := fun c x hc hx => by
    have R := M.at (s := c / 2) (by omega)
    by_cases h : c % 2 = 0
    · have e1 : lsOf rows c x = ((ent rows (c / 2) x).1, 2 * (ent rows (c / 2) x).2) := by unfold lsOf; rw [if_pos h]
      have eo : oth c = c + 1 := by unfold oth; rw [if_pos h]
      have e2 : lsOf rows (c + 1) (ent rows (c / 2) x).1 = (inv rows (c / 2) (ent rows (c / 2) x).1, 2 * (ent rows (c / 2) (inv rows (c / 2) (ent rows (c / 2) x).1)).2 + 1) := by
        unfold lsOf
        rw [if_neg (by omega), show (c + 1) / 2 = c / 2 by omega]
      have e3 : inv rows (c / 2) (ent rows (c / 2) x).1 = x := R.inv_out hx
      rw [e1, eo]
      show lsOf rows (c + 1) (ent rows (c / 2) x).1 = _
      rw [e2, e3]
      show (x, _) = (x, oth (2 * _))
      unfold oth
      rw [if_pos (by omega)]
    · have e1 : lsOf rows c x = (inv rows (c / 2) x, 2 * (ent rows (c / 2) (inv rows (c / 2) x)).2 + 1) := by unfold lsOf; rw [if_neg h]
      have eo : oth c = c - 1 := by unfold oth; rw [if_neg h]
      have e2 : lsOf rows (c - 1) (inv rows (c / 2) x) = ((ent rows (c / 2) (inv rows (c / 2) x)).1, 2 * (ent rows (c / 2) (inv rows (c / 2) x)).2) := by
        unfold lsOf
        rw [if_pos (by omega), show (c - 1) / 2 = c / 2 by omega]
      have e3 : (ent rows (c / 2) (inv rows (c / 2) x)).1 = x := R.out_inv hx
      rw [e1, eo]
      show lsOf rows (c - 1) (inv rows (c / 2) x) = _
      rw [e2, e3]
      show (x, _) = (x, oth (2 * _ + 1))
      unfold oth
      rw [if_neg (by omega)]
      rfl
theorem MOk.pos {k : Nat} {rows : Rows} (M : MOk k rows) : 0 < 2 * rows.length := by have := M.n1; omega
theorem MOk.le6 {k : Nat} {rows : Rows} (M : MOk k rows) : 2 * rows.length ≤ 6 := by have := M.n3; omega
theorem Wd.mono {L L' : Nat} {w : List Nat} (h : Wd L w) (hL : L ≤ L') : Wd L' w := fun c hc => Nat.lt_of_lt_of_le (h c hc) hL
end Lf
set_option Elab.async false
/-! The plain law, 8: lists of words that grow by sections. -/
namespace Lf
def addW (o cs : List (List Nat)) : List (List Nat) := cs.foldl (fun o c => if c ∈ o then o else o ++ [c]) o
theorem addW_snoc (o cs : List (List Nat)) (c : List Nat) : addW o (cs ++ [c]) = if c ∈ addW o cs then addW o cs else addW o cs ++ [c] := by
  unfold addW
  rw [List.foldl_append]
  rfl
theorem addW_nil (o : List (List Nat)) : addW o [] = o := rfl
theorem addW_pre (cs : List (List Nat)) : ∀ o, ∃ r, addW o cs = o ++ r ∧ (∀ c ∈ cs, c ∈ o ++ r) ∧ ∀ c ∈ r, c ∈ cs := by
  induction cs with
  | nil => intro o; exact ⟨[], by simp [addW], by simp, by simp⟩
  | cons c cs ih =>
    intro o
    show ∃ r, addW (if c ∈ o then o else o ++ [c]) cs = o ++ r ∧ _
    by_cases h : c ∈ o
    · rw [if_pos h]
      obtain ⟨r, e, m, m'⟩ := ih o
      refine ⟨r, e, fun d hd => ?_, fun d hd => List.mem_cons_of_mem _ (m' d hd)⟩
      rcases List.mem_cons.mp hd with rfl | hd
      · exact List.mem_append_left _ h
      · exact m d hd
    · rw [if_neg h]
      obtain ⟨r, e, m, m'⟩ := ih (o ++ [c])
      refine ⟨c :: r, by rw [e]; simp, fun d hd => ?_, fun d hd => ?_⟩
      · rcases List.mem_cons.mp hd with rfl | hd
        · simp
        · have := m d hd
          simpa using this
      · rcases List.mem_cons.mp hd with rfl | hd
        · exact List.mem_cons_self
        · exact List.mem_cons_of_mem _ (m' d hd)
theorem addW_nodup (cs : List (List Nat)) : ∀ o, o.Nodup → (addW o cs).Nodup := by
  induction cs with
  | nil => intro o h; exact h
  | cons c cs ih =>
    intro o h
    show (addW (if c ∈ o then o else o ++ [c]) cs).Nodup
    by_cases hc : c ∈ o
    · rw [if_pos hc]; exact ih o h
    · rw [if_neg hc]
      refine ih _ (List.nodup_append.mpr ⟨h, by simp, ?_⟩)
      intro a ha b hb e
      simp at hb
      subst hb; subst e
      exact hc ha
/-- the list of words, grown from wd, of which the first `at` are looked at -/
structure BI (k L : Nat) (ls : Nat → Nat → Nat × Nat) (n : Nat) (wd : List Nat) (Wl : List (List Nat)) (at' : Nat) : Prop where
  first : Wl[0]? = some (cut wd)
  nodup : Wl.Nodup
  good : ∀ w ∈ Wl, Wd L w ∧ Red w ∧ w.length ≤ n
  below : ∀ i, i < at' → ∀ w, Wl[i]? = some w → ∀ v ∈ secs k ls w, v ∈ Wl
section
variable {k L n : Nat} {ls : Nat → Nat → Nat × Nat} {wd : List Nat} {Wl : List (List Nat)} {i : Nat}
theorem BI.start (hw : Wd L wd) (hn : wd.length ≤ n) : BI k L ls n wd [cut wd] 0 where
  first := rfl
  nodup := by simp
  good := fun w h => by
    simp at h
    subst h
    exact ⟨cut_wd hw, cut_red _, Nat.le_trans (cut_len _) hn⟩
  below := fun i h => absurd h (Nat.not_lt_zero _)
theorem secs_good (S : LS k L ls) {w : List Nat} (hw : Wd L w) (hn : w.length ≤ n) : ∀ v ∈ secs k ls w, Wd L v ∧ Red v ∧ v.length ≤ n := fun v hv => by
  obtain ⟨x, hx, rfl⟩ := List.mem_map.mp hv
  exact ⟨sec_wd S hw (List.mem_range.mp hx), sec_red _ _ _, Nat.le_trans (sec_len _ _ _) hn⟩
theorem BI.grow (S : LS k L ls) (B : BI k L ls n wd Wl i) {w : List Nat} (hi : Wl[i]? = some w) {cs : List (List Nat)} (hc : ∀ c ∈ cs, c ∈ secs k ls w) : BI k L ls n wd (addW Wl cs) i := by
  obtain ⟨r, e, _, m'⟩ := addW_pre cs Wl
  have hl := (List.getElem?_eq_some_iff.mp hi).1
  obtain ⟨g1, g2, g3⟩ := B.good w (List.mem_of_getElem? hi)
  refine ⟨?_, addW_nodup cs Wl B.nodup, fun u hu => ?_, fun j hj u hu v hv => ?_⟩
  · rw [e, List.getElem?_append_left (by omega)]; exact B.first
  · rw [e] at hu
    rcases List.mem_append.mp hu with hu | hu
    · exact B.good u hu
    · exact secs_good S g1 g3 u (hc u (m' u hu))
  · rw [e, List.getElem?_append_left (by omega)] at hu
    rw [e]
    exact List.mem_append_left _ (B.below j hj u hu v hv)
theorem BI.next (S : LS k L ls) (B : BI k L ls n wd Wl i) {w : List Nat} (hi : Wl[i]? = some w) : BI k L ls n wd (addW Wl (secs k ls w)) (i + 1) := by
  have B' := B.grow S hi (cs := secs k ls w) fun c h => h
  refine ⟨B'.first, B'.nodup, B'.good, fun j hj u hu v hv => ?_⟩
  rcases Nat.lt_or_ge j i with q | q
  · exact B'.below j q u hu v hv
  · have ej : j = i := by omega
    subst ej
    obtain ⟨r, e, m, _⟩ := addW_pre (secs k ls w) Wl
    have hl := (List.getElem?_eq_some_iff.mp hi).1
    rw [e, List.getElem?_append_left hl, hi] at hu
    cases hu
    rw [e]
    exact m v hv
theorem BI.get_grow {w : List Nat} (hi : Wl[i]? = some w) (cs : List (List Nat)) : (addW Wl cs)[i]? = some w := by
  obtain ⟨r, e, _, _⟩ := addW_pre cs Wl
  rw [e, List.getElem?_append_left (List.getElem?_eq_some_iff.mp hi).1]
  exact hi
theorem BI.bound (B : BI k L ls n wd Wl i) : Wl.length ≤ (allRed L n).length :=
  bound_of B.nodup fun w hw => let ⟨a, b, c⟩ := B.good w hw; ⟨b, a, c⟩
theorem BI.done (B : BI k L ls n wd Wl i) (hi : Wl.length ≤ i) : Good k L ls wd Wl where
  first := B.first
  nodup := B.nodup
  wd := fun w hw => (B.good w hw).1
  closed := fun w hw v hv => by
    obtain ⟨j, hj, rfl⟩ := List.getElem_of_mem hw
    exact B.below j (by omega) _ (List.getElem?_eq_getElem hj) v hv
/-- the list of a word that may rest: what was looked at keeps the digits; if the word rests all do -/
structure RI (k L : Nat) (ls : Nat → Nat → Nat × Nat) (wd : List Nat) (Wl : List (List Nat)) (at' : Nat) : Prop where
  keeps : ∀ i, i < at' → ∀ w, Wl[i]? = some w → ∀ x, x < k → (ws ls w x).1 = x
  reach : Rests k ls wd → ∀ w ∈ Wl, Rests k ls w
theorem RI.start (S : LS k L ls) (hw : Wd L wd) : RI k L ls wd [cut wd] 0 :=
  ⟨fun i h => absurd h (Nat.not_lt_zero _), fun h w hm => by
    simp at hm
    subst hm
    exact (cut_eq S hw).trans h⟩
theorem RI.grow (S : LS k L ls) (B : BI k L ls n wd Wl i) (R : RI k L ls wd Wl i) {w : List Nat} (hi : Wl[i]? = some w) {cs : List (List Nat)} (hc : ∀ c ∈ cs, c ∈ secs k ls w) : RI k L ls wd (addW Wl cs) i := by
  obtain ⟨r, e, _, m'⟩ := addW_pre cs Wl
  have hl := (List.getElem?_eq_some_iff.mp hi).1
  refine ⟨fun j hj u hu => ?_, fun h u hu => ?_⟩
  · rw [e, List.getElem?_append_left (by omega)] at hu
    exact R.keeps j hj u hu
  · rw [e] at hu
    rcases List.mem_append.mp hu with hu | hu
    · exact R.reach h u hu
    · obtain ⟨x, hx, rfl⟩ := List.mem_map.mp (hc u (m' u hu))
      have hm := List.mem_of_getElem? hi
      exact (R.reach h w hm).sec S (B.good w hm).1 (List.mem_range.mp hx)
theorem RI.next (S : LS k L ls) (B : BI k L ls n wd Wl i) (R : RI k L ls wd Wl i) {w : List Nat} (hi : Wl[i]? = some w) (hk : ∀ x, x < k → (ws ls w x).1 = x) : RI k L ls wd (addW Wl (secs k ls w)) (i + 1) := by
  have R' := R.grow S B hi (cs := secs k ls w) fun c h => h
  refine ⟨fun j hj u hu => ?_, R'.reach⟩
  rcases Nat.lt_or_ge j i with q | q
  · exact R'.keeps j q u hu
  · have ej : j = i := by omega
    subst ej
    rw [BI.get_grow hi] at hu
    cases hu
    exact hk
theorem RI.yes (S : LS k L ls) (hw : Wd L wd) (B : BI k L ls n wd Wl i) (R : RI k L ls wd Wl i) (hi : Wl.length ≤ i) : Rests k ls wd := by
  have h := closed_rests S (l := Wl) (fun w hm => ⟨(B.good w hm).1, fun x hx => by
    obtain ⟨j, hj, rfl⟩ := List.getElem_of_mem hm
    exact ⟨R.keeps j (by omega) _ (List.getElem?_eq_getElem hj) x hx, B.below j (by omega) _ (List.getElem?_eq_getElem hj) _ (List.mem_map.mpr ⟨x, List.mem_range.mpr hx, rfl⟩)⟩⟩)
  exact (cut_eq S hw).symm.trans (h _ (List.mem_of_getElem? B.first))
theorem RI.no (R : RI k L ls wd Wl i) {w : List Nat} (hi : w ∈ Wl) {x : Nat} (hx : x < k) (h : (ws ls w x).1 ≠ x) : ¬ Rests k ls wd := fun q => h ((R.reach q w hi).out hx)
end
theorem all_keeps {k : Nat} {ls : Nat → Nat → Nat × Nat} {w : List Nat} : (((List.range k).map fun x => decide ((ws ls w x).1 = x)).all id) = true ↔ ∀ x, x < k → (ws ls w x).1 = x := by
  simp
theorem all_keeps_no {k : Nat} {ls : Nat → Nat → Nat × Nat} {w : List Nat} (h : (((List.range k).map fun x => decide ((ws ls w x).1 = x)).all id) = false) : ∃ x, x < k ∧ (ws ls w x).1 ≠ x := by
  simp at h
  exact h
end Lf
set_option Elab.async false
/-! The plain law, 9: rows while the list of words grows; forms of cut words. -/
namespace Lf
section
variable {k L n : Nat} {ls : Nat → Nat → Nat × Nat} {wd : List Nat} {Wl : List (List Nat)} {i : Nat}
theorem rowOf_grow {w : List Nat} {r : List (List Nat)} (h : ∀ v ∈ secs k ls w, v ∈ Wl) : rowOf k ls (Wl ++ r) w = rowOf k ls Wl w := by
  unfold rowOf
  refine Prod.ext rfl ?_
  refine List.map_congr_left fun v hv => ?_
  rw [List.idxOf_append, if_pos (h v hv)]
/-- the rows of the words looked at -/
def rowsTo (k : Nat) (ls : Nat → Nat → Nat × Nat) (Wl : List (List Nat)) (i : Nat) : List Row := (Wl.take i).map (rowOf k ls Wl)
theorem rowsTo_zero : rowsTo k ls Wl 0 = [] := rfl
theorem rowsTo_all (h : Wl.length ≤ i) : rowsTo k ls Wl i = rowsOf k ls Wl := by
  unfold rowsTo rowsOf
  rw [List.take_of_length_le h]
theorem rowsTo_len (h : i ≤ Wl.length) : (rowsTo k ls Wl i).length = i := by
  unfold rowsTo
  rw [List.length_map, List.length_take]
  omega
theorem rowsTo_next (B : BI k L ls n wd Wl i) {w : List Nat} (hi : Wl[i]? = some w) : rowsTo k ls (addW Wl (secs k ls w)) (i + 1) = rowsTo k ls Wl i ++ [rowOf k ls (addW Wl (secs k ls w)) w] := by
  obtain ⟨r, e, m, _⟩ := addW_pre (secs k ls w) Wl
  have hl := (List.getElem?_eq_some_iff.mp hi).1
  rw [e]
  unfold rowsTo
  rw [List.take_append_of_le_length (by omega), List.take_add_one, hi, List.map_append]
  congr 1
  refine List.map_congr_left fun u hu => ?_
  obtain ⟨j, hj, hj'⟩ := List.getElem_of_mem hu
  rw [List.getElem_take] at hj'
  rw [List.length_take] at hj
  exact rowOf_grow (B.below j (by omega) u (by rw [← hj']; exact List.getElem?_eq_getElem _))
end
theorem Good.of_cut {k L : Nat} {ls : Nat → Nat → Nat × Nat} {u : List Nat} {Wl : List (List Nat)} (h : Good k L ls (cut u) Wl) : Good k L ls u Wl :=
  ⟨by rw [h.first, (cut_red u).cut_self], h.nodup, h.wd, h.closed⟩
theorem IsForm.of_cut {k L : Nat} {ls : Nat → Nat → Nat × Nat} {u : List Nat} {F : List Row} (h : IsForm k L ls (cut u) F) : IsForm k L ls u F :=
  let ⟨Wl, cl, G, C, N⟩ := h
  ⟨Wl, cl, G.of_cut, C, N⟩
end Lf
set_option Elab.async false
/-! The plain law, 10: numbering, step by step. -/
namespace Lf
theorem addNew_snoc (o cs : List Nat) (c : Nat) : addNew o (cs ++ [c]) = if c ∈ addNew o cs then addNew o cs else addNew o cs ++ [c] := by
  unfold addNew
  rw [List.foldl_append]
  rfl
theorem ordC_succ (rows : List Row) (cl : List Nat) (i : Nat) : ordC rows cl (i + 1) = addNew (ordC rows cl i) (nxC rows cl ((ordC rows cl i).getD i 0)) := rfl
/-- the rows of the classes looked at -/
def numTo (rows : List Row) (cl O : List Nat) (i : Nat) : List Row := (O.take i).map (rowC rows cl O)
section
variable {rows : List Row} {cl : List Nat} {k : Nat}
theorem ordC_cl (R : RowsOk k rows) (hl : cl.length = rows.length) (h0 : 0 < rows.length) {i : Nat} (hi : ∀ j, j < i → j < (ordC rows cl j).length) : ∀ c ∈ ordC rows cl i, c ∈ cl := by
  refine ordAt_sub _ _ (· ∈ cl) (getD_mem (by rw [hl]; exact h0)) (fun c hc d hd => ?_) i hi
  obtain ⟨j, hj, rfl⟩ := List.mem_map.mp hd
  have hi := List.idxOf_lt_length_of_mem hc
  rw [hl] at hi
  rw [List.getD, List.getElem?_eq_getElem hi] at hj
  exact getD_mem (by rw [hl]; exact (R.nx _ (List.getElem_mem hi)).2 j hj)
theorem ordC_len (R : RowsOk k rows) (hl : cl.length = rows.length) (h0 : 0 < rows.length) {i : Nat} (hi : ∀ j, j < i → j < (ordC rows cl j).length) : (ordC rows cl i).length ≤ rows.length := by
  rw [← hl]
  exact (ordAt_nodup _ _ i).length_le_of_subset (ordC_cl R hl h0 hi)
theorem rowC_grow {O r : List Nat} {c : Nat} (h : ∀ d ∈ nxC rows cl c, d ∈ O) : rowC rows cl (O ++ r) c = rowC rows cl O c := by
  unfold rowC
  refine Prod.ext rfl ?_
  refine List.map_congr_left fun v hv => ?_
  rw [List.idxOf_append, if_pos (h v hv)]
/-- the classes behind those looked at are there -/
def OBelow (rows : List Row) (cl O : List Nat) (i : Nat) : Prop := ∀ j, j < i → ∀ d ∈ nxC rows cl (O.getD j 0), d ∈ O
theorem OBelow.next {i : Nat} (hi : i < (ordC rows cl i).length) (h : OBelow rows cl (ordC rows cl i) i) : OBelow rows cl (ordC rows cl (i + 1)) (i + 1) := by
  obtain ⟨r, e, m, _⟩ := addNew_pre (nxC rows cl ((ordC rows cl i).getD i 0)) (ordC rows cl i)
  intro j hj d hd
  rw [ordC_succ, e] at hd ⊢
  rw [getD_left (by omega)] at hd
  rcases Nat.lt_or_ge j i with q | q
  · exact List.mem_append_left _ (h j q d hd)
  · have : j = i := by omega
    subst this
    exact m d hd
theorem take_getD {l : List Nat} {i : Nat} (h : i < l.length) : l.take (i + 1) = l.take i ++ [l.getD i 0] := by
  rw [List.take_add_one, List.getD, List.getElem?_eq_getElem h]
  rfl
theorem numTo_next {i : Nat} (hi : i < (ordC rows cl i).length) (h : OBelow rows cl (ordC rows cl i) i) : numTo rows cl (ordC rows cl (i + 1)) (i + 1) = numTo rows cl (ordC rows cl i) i ++ [rowC rows cl (ordC rows cl (i + 1)) ((ordC rows cl i).getD i 0)] := by
  obtain ⟨r, e, m, _⟩ := addNew_pre (nxC rows cl ((ordC rows cl i).getD i 0)) (ordC rows cl i)
  rw [ordC_succ, e]
  unfold numTo
  rw [List.take_append_of_le_length (by omega), take_getD hi, List.map_append]
  congr 1
  refine List.map_congr_left fun c hc => ?_
  obtain ⟨j, hj, hj'⟩ := List.getElem_of_mem hc
  rw [List.length_take] at hj
  rw [List.getElem_take] at hj'
  refine rowC_grow fun d hd => h j (by omega) d ?_
  rw [List.getD, List.getElem?_eq_getElem (show j < (ordC rows cl i).length by omega)]
  show d ∈ nxC rows cl (ordC rows cl i)[j]
  rw [hj']
  exact hd
theorem numTo_len {O : List Nat} {i : Nat} (h : i ≤ O.length) : (numTo rows cl O i).length = i := by
  unfold numTo
  rw [List.length_map, List.length_take]
  omega
theorem isNum_done {i : Nat} (hi : ∀ j, j < i → j < (ordC rows cl j).length) (hle : i ≤ (ordC rows cl i).length) (h : (ordC rows cl i).length ≤ i) : IsNum rows cl (numTo rows cl (ordC rows cl i) i) := by
  refine ⟨i, by omega, hi, ?_⟩
  unfold numTo
  rw [List.take_of_length_le h]
end
end Lf
set_option Elab.async false
/-! The plain law, 11: the ball while it grows. -/
namespace Lf
section
variable {k L : Nat} {ls : Nat → Nat → Nat × Nat}
theorem take_kids {n i : Nat} {w : List Nat} (hi : (rg k L ls n)[i]? = some w) : ((rg k L ls n).take (i + 1)).flatMap (kids k L ls) = ((rg k L ls n).take i).flatMap (kids k L ls) ++ kids k L ls w := by
  rw [List.take_add_one, hi, List.flatMap_append]
  simp
theorem kids_all (n : Nat) : ((rg k L ls n).take (rg k L ls n).length).flatMap (kids k L ls) = rg k L ls (n + 1) := by
  rw [List.take_length]
  rfl
theorem kidsTo_len (w : List Nat) {c d : Nat} (h : c ≤ d) : (kidsTo k L ls w c).length ≤ (kidsTo k L ls w d).length := by
  induction h with
  | refl => exact Nat.le_refl _
  | step _ ih =>
    rename_i d _
    by_cases q : Least k L ls (w ++ [d])
    · rw [kidsTo_yes q, List.length_append]; omega
    · rw [kidsTo_no q]; exact ih
theorem ahead_len {n i : Nat} {w : List Nat} {c : Nat} (hi : (rg k L ls n)[i]? = some w) (hc : c ≤ L) : (ahead k L ls n i w c).length ≤ (bl k L ls (n + 1)).length := by
  unfold ahead
  rw [bl_succ, List.length_append, List.length_append, List.length_append]
  have h1 := kidsTo_len (k := k) (L := L) (ls := ls) w hc
  have h2 := take_kids hi
  have h3 := kids_all (k := k) (L := L) (ls := ls) n
  have h4 : (rg k L ls (n + 1)).length = (((rg k L ls n).take (i + 1)).flatMap (kids k L ls)).length + (((rg k L ls n).drop (i + 1)).flatMap (kids k L ls)).length := by
    rw [← List.length_append, ← List.flatMap_append, List.take_append_drop]
    rfl
  have h5 : (kids k L ls w).length = (kidsTo k L ls w L).length := rfl
  rw [h2, List.length_append] at h4
  omega
theorem bl_bound (S : LS k L ls) (n : Nat) : (bl k L ls n).length ≤ (allRed L n).length :=
  bound_of (Inc.nodup (bl_inc S n)) fun w hw => let ⟨a, b, c⟩ := (mem_bl S).mp hw; ⟨c.red S a, a, b⟩
theorem ahead_yes {n i : Nat} {w : List Nat} {c : Nat} (h : Least k L ls (w ++ [c])) : ahead k L ls n i w (c + 1) = ahead k L ls n i w c ++ [w ++ [c]] := by
  unfold ahead
  rw [kidsTo_yes h]
  simp
theorem ahead_no {n i : Nat} {w : List Nat} {c : Nat} (h : ¬ Least k L ls (w ++ [c])) : ahead k L ls n i w (c + 1) = ahead k L ls n i w c := by
  unfold ahead
  rw [kidsTo_no h]
theorem ahead_zero {n i : Nat} {w : List Nat} : ahead k L ls n i w 0 = bl k L ls n ++ ((rg k L ls n).take i).flatMap (kids k L ls) := by
  unfold ahead
  rw [kidsTo_zero, List.append_nil]
theorem ahead_full {n i : Nat} {w : List Nat} (hi : (rg k L ls n)[i]? = some w) : ahead k L ls n i w L = bl k L ls n ++ ((rg k L ls n).take (i + 1)).flatMap (kids k L ls) := by
  unfold ahead
  rw [take_kids hi]
end
end Lf
set_option Elab.async false
/-! The plain law, 12: reduced words, ring by ring. -/
namespace Lf
def rdTo (w : List Nat) (n : Nat) : List (List Nat) := ((List.range n).filter fun c => w.getLast? != some (oth c)).map fun c => w ++ [c]
theorem rdTo_zero (w : List Nat) : rdTo w 0 = [] := rfl
theorem rdTo_yes {w : List Nat} {c : Nat} (h : w.getLast? ≠ some (oth c)) : rdTo w (c + 1) = rdTo w c ++ [w ++ [c]] := by
  unfold rdTo
  rw [List.range_succ, List.filter_append, List.map_append]
  simp [h]
theorem rdTo_no {w : List Nat} {c : Nat} (h : w.getLast? = some (oth c)) : rdTo w (c + 1) = rdTo w c := by
  unfold rdTo
  rw [List.range_succ, List.filter_append, List.map_append]
  simp [h]
theorem redW_succ (L n : Nat) : redW L (n + 1) = (redW L n).flatMap fun w => rdTo w L := rfl
theorem rdTo_len (w : List Nat) {c d : Nat} (h : c ≤ d) : (rdTo w c).length ≤ (rdTo w d).length := by
  induction h with
  | refl => exact Nat.le_refl _
  | step _ ih =>
    rename_i d _
    by_cases q : w.getLast? = some (oth d)
    · rw [rdTo_no q]; exact ih
    · rw [rdTo_yes q, List.length_append]; omega
/-- the words of the next ring that are there -/
def lgTo (L n i : Nat) : List (List Nat) := ((redW L n).take i).flatMap fun w => rdTo w L
theorem lgTo_next {L n i : Nat} {w : List Nat} (hi : (redW L n)[i]? = some w) : lgTo L n (i + 1) = lgTo L n i ++ rdTo w L := by
  unfold lgTo
  rw [List.take_add_one, hi, List.flatMap_append]
  simp
theorem lgTo_all (L n : Nat) : lgTo L n (redW L n).length = redW L (n + 1) := by
  unfold lgTo
  rw [List.take_length]
  rfl
theorem lgTo_len {L n i : Nat} {w : List Nat} {c : Nat} (hi : (redW L n)[i]? = some w) (hc : c ≤ L) : (lgTo L n i ++ rdTo w c).length ≤ (redW L (n + 1)).length := by
  have h1 := rdTo_len w hc
  have h2 := lgTo_next hi
  have h4 : (redW L (n + 1)).length = (lgTo L n (i + 1)).length + (((redW L n).drop (i + 1)).flatMap fun w => rdTo w L).length := by
    rw [← List.length_append]
    unfold lgTo
    rw [← List.flatMap_append, List.take_append_drop]
    rfl
  rw [h4, h2, List.length_append, List.length_append]
  omega
theorem redW_le (L n : Nat) : (redW L n).length ≤ (allRed L n).length := by
  cases n with
  | zero => rw [allRed_zero]; exact Nat.le_refl _
  | succ n => rw [allRed_succ]; omega
theorem drop_last (w : List Nat) : w.drop (w.length - 1) = w.getLast?.toList := by
  rcases List.eq_nil_or_concat w with rfl | ⟨m, a, rfl⟩
  · rfl
  · simp
end Lf
set_option Elab.async false
namespace Lf
theorem erase_self {lf : List Nat} : ∀ {i y : Nat}, lf[i]? = some y → lf.Perm (y :: lf.eraseIdx i) := by
  induction lf with
  | nil => intro i y h; simp at h
  | cons a l ih =>
    intro i y h
    cases i with
    | zero => simp at h; subst h; exact .refl _
    | succ i =>
      simp at h
      exact ((ih h).cons a).trans (List.Perm.swap _ _ _)
theorem erase_perm {os lf : List Nat} {k i y : Nat} (h : (os ++ lf).Perm (List.range k)) (hy : lf[i]? = some y) : ((os ++ [y]) ++ lf.eraseIdx i).Perm (List.range k) := by
  refine List.Perm.trans ?_ h
  rw [List.append_assoc]
  exact ((erase_self hy).append_left os).symm
theorem erase_map {α β : Type} (f : α → β) : ∀ (l : List α) (i : Nat), (l.map f).eraseIdx i = (l.eraseIdx i).map f
  | [], i => by simp
  | a :: l, 0 => by simp
  | a :: l, i + 1 => by simp [erase_map f l i]
end Lf
set_option Elab.async false
set_option linter.all false
set_option maxRecDepth 100000
set_option maxHeartbeats 4000000
/-! Nested immutable data over the abstract heap; dicts whose keys are such data; a text read backwards. -/
namespace Lw
open PySem L2 Evl

/-! ### immutable data -/
mutual
def NIs (H : Hp) : NestedKey → V → Prop
  | .none, v => v = .non
  | .num i, v => v = .int i
  | .text x, v => v = .str x
  | .tup ks, v => ∃ a vs, v = .ref a ∧ H a = some (.tup vs) ∧ NAll H ks vs
def NAll (H : Hp) : List NestedKey → List V → Prop
  | [], vs => vs = []
  | k :: ks, vs => ∃ v r, vs = v :: r ∧ NIs H k v ∧ NAll H ks r
end
/-- the tuples stay -/
def TK (H H' : Hp) : Prop := ∀ a xs, H a = some (.tup xs) → H' a = some (.tup xs)
theorem TK.refl (H : Hp) : TK H H := fun _ _ h => h
theorem TK.trans {H H1 H2 : Hp} (a : TK H H1) (b : TK H1 H2) : TK H H2 := fun c o h => b c o (a c o h)
theorem TK.of {H H' : Hp} (e : Ex H H') : TK H H' := fun a xs h => e a _ h
theorem TK.upd {H : Hp} {a : Addr} {o : HO} (h : ∀ xs, H a ≠ some (.tup xs)) : TK H (upd H a o) := fun b xs hb => by
  rw [upd_ne (fun e => by rw [e] at hb; exact h xs hb)]; exact hb
mutual
theorem NIs.mono {H H' : Hp} (t : TK H H') : ∀ (k : NestedKey) (v : V), NIs H k v → NIs H' k v
  | .none, _, h => h
  | .num _, _, h => h
  | .text _, _, h => h
  | .tup ks, v, h => by
    unfold NIs at h ⊢
    obtain ⟨a, vs, e, ha, h⟩ := h
    exact ⟨a, vs, e, t a vs ha, NAll.mono t ks vs h⟩
theorem NAll.mono {H H' : Hp} (t : TK H H') : ∀ (ks : List NestedKey) (vs : List V), NAll H ks vs → NAll H' ks vs
  | [], _, h => h
  | k :: ks, vs, h => by
    unfold NAll at h ⊢
    obtain ⟨v, r, e, h1, h2⟩ := h
    exact ⟨v, r, e, NIs.mono t k v h1, NAll.mono t ks r h2⟩
end
theorem nis_tup {H : Hp} {ks : List NestedKey} {v : V} : NIs H (.tup ks) v ↔ ∃ a vs, v = .ref a ∧ H a = some (.tup vs) ∧ NAll H ks vs := by
  rw [NIs]
theorem nis_num {H : Hp} {i : Int} {v : V} : NIs H (.num i) v ↔ v = .int i := by rw [NIs]
theorem nis_text {H : Hp} {x : Str} {v : V} : NIs H (.text x) v ↔ v = .str x := by rw [NIs]
theorem nall_nil {H : Hp} {vs : List V} : NAll H [] vs ↔ vs = [] := by rw [NAll]
theorem nall_cons {H : Hp} {k : NestedKey} {ks : List NestedKey} {vs : List V} : NAll H (k :: ks) vs ↔ ∃ v r, vs = v :: r ∧ NIs H k v ∧ NAll H ks r := by rw [NAll]
theorem NAll.length {H : Hp} : ∀ {ks : List NestedKey} {vs : List V}, NAll H ks vs → vs.length = ks.length
  | [], _, h => by rw [nall_nil] at h; rw [h]; rfl
  | k :: ks, _, h => by
    obtain ⟨v, r, rfl, _, h⟩ := nall_cons.mp h
    simp [NAll.length h]
theorem NAll.get {H : Hp} : ∀ {ks : List NestedKey} {vs : List V} {i : Nat} {k : NestedKey}, NAll H ks vs → ks[i]? = some k → ∃ v, vs[i]? = some v ∧ NIs H k v
  | [], _, _, _, _, e => by simp at e
  | k :: ks, _, 0, _, h, e => by
    obtain ⟨v, r, rfl, h1, h⟩ := nall_cons.mp h
    simp at e
    subst e
    exact ⟨v, rfl, h1⟩
  | k :: ks, _, i + 1, j, h, e => by
    obtain ⟨v, r, rfl, h1, h⟩ := nall_cons.mp h
    obtain ⟨u, h2, h3⟩ := NAll.get (i := i) (k := j) h (by simpa using e)
    exact ⟨u, by simpa using h2, h3⟩
theorem NAll.at {H : Hp} {ks : List NestedKey} {vs : List V} {i : Nat} {v : V} (h : NAll H ks vs) (e : vs[i]? = some v) : ∃ k, ks[i]? = some k ∧ NIs H k v := by
  have hi : i < ks.length := by rw [← h.length]; exact (List.getElem?_eq_some_iff.mp e).1
  obtain ⟨u, h1, h2⟩ := h.get (List.getElem?_eq_getElem hi)
  rw [e] at h1
  cases h1
  exact ⟨_, List.getElem?_eq_getElem hi, h2⟩
theorem NAll.append {H : Hp} : ∀ {ks js : List NestedKey} {vs ws : List V}, NAll H ks vs → NAll H js ws → NAll H (ks ++ js) (vs ++ ws)
  | [], _, _, _, h, h' => by rw [nall_nil] at h; subst h; exact h'
  | k :: ks, js, _, ws, h, h' => by
    obtain ⟨v, r, rfl, h1, h⟩ := nall_cons.mp h
    exact nall_cons.mpr ⟨v, r ++ ws, rfl, h1, NAll.append h h'⟩
theorem NAll.snoc {H : Hp} {ks : List NestedKey} {vs : List V} {k : NestedKey} {v : V} (h : NAll H ks vs) (h' : NIs H k v) : NAll H (ks ++ [k]) (vs ++ [v]) :=
  h.append (nall_cons.mpr ⟨v, [], rfl, h', nall_nil.mpr rfl⟩)
theorem nall_nums {H : Hp} : ∀ {is : List Int} {vs : List V}, NAll H (is.map .num) vs ↔ vs = is.map V.int
  | [], vs => by simp [nall_nil]
  | i :: is, vs => by
    rw [List.map_cons, nall_cons]
    constructor
    · rintro ⟨v, r, rfl, h1, h2⟩
      rw [nis_num] at h1
      rw [nall_nums (is := is)] at h2
      rw [h1, h2]
      rfl
    · rintro rfl
      exact ⟨_, _, rfl, nis_num.mpr rfl, nall_nums.mpr rfl⟩
theorem nall_texts {H : Hp} : ∀ {xs : List Str} {vs : List V}, NAll H (xs.map .text) vs ↔ vs = xs.map V.str
  | [], vs => by simp [nall_nil]
  | i :: is, vs => by
    rw [List.map_cons, nall_cons]
    constructor
    · rintro ⟨v, r, rfl, h1, h2⟩
      rw [nis_text] at h1
      rw [nall_texts (xs := is)] at h2
      rw [h1, h2]
      rfl
    · rintro rfl
      exact ⟨_, _, rfl, nis_text.mpr rfl, nall_texts.mpr rfl⟩
mutual
theorem NIs.real {P : Program} {w : World} {H : Hp} {h : Heap} (ok : HOk P w H h) : ∀ (k : NestedKey) (v : V) (u : Value), NIs H k v → RelV v u → NestedIs h k u
  | .none, _, u, e, r => by
    unfold NIs at e
    subst e
    cases r
    exact .none
  | .num i, _, u, e, r => by
    unfold NIs at e
    subst e
    obtain ⟨t, rfl⟩ := r
    exact .int i t
  | .text x, _, u, e, r => by
    unfold NIs at e
    subst e
    obtain ⟨t, rfl⟩ := r
    exact .text x t
  | .tup ks, _, u, e, r => by
    unfold NIs at e
    obtain ⟨a, vs, rfl, ha, hk⟩ := e
    cases r
    obtain ⟨_, its, rv, o, ho, hc, n, hd⟩ := ok a _ ha
    exact .tup ho hc hd (NAll.real ok ks vs _ hk (by simpa using rv))
theorem NAll.real {P : Program} {w : World} {H : Hp} {h : Heap} (ok : HOk P w H h) : ∀ (ks : List NestedKey) (vs : List V) (us : List Value), NAll H ks vs → Vals vs us → NestedAll h ks us
  | [], _, us, e, r => by
    unfold NAll at e
    subst e
    cases r
    exact .nil
  | k :: ks, _, us, e, r => by
    unfold NAll at e
    obtain ⟨v, rr, rfl, h1, h2⟩ := e
    cases r with
    | cons r1 r2 => exact .cons (NIs.real ok k v _ h1 r1) (NAll.real ok ks rr _ h2 r2)
end

/-! ### a dict whose keys are such data -/
abbrev NX := List (NestedKey × Addr × V)
abbrev NXR : NX → List (NestedKey × Addr × Value) → Prop := Paired fun p q => p.1 = q.1 ∧ p.2.1 = q.2.1 ∧ RelV p.2.2 q.2.2
def DNraw (P : Program) (w : World) (d : Addr) (xs : NX) (h : Heap) : Prop :=
  xs.length ≤ sizeLine ∧ (d == sysModules) = false ∧ ∃ vs, NXR xs vs ∧ ∃ o es ep, h.get? d = some o ∧ o.ExactDict ∧ o.data = .dict es ep ∧ es.toList = vs.map (entryOfKey (nestedKind P w)) ∧ (vs.map (·.1)).Nodup
def DNo (P : Program) (w : World) (d : Addr) (xs : NX) : HO := .ext (DNraw P w d xs)
theorem dn_obj {P : Program} {w : World} {H : Hp} {h : Heap} {d : Addr} {xs : NX} (x : DNraw P w d xs h) : ObjOk P w H h d (DNo P w d xs) := by
  refine ⟨x, ?_, fun h1 h2 p k => ?_⟩
  · obtain ⟨_, _, vs, _, o, _, _, ho, _⟩ := x
    exact ⟨o, ho⟩
  · obtain ⟨a, b, vs, r, o, es, ep, ho, c⟩ := p
    exact ⟨a, b, vs, r, o, es, ep, k o ho, c⟩
def pairsN (xs : NX) : List (NestedKey × V) := xs.map fun x => (x.1, x.2.2)
/-- at d stands a dict with the keys and values kvs, in order; the keys' tuples stand -/
def DN (P : Program) (w : World) (H : Hp) (d : Addr) (kvs : List (NestedKey × V)) : Prop :=
  ∃ xs : NX, H d = some (DNo P w d xs) ∧ pairsN xs = kvs ∧ ∀ x ∈ xs, NIs H x.1 (.ref x.2.1) ∧ x.1.depth ≤ 8
theorem DN.ext {P : Program} {w : World} {H : Hp} {d : Addr} {kvs : List (NestedKey × V)} (h : DN P w H d kvs) : ∃ φ, H d = some (.ext φ) := let ⟨_, e, _⟩ := h; ⟨_, e⟩
theorem DN.mono {P : Program} {w : World} {H H' : Hp} {d : Addr} {kvs : List (NestedKey × V)} (h : DN P w H d kvs) (t : TK H H') (e : ∀ φ, H d = some (.ext φ) → H' d = some (.ext φ)) : DN P w H' d kvs := by
  obtain ⟨xs, h1, h2, h3⟩ := h
  exact ⟨xs, e _ h1, h2, fun x hx => ⟨NIs.mono t _ _ (h3 x hx).1, (h3 x hx).2⟩⟩
theorem NXR.len {xs : NX} {vs : List (NestedKey × Addr × Value)} (r : NXR xs vs) : xs.length = vs.length := Paired.length r
theorem NXR.val {xs : NX} {vs : List (NestedKey × Addr × Value)} (r : NXR xs vs) (k : NestedKey) : RelO (valV (pairsN xs) k) ((atKey vs k).map (·.2)) := by
  induction r with
  | nil => exact True.intro
  | cons r t ih =>
    rename_i p q xs vs
    obtain ⟨e1, e2, e3⟩ := r
    by_cases h : p.1 = k
    · have h' : q.1 = k := e1 ▸ h
      show RelO (valV ((p.1, p.2.2) :: pairsN xs) k) _
      rw [valV_pos h]
      simp [atKey, h']
      exact e3
    · have h' : ¬ q.1 = k := fun z => h (e1 ▸ z)
      show RelO (valV ((p.1, p.2.2) :: pairsN xs) k) _
      rw [valV_neg h]
      have e : atKey (q :: vs) k = atKey vs k := by simp [atKey, h']
      rw [e]
      exact ih
theorem NXR.repl {xs : NX} {vs : List (NestedKey × Addr × Value)} (r : NXR xs vs) (k : NestedKey) {y : V} {u : Value} (ry : RelV y u) : NXR (xs.map fun x => if x.1 = k then (x.1, x.2.1, y) else x) (vs.map (putAt k u)) := by
  induction r with
  | nil => exact .nil
  | cons r t ih =>
    rename_i p q xs vs
    obtain ⟨e1, e2, e3⟩ := r
    refine .cons ?_ ih
    unfold putAt
    dsimp only
    by_cases h : p.1 = k
    · have h' : q.1 = k := e1 ▸ h
      rw [if_pos h, if_pos h']
      exact ⟨e1, e2, ry⟩
    · have h' : ¬ q.1 = k := fun z => h (e1 ▸ z)
      rw [if_neg h, if_neg h']
      exact ⟨e1, e2, e3⟩
theorem Paired_append {α β : Type} {R : α → β → Prop} {l l' : List α} {m m' : List β} (h : Paired R l m) (h' : Paired R l' m') : Paired R (l ++ l') (m ++ m') := by
  induction h with
  | nil => exact h'
  | cons r _ ih => exact .cons r ih
/-- d[k] = y, told with the keys' addresses -/
def putNX (xs : NX) (k : NestedKey) (b : Addr) (y : V) : NX := if (valV (pairsN xs) k).isSome then xs.map (fun x => if x.1 = k then (x.1, x.2.1, y) else x) else xs ++ [(k, b, y)]
theorem pairs_put (xs : NX) (k : NestedKey) (b : Addr) (y : V) : pairsN (putNX xs k b y) = putK (pairsN xs) k y := by
  unfold putNX putK
  rw [valV_any]
  split
  · unfold pairsN
    rw [List.map_map, List.map_map]
    refine List.map_congr_left fun x _ => ?_
    by_cases h : x.1 = k <;> simp [h]
  · simp [pairsN]
theorem NXR.put {xs : NX} {vs : List (NestedKey × Addr × Value)} (r : NXR xs vs) (k : NestedKey) {b : Addr} {y : V} {u : Value} (ry : RelV y u) : NXR (putNX xs k b y) (storedH vs k b u) := by
  have e : (valV (pairsN xs) k).isSome = (atKey vs k).isSome := by
    rw [(r.val k).isSome_eq]
    simp
  unfold putNX storedH
  rw [e]
  split
  · exact r.repl k ry
  · exact Paired_append r (.cons ⟨rfl, rfl, ry⟩ .nil)
theorem putNX_len (xs : NX) (k : NestedKey) (b : Addr) (y : V) : (putNX xs k b y).length ≤ xs.length + 1 := by
  unfold putNX
  split <;> simp
theorem mem_putNX {xs : NX} {k : NestedKey} {b : Addr} {y : V} {x : NestedKey × Addr × V} (h : x ∈ putNX xs k b y) : (∃ z ∈ xs, x.1 = z.1 ∧ x.2.1 = z.2.1) ∨ (x.1 = k ∧ x.2.1 = b) := by
  unfold putNX at h
  split at h
  · obtain ⟨z, hz, rfl⟩ := List.mem_map.mp h
    refine .inl ⟨z, hz, ?_⟩
    by_cases q : z.1 = k <;> simp [q]
  · rcases List.mem_append.mp h with h | h
    · exact .inl ⟨x, h, rfl, rfl⟩
    · simp at h
      subst h
      exact .inr ⟨rfl, rfl⟩
section
variable {X : Cx} {pins : List (Addr × Obj)} {σ : L2.St} {H : Hp} {s : Shared} {a b : Addr} {d : V} {u r : Value} {k : NestedKey} {A : Around} {E : Value → Shared → Prop} {kvs : List (NestedKey × V)}
theorem dn_at (I : Inv X pins σ H s) {xs : NX} (e : H a = some (DNo X.prog X.w a xs)) (hk : ∀ x ∈ xs, NIs H x.1 (.ref x.2.1) ∧ x.1.depth ≤ 8) :
    xs.length ≤ sizeLine ∧ (a == sysModules) = false ∧ ∃ vs, NXR xs vs ∧ s.heap.DictOfH (nestedKind X.prog X.w) a vs := by
  obtain ⟨⟨z, hd, vs, rel, o, es, ep, ho, hc, hdat, he, hn⟩, _⟩ := I.hok a _ e
  refine ⟨z, hd, vs, rel, o, es, ep, ho, hc, hdat, he, ?_, hn⟩
  intro q hq
  have : ∀ {xs : NX} {vs : List (NestedKey × Addr × Value)}, NXR xs vs → (∀ x ∈ xs, NIs H x.1 (.ref x.2.1) ∧ x.1.depth ≤ 8) → ∀ q ∈ vs, NIs H q.1 (.ref q.2.1) ∧ q.1.depth ≤ 8 := by
    intro xs vs rel
    induction rel with
    | nil => intro _ q hq; nomatch hq
    | cons r t ih =>
      intro hk q hq
      rcases List.mem_cons.mp hq with rfl | hq
      · rw [← r.1, ← r.2.1]; exact hk _ List.mem_cons_self
      · exact ih (fun x hx => hk x (List.mem_cons_of_mem _ hx)) q hq
  have h := this rel hk q hq
  exact ⟨NIs.real I.hok _ _ _ h.1 rfl, h.2⟩
theorem dn_write {xs : NX} {h' : Heap} {t' : Nat} (I : Inv X pins σ H s) (e : H a = some (DNo X.prog X.w a xs)) (hk : ∀ x ∈ xs, NIs H x.1 (.ref x.2.1) ∧ x.1.depth ≤ 8) (hb : NIs H k (.ref b)) (hdp : k.depth ≤ 8) (hl : xs.length < sizeLine)
    {vs : List (NestedKey × Addr × Value)} (rel : NXR xs vs) (rd : RelV d r) (hd : (a == sysModules) = false) (hm : h'.DictOfH (nestedKind X.prog X.w) a (storedH vs k b r)) (hs : Heap.SameBut a s.heap h') :
    ∃ H', Inv X pins σ H' { s with heap := h', toks := t' } ∧ (∀ c, c ≠ a → H' c = H c) ∧ DN X.prog X.w H' a (putK (pairsN xs) k d) := by
  obtain ⟨o, es, ep, ho, hc, hdat, he, his, hn⟩ := hm
  refine ⟨upd H a (DNo X.prog X.w a (putNX xs k b d)), ?_, fun c hc => upd_ne hc, ?_⟩
  · refine d_write I (by rw [e]; exact True.intro) hs ⟨o, ho⟩ (dn_obj ?_)
    exact ⟨by have := putNX_len xs k b d; omega, hd, _, rel.put k rd, o, es, ep, ho, hc, hdat, he, hn⟩
  · refine ⟨_, upd_same, pairs_put xs k b d, fun x hx => ?_⟩
    have t : TK H (upd H a (DNo X.prog X.w a (putNX xs k b d))) := TK.upd fun xs q => by rw [e] at q; cases q
    rcases mem_putNX hx with ⟨z, hz, e1, e2⟩ | ⟨e1, e2⟩
    · rw [e1, e2]
      exact ⟨NIs.mono t _ _ (hk z hz).1, (hk z hz).2⟩
    · rw [e1, e2]
      exact ⟨NIs.mono t _ _ hb, hdp⟩
theorem dn_room (hu : A.units + 64 < cLine) : (nestedKind X.prog X.w).room A.in1 := by
  show A.units + 1 + 8 < cLine
  omega
theorem dn_get2 {Q : Value → Shared → Prop} (hu : A.units + 64 < cLine) (I : Inv X pins σ H s) (g : DN X.prog X.w H a kvs) (hb : NIs H k (.ref b)) (hdp : k.depth ≤ 8) (rd : RelV d r)
    (h : ∀ w' s', Inv X pins σ H s' → RelV ((valV kvs k).getD d) w' → Q w' s') : wpAny (model X.prog X.w) A (call (.builtin "dict.get") [.ref a, .ref b, r]) Q E s := by
  obtain ⟨xs, e, rfl, hk⟩ := g
  obtain ⟨z, hd, vs, rel, dd⟩ := dn_at I e hk
  refine call_meetsIn PySem.F.slot_dict_get dd.typeIs PySem.F.entry_dict_get (PySem.F.args_dict_get_3 _ _ _) (meetsH_dict_get_default (nestedKind X.prog X.w) a b hd r) ⟨dn_room hu, k, vs, ⟨NIs.real I.hok _ _ _ hb rfl, hdp⟩, dd, h _ _ (I.tok _) ?_⟩
  exact (rel.val k).getD rd
theorem dn_setd {Q : Value → Shared → Prop} (hu : A.units + 64 < cLine) (I : Inv X pins σ H s) (g : DN X.prog X.w H a kvs) (hb : NIs H k (.ref b)) (hdp : k.depth ≤ 8) (rd : RelV d r) (hl : kvs.length < sizeLine)
    (h1 : ∀ v, valV kvs k = some v → ∀ (w' : Value) (s' : Shared), Inv X pins σ H s' → RelV v w' → Q w' s')
    (h2 : valV kvs k = none → ∀ (w' : Value) (s' : Shared) (H' : Hp), (∀ c, c ≠ a → H' c = H c) → DN X.prog X.w H' a (putK kvs k d) → Inv X pins σ H' s' → RelV d w' → Q w' s') :
    wpAny (model X.prog X.w) A (call (.builtin "dict.setdefault") [.ref a, .ref b, r]) Q E s := by
  obtain ⟨xs, e, rfl, hk⟩ := g
  have hl' : xs.length < sizeLine := by simpa [pairsN] using hl
  obtain ⟨z, hd, vs, rel, dd⟩ := dn_at I e hk
  refine call_setdefault_heap (hsz := by rw [← rel.len]; exact z) (knd := nestedKind X.prog X.w) (dn_room hu) ⟨NIs.real I.hok _ _ _ hb rfl, hdp⟩ hd dd (fun p hp => ?_) fun hn h' hm hs => ?_
  · have q := rel.val k
    rw [hp] at q
    cases q0 : valV (pairsN xs) k with
    | none => rw [q0] at q; exact (show False from q).elim
    | some v0 => rw [q0] at q; exact h1 v0 q0 _ _ (I.tok _) q
  · have q := rel.val k
    rw [hn] at q
    cases q0 : valV (pairsN xs) k with
    | some v0 => rw [q0] at q; exact (show False from q).elim
    | none =>
      obtain ⟨H', I', h3, h4⟩ := dn_write (t' := s.toks + (nestedKind X.prog X.w).draws k) I e hk hb hdp hl' rel rd hd hm hs
      exact h2 q0 _ _ H' h3 h4 I' rd
theorem dn_setItem {Q : Unit → Shared → Prop} (hu : A.units + 64 < cLine) (I : Inv X pins σ H s) (g : DN X.prog X.w H a kvs) (hb : NIs H k (.ref b)) (hdp : k.depth ≤ 8) (rd : RelV d r) (hl : kvs.length < sizeLine)
    (h : ∀ (s' : Shared) (H' : Hp), (∀ c, c ≠ a → H' c = H c) → DN X.prog X.w H' a (putK kvs k d) → Inv X pins σ H' s' → Q () s') : wpAny (model X.prog X.w) A (setItem (.ref a) (.ref b) r) Q E s := by
  obtain ⟨xs, e, rfl, hk⟩ := g
  have hl' : xs.length < sizeLine := by simpa [pairsN] using hl
  obtain ⟨z, hd, vs, rel, dd⟩ := dn_at I e hk
  refine wpAny_setItem_heap (hsz := by rw [← rel.len]; exact z) (knd := nestedKind X.prog X.w) (dn_room hu) ⟨NIs.real I.hok _ _ _ hb rfl, hdp⟩ dd fun h' hm hs => ?_
  obtain ⟨H', I', h3, h4⟩ := dn_write (t' := s.toks + (nestedKind X.prog X.w).draws k) I e hk hb hdp hl' rel rd hd hm hs
  exact h _ H' h3 h4 I'
theorem dn_typ (I : Inv X pins σ H s) (g : DN X.prog X.w H a kvs) : s.TypeIs (.ref a) "dict" ∧ (∀ b, Value.ref a = .ref b → ∃ ob, s.heap.get? b = some ob ∧ ob.dict = none) := by
  obtain ⟨xs, e, rfl, hk⟩ := g
  obtain ⟨z, hd, vs, rel, dd⟩ := dn_at I e hk
  refine ⟨dd.typeIs, fun b q => ?_⟩
  cases q
  obtain ⟨ob, _, _, h1, h2, _⟩ := dd
  exact ⟨ob, h1, h2.2.1⟩
theorem dn_len {Q : Value → Shared → Prop} (I : Inv X pins σ H s) (g : DN X.prog X.w H a kvs) (h : ∀ t s', Inv X pins σ H s' → Q (.int kvs.length t) s') : wpAny (model X.prog X.w) A (call (.builtin "len") [.ref a]) Q E s := by
  obtain ⟨xs, e, rfl, hk⟩ := g
  obtain ⟨z, hd, vs, rel, dd⟩ := dn_at I e hk
  have hz : vs.length ≤ sizeLine := by rw [← rel.len]; exact z
  have e1 : (pairsN xs).length = vs.length := by rw [← rel.len]; simp [pairsN]
  rw [e1] at h
  have hm : s.heap.DictKeyed (nestedKind X.prog X.w) a (pairsH vs) := ⟨vs, dd, rfl⟩
  refine PyProof.Rows.call_len_slot (n := vs.length) hm.typeIs F.slot_dict_len (fun Q' hq => len_keyed hd hm (by rw [pairsH_length]; exact hq)) (by omega) (by rw [sizeLine_eq] at hz; omega) ?_
  exact h _ _ (I.tok _)
end

/-! ### the rules -/
/-- {} -/
def tDNew (P : Program) (w : World) : TE := fun _ H Q => ∀ p, H p = none → ∀ H', (∀ c, c ≠ p → H' c = H c) → DN P w H' p [] → Q (.ref p) H'
/-- d.get(y, z) -/
def tDNGet (P : Program) (w : World) (td ty tx : TE) : TE := fun σ H Q => td σ H fun x H1 => ∃ a, x = .ref a ∧ (∃ kvs, DN P w H1 a kvs) ∧ ty σ H1 fun y H2 => tx σ H2 fun z H3 => ∃ kvs k b, y = .ref b ∧ DN P w H3 a kvs ∧ NIs H3 k (.ref b) ∧ k.depth ≤ 8 ∧ Q ((valV kvs k).getD z) H3
def tDNSetd (P : Program) (w : World) (td ty tx : TE) : TE := fun σ H Q => td σ H fun x H1 => ∃ a, x = .ref a ∧ (∃ kvs, DN P w H1 a kvs) ∧ ty σ H1 fun y H2 => tx σ H2 fun z H3 => ∃ kvs k b, y = .ref b ∧ DN P w H3 a kvs ∧ NIs H3 k (.ref b) ∧ k.depth ≤ 8 ∧ kvs.length < sizeLine ∧
  (∀ v, valV kvs k = some v → Q v H3) ∧ (valV kvs k = none → ∀ H', (∀ c, c ≠ a → H' c = H3 c) → DN P w H' a (putK kvs k z) → Q z H')
def sDNPut (P : Program) (w : World) (td ty tv : TE) : TS := fun D σ H => tv σ H fun v H1 => td σ H1 fun x H2 => ty σ H2 fun y H3 => ∃ a kvs k b, x = .ref a ∧ y = .ref b ∧ DN P w H3 a kvs ∧ NIs H3 k (.ref b) ∧ k.depth ≤ 8 ∧ kvs.length < sizeLine ∧
  ∀ H', (∀ c, c ≠ a → H' c = H3 c) → DN P w H' a (putK kvs k v) → D.nx σ H'
def rLenDN (P : Program) (w : World) : List V → Hp → VK → Prop := fun xs H Q => ∃ a kvs, xs = [.ref a] ∧ DN P w H a kvs ∧ Q (.int (kvs.length : Int)) H
section
variable {X : Cx} {o e f i value : Expr} {td ty tx tv : TE} {apos cpos pos pos' : Pos}
theorem pe_dnnew : PE X (.Dict [] [] pos) (tDNew X.prog X.w) := ⟨fun pins s σ H Q I h => by
  have hb := I.big
  have raw : DNraw X.prog X.w s.heap.objs.size [] (s.heap.push { cls := .type "dict", data := .dict #[] }) :=
    ⟨Nat.zero_le _, beq_eq_false_iff_ne.mpr (Ne.symm (Nat.ne_of_lt hb)), [], .nil, _, #[], 0, Heap.get?_push_size _ rfl, ⟨rfl, rfl, rfl⟩, rfl, rfl, List.nodup_nil⟩
  exact wpAny_Dict_empty ⟨.ref s.heap.objs.size, _, I.laid (a := s.heap.objs.size) (o := DNo X.prog X.w s.heap.objs.size []) (t' := s.toks) (fun _ _ q => Heap.get?_push_of_some _ q) (Nat.le_refl _) (dn_obj raw), rfl,
    h _ (I.hok.fresh (Nat.le_refl _)) _ (fun c hc => upd_ne hc) ⟨[], upd_same, rfl, fun x hx => nomatch hx⟩⟩⟩
theorem pe_dnget (hu : X.A.units + 64 < cLine) (ho : PE X o td) (he : PE X e ty) (hf : PE X f tx) (m : M2 X o "get" apos e f cpos) : PE X (.Call (.Attribute o "get" apos) [e, f] [] cpos) (tDNGet X.prog X.w td ty tx) := by
  refine ⟨fun pins s σ H Q I h => ?_⟩
  refine wpAny_Call_method m.base m.few m.line PySem.F.plainAttrs_dict PySem.F.slot_dict_get PySem.F.type_dict_get (thn (ho.run pins s σ H _ I h) fun u s1 ⟨x, H1, I1, rx, a, ex, d, q1⟩ => ?_)
  subst ex
  obtain rfl : u = Value.ref a := rx
  obtain ⟨kvs0, d⟩ := d
  obtain ⟨t1, t2⟩ := dn_typ I1 d
  refine ⟨t1, t2, ?_⟩
  rw [m.trees]
  refine Calls.callWith_builtin rfl (Calls.evalArgs_plain (Calls.spliced_cons (thn (he.run pins s1 σ H1 _ I1 q1) fun iv s2 ⟨y, H2, I2, ry, q2⟩ =>
    Calls.spliced_cons (thn (hf.run pins s2 σ H2 _ I2 q2) fun fv s3 ⟨z, H3, I3, rz, kvs, k, b, ey, g, hb, hdp, q3⟩ => Calls.spliced_nil ?_))))
  subst ey
  obtain rfl : iv = Value.ref b := ry
  exact dn_get2 hu I3 g hb hdp rz fun w' s4 I4 rw' => ⟨_, H3, I4, rw', q3⟩
theorem pe_dnsetd (hu : X.A.units + 64 < cLine) (ho : PE X o td) (he : PE X e ty) (hf : PE X f tx) (m : M2 X o "setdefault" apos e f cpos) : PE X (.Call (.Attribute o "setdefault" apos) [e, f] [] cpos) (tDNSetd X.prog X.w td ty tx) := by
  refine ⟨fun pins s σ H Q I h => ?_⟩
  refine wpAny_Call_method m.base m.few m.line PySem.F.plainAttrs_dict PySem.F.slot_dict_setdefault PySem.F.type_dict_setdefault (thn (ho.run pins s σ H _ I h) fun u s1 ⟨x, H1, I1, rx, a, ex, d, q1⟩ => ?_)
  subst ex
  obtain rfl : u = Value.ref a := rx
  obtain ⟨kvs0, d⟩ := d
  obtain ⟨t1, t2⟩ := dn_typ I1 d
  refine ⟨t1, t2, ?_⟩
  rw [m.trees]
  refine Calls.callWith_builtin rfl (Calls.evalArgs_plain (Calls.spliced_cons (thn (he.run pins s1 σ H1 _ I1 q1) fun iv s2 ⟨y, H2, I2, ry, q2⟩ =>
    Calls.spliced_cons (thn (hf.run pins s2 σ H2 _ I2 q2) fun fv s3 ⟨z, H3, I3, rz, kvs, k, b, ey, g, hb, hdp, hl, q3, q4⟩ => Calls.spliced_nil ?_))))
  subst ey
  obtain rfl : iv = Value.ref b := ry
  exact dn_setd hu I3 g hb hdp rz hl (fun v hv w' s4 I4 rw' => ⟨v, _, I4, rw', q3 v hv⟩) fun hn w' s4 H' hc hg I4 rw' => ⟨z, H', I4, rw', q4 hn H' hc hg⟩
theorem ps_dnput (hu : X.A.units + 64 < cLine) (ho : PE X o td) (hi : PE X i ty) (hv : PE X value tv) (hs : swapsWith value (some (.Subscript o i pos')) pos.line X.env = pure false := by rfl) :
    PS X (.Assign [.Subscript o i pos'] value pos) (sDNPut X.prog X.w td ty tv) := by
  refine ⟨fun pins s σ H D I h => ?_⟩
  refine wpAny_Assign_Subscript (thn (hv.run pins s σ H _ I h) fun v s1 ⟨y, H1, I1, ry, q1⟩ => ?_) hs
  refine thn (ho.run pins s1 σ H1 _ I1 q1) fun ov s2 ⟨x, H2, I2, rx, q2⟩ => ?_
  refine thn (hi.run pins s2 σ H2 _ I2 q2) fun iv s3 ⟨z, H3, I3, rz, a, kvs, k, b, ex, ez, g, hb, hdp, hl, q3⟩ => ?_
  subst ex
  subst ez
  obtain rfl : ov = Value.ref a := rx
  obtain rfl : iv = Value.ref b := rz
  exact dn_setItem hu I3 g hb hdp ry hl fun s4 H' hc hg I4 => ⟨σ, H', I4, q3 H' hc hg⟩
theorem call_lenDN : CallR X (.builtin "len") (rLenDN X.prog X.w) := by
  intro pins s σ H xs us Q I r h
  obtain ⟨a, kvs, rfl, g, q⟩ := h
  obtain ⟨u, rfl, ru⟩ := vals1 r
  obtain rfl : u = Value.ref a := ru
  exact dn_len I g fun t s' I' => ⟨.int _, H, I', ⟨t, rfl⟩, q⟩
end
end Lw
set_option Elab.async false
set_option linter.all false
set_option maxRecDepth 100000
set_option maxHeartbeats 4000000
/-! Words as texts; a text read backwards; the written texts of the program. -/
namespace Lw
open PySem L2 Evl Lf

def chr (c : Nat) : Nat := if c % 2 = 0 then 97 + c / 2 else 65 + c / 2
def txt (w : List Nat) : Str := ⟨(w.map chr).toArray⟩
theorem chr_inj {a b : Nat} (ha : a < 16) (hb : b < 16) (h : chr a = chr b) : a = b := by
  unfold chr at h
  split at h <;> split at h <;> omega
theorem txt_len (w : List Nat) : (txt w).length = w.length := by simp [txt, Str.length]
theorem txt_cps (w : List Nat) : (txt w).cps.toList = w.map chr := by simp [txt]
theorem txt_append (u v : List Nat) : txt (u ++ v) = txt u ++ txt v := by
  show txt (u ++ v) = (⟨(txt u).cps ++ (txt v).cps⟩ : Str)
  simp [txt]
theorem txt_inj {u : List Nat} : ∀ {v : List Nat}, Wd 16 u → Wd 16 v → txt u = txt v → u = v := by
  intro v hu hv h
  have e : u.map chr = v.map chr := by rw [← txt_cps, ← txt_cps, h]
  clear h
  induction u generalizing v with
  | nil => cases v with
    | nil => rfl
    | cons d v => simp at e
  | cons c u ih => cases v with
    | nil => simp at e
    | cons d v =>
      simp only [List.map_cons, List.cons.injEq] at e
      rw [chr_inj hu.head hv.head e.1, ih hu.tail hv.tail e.2]
theorem txt_one (c : Nat) : txt [c] = (⟨#[chr c]⟩ : Str) := rfl
theorem txt_nil : txt [] = (⟨#[]⟩ : Str) := rfl
theorem txt_join (w : List Nat) : Txt.join ⟨#[]⟩ (w.map fun c => txt [c]) = txt w := by
  show Builtin.Str.glued _ _ = _
  rw [StrLaws.glued_eq_join]
  induction w with
  | nil => rfl
  | cons c w ih =>
    cases w with
    | nil => rfl
    | cons d w =>
      show txt [c] ++ (⟨#[]⟩ : Str) ++ Str.join ⟨#[]⟩ ((d :: w).map fun c => txt [c]) = txt (c :: d :: w)
      rw [ih, ← txt_nil, ← txt_append, ← txt_append]
      rfl
theorem txt_rev (w : List Nat) : (⟨(txt w).cps.toList.reverse.toArray⟩ : Str) = txt w.reverse := by
  rw [txt_cps, ← List.map_reverse]
  rfl

/-! ### s[::-1] -/
theorem krv_str (z : Str) : (Builtin.Str.strSliceIndices none none (-1) z.length).filterMap (z.cps[·]?) = z.cps.toList.reverse := by
  have e : Builtin.Str.strSliceIndices none none (-1) z.length = sliceRange ((z.length : Int) - 1) (-1) (-1) := rfl
  rw [e, PySem.W.krv_sliceRange, PySem.W.krv_range, List.filterMap_reverse]
  exact congrArg List.reverse (PySem.W.krv_all z.cps)
def tRevS (te : TE) : TE := fun σ H Q => te σ H fun x H1 => ∃ z, x = .str z ∧ z.length ≤ sizeLine ∧ Q (.str ⟨z.cps.toList.reverse.toArray⟩) H1
theorem pe_revS {X : Cx} {e : Expr} {te : TE} {k : Nat} {p1 p2 p3 pos : Pos} (he : PE X e te) : PE X (.Subscript e (.Slice none none (some (.UnaryOp .USub (.Constant (.int 1) k p1) p2)) p3) pos) (tRevS te) := by
  refine ⟨fun pins s σ H Q I h => ?_⟩
  refine PyProof.Rows.Subscript_ (thn (he.run pins s σ H _ I h) fun v s1 ⟨x, H1, I1, r1, q1⟩ => ?_)
  obtain ⟨z, ex, hz, q⟩ := q1
  subst ex
  obtain ⟨t, rfl⟩ := r1
  have hst : PO X (some (.UnaryOp .USub (.Constant (.int 1) k p1) p2)) (tPart (tUn (rU fun i => .int (-i)) (tC (.int 1)))) := po_some (pe_un un_neg pe_int)
  refine wpAny_Slice (thn (po_none.run pins s1 σ H1 (fun o H2 => o = none ∧ H2 = H1) I1 ⟨rfl, rfl⟩) fun vl s2 ⟨l, H2, I2, pl, el, e2⟩ => ?_)
  subst el e2
  refine thn (po_none.run pins s2 σ H2 (fun o H3 => o = none ∧ H3 = H2) I2 ⟨rfl, rfl⟩) fun vu s3 ⟨u, H3, I3, pu, eu, e3⟩ => ?_
  subst eu e3
  refine thn (hst.run pins s3 σ H3 (fun o H4 => o = some (-1) ∧ H4 = H3) I3 ⟨1, rfl, -1, rfl, rfl, rfl⟩) fun vs s4 ⟨o, H4, I4, ps, eo, e4⟩ => ?_
  subst eo e4
  have I5 : Inv X pins σ H4 { s4 with heap := s4.heap.push { cls := .type "slice", data := .fields #[vl, vu, vs] } } := I4.kept (t' := s4.toks) fun b ob q => Heap.get?_push_of_some _ q
  show wpAny (model X.prog X.w) X.A (PyProof.Rows.subscriptTail e (.Slice none none (some (.UnaryOp .USub (.Constant (.int 1) k p1) p2)) p3) (.str z t) (.ref s4.heap.objs.size)) (EP X pins σ Q) X.xe { s4 with heap := s4.heap.push { cls := .type "slice", data := .fields #[vl, vu, vs] } }
  refine PyProof.Rows.tail_any (ops := [.str z t, .ref s4.heap.objs.size]) (typeIs_str _ z t) (F.slot_str_getitem.lookup) ?_ (by with_unfolding_all rfl)
  obtain ⟨l, rfl, hl⟩ := IsPart.raw pl
  obtain ⟨u, rfl, hu⟩ := IsPart.raw pu
  obtain ⟨st, rfl, hs⟩ := IsPart.raw ps
  refine wpAny_getItem_str_slice (l := l) (u := u) (st := st) ⟨_, Heap.get?_push_size _ rfl, rfl, rfl⟩ (by rw [hs]; decide) ?_
  unfold sliceMade slicePicked
  rw [hl, hu, hs]
  show Made.post (if ((-1 : Int) == 1 && (Builtin.Str.strSliceIndices none none (-1) z.length).length == z.length) = true then Made.val (.str z t)
    else Made.str ⟨((Builtin.Str.strSliceIndices none none (-1) z.length).filterMap (z.cps[·]?)).toArray⟩) (EP X pins σ Q) _
  rw [if_neg (by simp), krv_str]
  refine ⟨?_, .str _, H4, I5.tok _, ⟨_, rfl⟩, q⟩
  show (z.cps.toList.reverse.toArray).size ≤ sizeLine
  simpa [Str.length] using hz

/-! ### the written texts -/
theorem occ_small : ∀ s : Nat, s < 8 → Builtin.Str.occurrences "abcdefgh" ⟨#[97 + s]⟩ 0 (("abcdefgh" : Str).length) 1 = [s] := by decide +kernel
theorem occ_large : ∀ s : Nat, s < 8 → Builtin.Str.occurrences "ABCDEFGH" ⟨#[65 + s]⟩ 0 (("ABCDEFGH" : Str).length) 1 = [s] := by decide +kernel
theorem at_small : ∀ s : Nat, s < 8 → ("abcdefgh" : Str).cps.toList[s]? = some (97 + s) := by decide +kernel
theorem at_large : ∀ s : Nat, s < 8 → ("ABCDEFGH" : Str).cps.toList[s]? = some (65 + s) := by decide +kernel
theorem in_small : ∀ c : Nat, c < 16 → decide (chr c ∈ ("abcdefgh" : Str).cps.toList) = decide (c % 2 = 0) := by decide +kernel
theorem cut_order : ∀ m : Nat, m < 9 → cutS "aAbBcCdDeEfFgGhH" none (some ((2 * m : Nat) : Int)) = txt (List.range (2 * m)) := by decide +kernel
theorem cut_law : ∀ m : Nat, m < 5 → cutS "aAbBcCdD" none (some ((2 * m : Nat) : Int)) = txt (List.range (2 * m)) := by decide +kernel
theorem occ_law : ∀ c : Nat, c < 8 → Builtin.Str.occurrences "aAbBcCdD" ⟨#[chr c]⟩ 0 (("aAbBcCdD" : Str).length) 1 = [c] := by decide +kernel
theorem at_law : ∀ c : Nat, c < 8 → ("AaBbCcDd" : Str).cps.toList[c]? = some (chr (oth c)) := by decide +kernel
theorem at_abcd : ∀ s : Nat, s < 4 → ("abcd" : Str).cps.toList[s]? = some (97 + s) := by decide +kernel
theorem at_ABCD : ∀ s : Nat, s < 4 → ("ABCD" : Str).cps.toList[s]? = some (65 + s) := by decide +kernel
theorem in_abcd : ∀ c : Nat, c < 8 → decide (chr c ∈ ("abcd" : Str).cps.toList) = decide (c % 2 = 0) := by decide +kernel
theorem chr_even (s : Nat) : chr (2 * s) = 97 + s := by unfold chr; rw [if_pos (by omega)]; omega
theorem chr_odd (s : Nat) : chr (2 * s + 1) = 65 + s := by unfold chr; rw [if_neg (by omega)]; omega
end Lw
set_option Elab.async false
set_option linter.all false
set_option maxRecDepth 100000
set_option maxHeartbeats 4000000
/-! enumerate(t), t a tuple. -/
namespace Lw
open PySem L2
set_option maxHeartbeats 1000000 in
theorem meets_enumerate_newB1 {v : Value} {o : Obj} {H : Heap → Prop} (B : Begins v o H) :
    Meets (Builtin.«enumerate.__new__» ⟨[.type "enumerate", v], []⟩) (fun _ R s => H s.heap ∧
      R (.ok (.ret (.ref (s.heap.push o).objs.size))) { s with heap := (s.heap.push o).push { cls := .type "enumerate", data := .fields #[.none, .bool false, .ref s.heap.objs.size, rawInt 0, .none, .none] } }) :=
  .of_wp fun prog w A R s h => by
    obtain ⟨hp, g, d, tk, os⟩ := s; obtain ⟨h1, h⟩ := h
    have hsub := sub_enumerate
    have q1 : ∀ {A' : Around} {E : Value → Shared → Prop} {Q : Value → Shared → Prop}, Q (.ref hp.objs.size) ⟨hp.push o, g, d, tk, os⟩ → wpAny (model prog w) A' (pyIter v) Q E ⟨hp, g, d, tk, os⟩ :=
      fun q => B.iter prog w _ _ ⟨hp, g, d, tk, os⟩ _ h1 q
    wp_walk using q1
    refine wpAny_stack_any fun st => wpAny_pure ?_
    split
    · rename_i c _ _ _ _ _
      cases (c == Value.type "enumerate")
      · wp_walk using q1
        exact ⟨_, rfl, h⟩
      · wp_walk using q1
        exact ⟨_, rfl, h⟩
    · wp_walk using q1
      exact ⟨_, rfl, h⟩
section
variable {prog : Program} {w : World} {A : Around} {E : Value → Shared → Prop} {s : Shared}
theorem call_enumerate_tuple {l : Addr} {items : Array Value} {Q : Value → Shared → Prop} (hL : s.heap.IsTuple l items)
    (h : ∀ h', IsEnum h' (s.heap.objs.size + 1) s.heap.objs.size 0 .none → h'.IsTupleIter s.heap.objs.size l 0 → h'.objs.size = s.heap.objs.size + 2 →
      (∀ b o, s.heap.get? b = some o → h'.get? b = some o) → Q (.ref (s.heap.objs.size + 1)) { s with heap := h' }) :
    wpAny (model prog w) A (call (.type "enumerate") [.ref l]) Q E s := by
  refine callType_new F.called_enumerate (by decide) (F.typeCall_enumerate_1 _) (F.newCall_enumerate_1 _) (fun obj => F.args_object_init_2 obj _) F.entry_enumerate_new
    (meets_enumerate_newB1 (begins_tuple l items)) ⟨hL, ?_⟩
  have hz : (s.heap.push { cls := .type "tuple_iterator", data := .fields #[.ref l, .int 0 0] }).objs.size = s.heap.objs.size + 1 := Heap.size_push ..
  show _ ∧ _
  rw [hz]
  have he : IsEnum ((s.heap.push { cls := .type "tuple_iterator", data := .fields #[.ref l, .int 0 0] }).push
      { cls := .type "enumerate", data := .fields #[.none, .bool false, .ref s.heap.objs.size, rawInt 0, .none, .none] }) (s.heap.objs.size + 1) s.heap.objs.size 0 .none := by
    have := Heap.get?_push_size (s.heap.push { cls := .type "tuple_iterator", data := .fields #[.ref l, .int 0 0] })
      (o := { cls := .type "enumerate", data := .fields #[.none, .bool false, .ref s.heap.objs.size, rawInt 0, .none, .none] }) rfl
    rw [hz] at this; exact this
  refine ⟨⟨_, he, rfl⟩, h _ he ⟨_, Heap.get?_push_of_some _ (Heap.get?_push_size _ rfl), rfl, rfl⟩ (by rw [Heap.size_push, hz]) fun b o x => Heap.get?_push_of_some _ (Heap.get?_push_of_some _ x)⟩
end
def IteT (K : PySem.W.Frag) (a : Addr) : It :=
  ⟨fun i H => ∃ (xs : List V) (x : V), SqT K H a xs ∧ xs[i]? = some x, fun i H v H' => ∃ T x, v = .ref T ∧ H T = none ∧ H' = upd H T (.tup [.int (i : Nat), x]) ∧ ∀ xs, SqT K H a xs → xs[i]? = some x, fun i H => ∃ xs : List V, SqT K H a xs ∧ xs.length = i⟩
theorem turn_enumT {P : Program} {w : World} {K : PySem.W.Frag} {elts : List Expr} {kk : Nat} {tpos : Pos} (a e it : Addr) :
    Turn P w K (.Tuple elts kk tpos) (IteT K a) [e, it] e (fun i h => (∃ old, IsEnum h e it ((i : Nat) : Int) old) ∧ h.IsTupleIter it a i ∧ e ≠ it ∧ a ≠ e ∧ a ≠ it) where
  mem := by simp
  obj := fun i h st b hb => by
    obtain ⟨⟨old, he⟩, ⟨o, ho, hc, hd⟩, _⟩ := st
    have e' : b = e ∨ b = it := by simpa using hb
    rcases e' with z | z
    · rw [z]; exact ⟨_, he, fun v q => nomatch q⟩
    · rw [z]; exact ⟨o, ho, fun v q => by rw [hd] at q; cases q⟩
  keep := fun i h h' st k => let ⟨⟨old, he⟩, hi, hne⟩ := st; ⟨⟨old, k e (by simp) _ he⟩, hi.at fun o q => k it (by simp) o q, hne⟩
  item := by
    intro X hP hw hK hc i pins s σ H E I hf st hg
    subst hP hw hK
    obtain ⟨⟨old, he⟩, hit, hne, hae, hai⟩ := st
    obtain ⟨xs, x, hq, hx⟩ := hg
    obtain ⟨its, rv, p, hz⟩ := I.tuple hq
    obtain ⟨u, hu, ru⟩ := rv.get hx
    have hel : e < s.heap.objs.size := Heap.lt_size he
    have hil : it < s.heap.objs.size := by obtain ⟨_, q, _⟩ := hit; exact Heap.lt_size q
    have hlt : i < its.toArray.size := by
      have := (List.getElem?_eq_some_iff.mp hu).1
      simpa using this
    refine wpAny_pyNext_enum_itemC (Draws.tuple (A := X.A.in1) (I.ok.hd hc) it a hai its.toArray) he ⟨hit, show s.heap.IsTuple a its.toArray from p⟩ hlt hne (by simp [hne, Ne.symm hae]) fun v h' tk hv ho hst' hT hsz hk => ?_
    have ev : v = u := by
      have e1 : its[i]? = some v := by simpa using hv
      rw [hu] at e1
      exact (Option.some.inj e1).symm
    subst ev
    refine ⟨_, rfl, wpAny_letOwnedTupleGo_enum (s := { s with heap := h', toks := tk + 1 }) ho fun h'' he' sb => ?_⟩
    have hT2 : h''.get? s.heap.objs.size = some { cls := .type "tuple", data := .seq #[.int i tk, v] } := (sb.2 _ (Nat.ne_of_gt hel)).trans hT
    have new : ObjOk X.prog X.w (upd H s.heap.objs.size (.tup [.int (i : Nat), x])) h'' s.heap.objs.size (.tup [.int (i : Nat), x]) :=
      ⟨by show 2 ≤ sizeLine; decide, [.int i tk, v], .cons ⟨_, rfl⟩ (.cons ru .nil), ⟨_, hT2, rfl, _, rfl⟩⟩
    have I1 : Inv X pins σ (upd H s.heap.objs.size (.tup [.int (i : Nat), x])) { s with heap := h'', toks := tk + 1 } :=
      I.turnedNew (ch := [e, it]) (fun b ob hb q => (sb.2 b (fun z => hb (by simp [z]))).trans (hk b ob (fun z => hb (by simp [z])) (fun z => hb (by simp [z])) q)) hf (Nat.le_refl _) new
    refine ⟨.ref s.heap.objs.size, _, I1, rfl, ⟨_, x, rfl, I.hok.fresh (Nat.le_refl _), rfl, fun ys hy => by rw [I.tuple_inj hy hq]; exact hx⟩, ⟨⟨v, ?_⟩, hst'.1.at fun o q => (sb.2 it (Ne.symm hne)).trans q, hne, hae, hai⟩, fun b hb => ?_⟩
    · have e1 : ((i + 1 : Nat) : Int) = (i : Int) + 1 := by omega
      rw [e1]; exact he'
    · have hb' : b < s.heap.objs.size := by
        have e' : b = e ∨ b = it := by simpa using hb
        rcases e' with z | z
        · rw [z]; exact hel
        · rw [z]; exact hil
      rw [upd_ne (Nat.ne_of_lt hb')]
      exact (hf b hb).1
  done := by
    intro X hP hw hK hc i pins s σ H E I hf st hg
    subst hP hw hK
    obtain ⟨⟨old, he⟩, hit, hne, hae, hai⟩ := st
    obtain ⟨xs, hq, hx⟩ := hg
    obtain ⟨its, rv, p, hz⟩ := I.tuple hq
    obtain ⟨f0, f1, f2, f3, f4, f5⟩ := hf it (by simp)
    have hl := rv.length
    have ei : i = its.toArray.size := by simp; omega
    subst ei
    exact wpAny_pyNext_enum_endD (Draws.tuple (A := X.A.in1) (I.ok.hd hc) it a hai its.toArray) he ⟨hit, show s.heap.IsTuple a its.toArray from p⟩ fun h' eb => ⟨rfl, I.turned (t' := s.toks) (fun b o hb q => eb b o hb q) f0 f1 f3 f4 f5⟩
  self := fun A i s Q E st h => let ⟨⟨_, he⟩, _⟩ := st; wpAny_pyIter_enum he h
def iEnumT (K : PySem.W.Frag) (ta : TA) : TI := fun σ H R => ta σ H fun vs H1 => ∃ a xs, vs = [.ref a] ∧ SqT K H1 a xs ∧ R (IteT K a) H1
theorem pi_enumT {X : Cx} {e : Expr} {ta : TA} {p pos tpos : Pos} {elts : List Expr} {kk : Nat} (hg : Gl X "enumerate") (hm : X.mg "enumerate" = none) (ha : PA X [e] ta) (hs : starEach [e] X.env = [(false, eval e X.env)] := by rfl) :
    PI X (.Tuple elts kk tpos) (.Call (.Name "enumerate" p) [e] [] pos) (iEnumT X.K ta) := by
  refine ⟨fun pins s σ H R I h => ?_⟩
  refine PyProof.Rows.Call_ (ld_blt I hg hm PyProof.Rows.boot_enumerate (PyProof.Rows.callWith_type1 (thn (ha.run pos pins s σ H _ I h) fun us s1 ⟨vs, H1, I1, r1, q1⟩ => ?_) hs rfl))
  obtain ⟨a, xs, ex, hq, q⟩ := q1
  subst ex
  cases r1 with
  | cons r rr =>
    cases rr
    cases r
    obtain ⟨its, rv, p', hz⟩ := I1.tuple hq
    have hal : a < s1.heap.objs.size := p'.lt
    refine call_enumerate_tuple (show s1.heap.IsTuple a its.toArray from p') fun h' he hit hsz hk => wpAny_pyIter_enum he ?_
    have I2 : Inv X pins σ H1 { s1 with heap := h' } := I1.kept (t' := s1.toks) hk
    have hae : a ≠ s1.heap.objs.size + 1 := Nat.ne_of_lt (Nat.lt_succ_of_lt hal)
    refine ⟨s1.heap.objs.size + 1, [s1.heap.objs.size + 1, s1.heap.objs.size], _, _, H1, rfl, I2, turn_enumT a (s1.heap.objs.size + 1) s1.heap.objs.size, ⟨⟨.none, he⟩, hit, Nat.succ_ne_self _, hae, Nat.ne_of_lt hal⟩, fun b hb => ?_, q⟩
    have e' : b = s1.heap.objs.size + 1 ∨ b = s1.heap.objs.size := by simpa using hb
    have hle : s1.heap.objs.size ≤ b := by
      rcases e' with z | z
      · rw [z]; exact Nat.le_add_right _ _
      · rw [z]; exact Nat.le_refl _
    exact I1.fpOk hle (I1.hok.fresh hle)
theorem walk_enumT {K : PySem.W.Frag} {a : Addr} {xs : List V} : Walk (IteT K a) xs.length (fun H => SqT K H a xs) (YPair (fun i => some (.int (i : Nat))) (fun i => xs[i]?)) := by
  refine ⟨fun i _ hi q => ⟨xs, xs[i], q, by simp [hi]⟩, fun _ q => ⟨xs, q, rfl⟩, fun i H v H' _ q y => ?_⟩
  obtain ⟨T, x, h1, h2, h3, h4⟩ := y
  exact ⟨T, .int (i : Nat), x, h1, h2, h3, rfl, h4 xs q⟩
end Lw
set_option Elab.async false
set_option linter.all false
set_option maxRecDepth 100000
set_option maxHeartbeats 4000000
/-! The text by places; what the top has written; helpers. -/
namespace Lw
open PySem L2 Evl Lf
def top (i : Nat) : Stmt := PySem.Challenge.pw_leafturner_k67_whole_growth_and_relation.main.body.getD i (.Pass ⟨0, 0, 0, 0⟩)
abbrev sIsRow : Stmt := top 12
abbrev sIsWide : Stmt := top 13
abbrev sIsMachine : Stmt := top 14
abbrev sCheckMachine : Stmt := top 15
abbrev sOther : Stmt := top 21
abbrev sLettersOf : Stmt := top 22
abbrev sIsWord : Stmt := top 23
abbrev sCut : Stmt := top 24
abbrev sUndone : Stmt := top 25
abbrev sRefuseWord : Stmt := top 26
abbrev sCheckWord : Stmt := top 27
abbrev sAInit : Stmt := inClass (top 29) 0
abbrev sAStep : Stmt := inClass (top 29) 1
abbrev sARow : Stmt := inClass (top 29) 3
abbrev sAKeeps : Stmt := inClass (top 29) 4
abbrev sFoundList : Stmt := top 32
abbrev sRests : Stmt := top 33
abbrev sFInit : Stmt := inClass (top 36) 0
abbrev sFRows : Stmt := inClass (top 36) 1
abbrev sFForm : Stmt := inClass (top 36) 2
abbrev sParted : Stmt := top 37
abbrev sNumbered : Stmt := top 38
abbrev sCheckLength : Stmt := top 42
abbrev sBInit : Stmt := inClass (top 43) 0
abbrev sBAdd : Stmt := inClass (top 43) 1
abbrev sBNum : Stmt := inClass (top 43) 2
abbrev sBGrow : Stmt := inClass (top 43) 3
abbrev sGrown : Stmt := top 44
abbrev sBall : Stmt := top 45
abbrev sGrowth : Stmt := top 46
abbrev sLeast : Stmt := top 47
abbrev sCheckCall : Stmt := top 51
abbrev sLInit : Stmt := inClass (top 52) 0
abbrev sLNext : Stmt := inClass (top 52) 1
abbrev sLRests : Stmt := inClass (top 52) 2
abbrev sFirstRel : Stmt := top 53
abbrev sLwNumber : Stmt := top 55
abbrev sLwDraws : Stmt := top 56
abbrev sLwNext : Stmt := top 57
abbrev sLwMachine : Stmt := top 58
abbrev sLwWord : Stmt := top 59
abbrev sLwUndone : Stmt := top 60
abbrev sLwCut : Stmt := top 61
abbrev sLwDigit : Stmt := top 62
abbrev sLwRests : Stmt := top 64
abbrev sLwEqual : Stmt := top 65
abbrev sLaw : Stmt := top 67

/-- a def of the module, called by its name -/
structure Df (K : PySem.W.Frag) (mg : Str → Option Value) (x : Str) (st : Stmt) (ps : List Str) (f : Addr) (fd : FuncData) : Prop where
  F : Fun K x x st f fd
  g : mg x = some (.ref f)
  b : Binds K fd ps []
/-- a method -/
structure Me (K : PySem.W.Frag) (C : Addr) (x qual : Str) (st : Stmt) (ps : List Str) (f : Addr) (fd : FuncData) : Prop where
  F : Fun K x qual st f fd
  m : Meth K C x f
  b : Binds K fd ps []

theorem sz100 {n : Nat} (h : n ≤ 100000) : n ≤ sizeLine := Nat.le_trans h (by decide)
theorem szlt {n : Nat} (h : n < 100000) : n < sizeLine := Nat.lt_of_lt_of_le h (by decide)
theorem ite_b {A B : Prop} {b : Bool} (h1 : b = true → A) (h2 : b = false → B) : if b = true then A else B := by
  cases b with
  | true => rw [if_pos rfl]; exact h1 rfl
  | false => rw [if_neg Bool.false_ne_true]; exact h2 rfl
theorem iteD {A B c : Prop} [Decidable c] (h1 : c → A) (h2 : ¬ c → B) : if decide c = true then A else B := by
  by_cases h : c
  · rw [decide_eq_true h, if_pos rfl]; exact h1 h
  · rw [decide_eq_false h, if_neg Bool.false_ne_true]; exact h2 h
theorem iteND {A B c : Prop} [Decidable c] (h1 : ¬ c → A) (h2 : c → B) : if (!decide c) = true then A else B := by
  by_cases h : c
  · rw [decide_eq_true h]; exact h2 h
  · rw [decide_eq_false h]; exact h1 h
theorem Ex.ne {H : Hp} {a b : Addr} {o : HO} (h : H a = some o) (h' : H b = none) : a ≠ b := ne_of_none h h'
/-- a mutable thing that H0 does not know is written -/
theorem Ex.put {H0 H : Hp} {p : Addr} {o : HO} (e : Ex H0 H) (h : H0 p = none) : Ex H0 (upd H p o) := Ex.mut e h
theorem TK.put {H : Hp} {p : Addr} {o u : HO} (h : H p = some u) (hu : ∀ xs, u ≠ .tup xs) : TK H (L2.upd H p o) := TK.upd fun xs e => by rw [h] at e; exact hu xs (Option.some.inj e)

/-! ### one letter, one text -/
theorem dec_txt1 {a b : Nat} (ha : a < 16) (hb : b < 16) : decide (V.str (txt [a]) = V.str (txt [b])) = decide (a = b) := by
  by_cases h : a = b
  · subst h; simp
  · rw [decide_eq_false h]
    refine decide_eq_false fun e => h ?_
    have := txt_inj (Wd.one ha) (Wd.one hb) (V.str.inj e)
    simpa using this
end Lw
set_option Elab.async false
set_option linter.all false
set_option maxRecDepth 100000
set_option maxHeartbeats 4000000
namespace Lw
open PySem L2 Evl Lf
/-- the module's constants, the built-ins' names -/
structure TWords (mg : Str → Option Value) : Prop where
  small : ∃ t, mg "SMALL" = some (.str "abcdefgh" t)
  large : ∃ t, mg "LARGE" = some (.str "ABCDEFGH" t)
  order : ∃ t, mg "ORDER" = some (.str "aAbBcCdDeEfFgGhH" t)
  longest : ∃ t, mg "LONGEST_words" = some (.int 60 t)
  leastD : ∃ t, mg "LEAST_DIGITS" = some (.int 2 t)
  mostD : ∃ t, mg "MOST_DIGITS" = some (.int 4 t)
  mostS : ∃ t, mg "MOST_STATES" = some (.int 8 t)
  mostW : ∃ t, mg "MOST_WIDE" = some (.int 200 t)
  mostC : ∃ t, mg "MOST_WORDS_closed" = some (.int 4000 t)
  longG : ∃ t, mg "LONGEST_growth" = some (.int 12 t)
  mostG : ∃ t, mg "MOST_WORDS_growth" = some (.int 600 t)
  longR : ∃ t, mg "LONGEST_relations" = some (.int 12 t)
  mostL : ∃ t, mg "MOST_LOOKED" = some (.int 5000 t)
  len : mg "len" = none
  all : mg "all" = none
  sorted : mg "sorted" = none
  list : mg "list" = none
  range : mg "range" = none
  enumerate : mg "enumerate" = none
  tuple : mg "tuple" = none
  int : mg "int" = none
  sum : mg "sum" = none
section
variable {P : Program} {w : World} {K : PySem.W.Frag} {mg : Str → Option Value} {base : Heap}
def spOther : Sp := fun vs H Q _ => ∃ c, vs = [.str (txt [c])] ∧ c < 16 ∧ Q (.str (txt [oth c])) H
theorem scOther : FnScope ["letter"] ["letter"] (defScope sOther) := ⟨rfl, rfl, rfl, by decide +kernel, rfl, by decide +kernel, by decide +kernel⟩
theorem ok_other {f : Addr} {fd : FuncData} (D : Df K mg "other" sOther ["letter"] f fd) (T : TWords mg) : FnOk P w K mg base CX0 1 f fd ["letter"] spOther := by
  refine D.F.ok scOther (fun vs H Q E h => ?_) (fun cdv A outer s H vs Q E hr h => ?_)
  · obtain ⟨c, rfl, _⟩ := h; rfl
  · obtain ⟨c, rfl, hc, k⟩ := h
    obtain ⟨t1, m1⟩ := T.small
    obtain ⟨t2, m2⟩ := T.large
    refine ⟨_, pss_cons (ps_if (pt_cmpR op_in_sign (pv 0) (pe_glob (v := .str "abcdefgh") rfl m1 ⟨_, rfl⟩) rfl)
        (pss_one (ps_ret (pe_ix ix_str (pe_glob (v := .str "ABCDEFGH") rfl m2 ⟨_, rfl⟩) (pe_bm PySem.F.plainAttrs_str PySem.F.slot_str_index PySem.F.type_str_index mt_sindex (pe_glob (v := .str "abcdefgh") rfl m1 ⟨_, rfl⟩) (pa_cons (pv 0) pa_nil)) (fun _ _ => rfl)))) pss_nil)
      (pss_one (ps_ret (pe_ix ix_str (pe_glob (v := .str "abcdefgh") rfl m1 ⟨_, rfl⟩) (pe_bm PySem.F.plainAttrs_str PySem.F.slot_str_index PySem.F.type_str_index mt_sindex (pe_glob (v := .str "ABCDEFGH") rfl m2 ⟨_, rfl⟩) (pa_cons (pv 0) pa_nil)) (fun _ _ => rfl)))), ?_⟩
    refine ⟨_, rfl, chr c, _, rfl, rfl, _, rfl, ?_⟩
    rw [in_small c hc]
    refine iteD (fun h => ?_) (fun h => ?_)
    · have e : c = 2 * (c / 2) := by omega
      have hs : c / 2 < 8 := by omega
      have ec : chr c = 97 + c / 2 := by rw [← chr_even, ← e]
      refine ⟨rfl, _, rfl, _, _, c / 2, [], rfl, rfl, ?_, ?_⟩
      · rw [txt_one, ec]; exact occ_small _ hs
      · refine ⟨_, _, _, rfl, rfl, by decide, atI_nat (at_large _ hs), ?_⟩
        have eo : oth c = 2 * (c / 2) + 1 := by unfold oth; rw [if_pos h]; omega
        have : (⟨#[65 + c / 2]⟩ : Str) = txt [oth c] := by rw [txt_one, eo, chr_odd]
        show Q (.str ⟨#[65 + c / 2]⟩) H
        rw [this]
        exact k
    · have e : c = 2 * (c / 2) + 1 := by omega
      have hs : c / 2 < 8 := by omega
      have ec : chr c = 65 + c / 2 := by rw [← chr_odd, ← e]
      refine ⟨rfl, _, rfl, _, _, c / 2, [], rfl, rfl, ?_, ?_⟩
      · rw [txt_one, ec]; exact occ_large _ hs
      · refine ⟨_, _, _, rfl, rfl, by decide, atI_nat (at_small _ hs), ?_⟩
        have eo : oth c = 2 * (c / 2) := by unfold oth; rw [if_neg h]; omega
        have : (⟨#[97 + c / 2]⟩ : Str) = txt [oth c] := by rw [txt_one, eo, chr_even]
        show Q (.str ⟨#[97 + c / 2]⟩) H
        rw [this]
        exact k

theorem walk_txt (w : List Nat) : Walk (Its (txt w)) w.length (fun _ => True) (fun i H v H' => H' = H ∧ ∃ c, w[i]? = some c ∧ v = .str (txt [c])) := by
  have hs : (txt w).cps.size = w.length := txt_len w
  have := walk_str (z := txt w)
  rw [hs] at this
  refine this.mono (fun _ h => h) fun i H x H' hi _ ⟨e, c, hc, ex⟩ => ⟨e, ?_⟩
  have hx : w[i]? = some w[i] := List.getElem?_eq_getElem hi
  refine ⟨w[i], hx, ?_⟩
  have : (txt w).cps[i]? = some (chr w[i]) := by
    simp [txt, hx]
  rw [this] at hc
  cases hc
  exact ex
abbrev one (c : Nat) : V := .str (txt [c])
theorem snoc_cases {α : Type} (l : List α) : l = [] ∨ ∃ m a, l = m ++ [a] := by
  rcases List.eq_nil_or_concat l with e | ⟨m, a, e⟩
  · exact .inl e
  · exact .inr ⟨m, a, by rw [e, List.concat_eq_append]⟩
theorem cut_take (w : List Nat) (i : Nat) {c : Nat} (h : w[i]? = some c) : (w.take (i + 1)).foldl cutStep [] = cutStep ((w.take i).foldl cutStep []) c := by
  rw [List.take_add_one, h]
  simp
def spCut : Sp := fun vs H Q _ => ∃ w, vs = [.str (txt w)] ∧ Wd 16 w ∧ w.length ≤ 1000 ∧ RetV (.str (txt (Lf.cut w))) H Q
theorem scCut : FnScope ["word", "kept", "letter"] ["word"] (defScope sCut) := ⟨rfl, rfl, rfl, by decide +kernel, rfl, by decide +kernel, by decide +kernel⟩
theorem ok_cut {f fO : Addr} {fd fdO : FuncData} (D : Df K mg "cut" sCut ["word"] f fd) (O : Df K mg "other" sOther ["letter"] fO fdO) (T : TWords mg) : FnOk P w K mg base CX0 2 f fd ["word"] spCut := by
  have G : FnOk P w K mg base CX0 1 fO fdO ["letter"] spOther := ok_other O T
  refine D.F.ok scCut (fun vs H Q E h => ?_) (fun cdv A outer s H vs Q E hr h => ?_)
  · obtain ⟨c, rfl, _⟩ := h; rfl
  · obtain ⟨w, rfl, hw, hl, k⟩ := h
    refine ⟨_, pss_cons (ps_set (i := 1) scCut.nd rfl (Or.inl rfl) (pe_lst pa_nil))
      (pss_cons (ps_for PassesOwn.never rfl (pi_str (pv 0)) (pg_name (i := 2) scCut.nd rfl (Or.inl rfl))
        (pss_one (ps_if (PW.pt (pw_and (pt_truth (pv 1) (by intro _; rfl)) (pw_and1 (pt_cmpR op_eq (pe_ix ix_list (pv 1) (pe_un un_neg pe_int) (fun _ _ => rfl)) (pe_call G hr rfl O.g O.F.kp O.b .nil pass0 (pa_cons (pv 2) pa_nil)) (nomark _)))))
          (pss_one (ps_expr (pe_bm0 PySem.F.plainAttrs_list PySem.F.slot_list_pop PySem.F.type_list_pop mt_pop (pv 1))))
          (pss_one (ps_expr (pe_bm PySem.F.plainAttrs_list PySem.F.slot_list_append PySem.F.type_list_append mt_append (pv 1) (pa_cons (pv 2) pa_nil)))))))
      (pss_one (ps_ret (pe_join pe_str (pv 1))))), ?_⟩
    refine ⟨Nat.zero_le _, fun l hl0 => ?_⟩
    refine ⟨_, rfl, _, rfl, for_it (walk_txt w) (fun i σ H' => ∃ v, σ = [some (.str (txt w)), some (.ref l), v] ∧ Ex H H' ∧ H' l = some (.lst (((w.take i).foldl cutStep []).map one)) ∧ Wd 16 ((w.take i).foldl cutStep []) ∧ ((w.take i).foldl cutStep []).length ≤ i)
      ⟨none, rfl, Ex.new hl0, upd_same, Wd.nil, Nat.le_refl _⟩ (fun _ _ _ _ _ => True.intro) ?_ ?_⟩
    · rintro i x σ H1 H2 hi ⟨v, rfl, e1, h1, h2, h3⟩ ⟨rfl, c, hc, rfl⟩
      have hc16 : c < 16 := hw c (List.mem_of_getElem? hc)
      have fin : ∀ (kept : List Nat), kept = (w.take i).foldl cutStep [] → ∀ H3, Ex H H3 → H3 l = some (.lst ((cutStep kept c).map one)) → ∃ v, [some (V.str (txt w)), some (V.ref l), some (one c)] = [some (.str (txt w)), some (.ref l), v] ∧ Ex H H3 ∧ H3 l = some (.lst (((w.take (i + 1)).foldl cutStep []).map one)) ∧ Wd 16 ((w.take (i + 1)).foldl cutStep []) ∧ ((w.take (i + 1)).foldl cutStep []).length ≤ i + 1 := by
        rintro kept rfl H3 e3 h4
        rw [cut_take w i hc]
        exact ⟨_, rfl, e3, h4, cutStep_wd h2 hc16, by have := cutStep_len ((w.take i).foldl cutStep []) c; omega⟩
      generalize hk : (w.take i).foldl cutStep [] = kept at h1 h2 h3
      have hs : kept.length < sizeLine := szlt (by omega)
      rcases snoc_cases kept with rfl | ⟨kp, d, rfl⟩
      · refine ⟨_, rfl, false, .inl ⟨_, SqL.of h1, rfl⟩, ?_⟩
        refine ⟨_, rfl, .inl ⟨rfl, _, SqL.of h1⟩, _, rfl, l, _, _, rfl, rfl, h1, by decide, ?_⟩
        refine fin [] hk.symm _ (Ex.put e1 hl0) ?_
        rw [upd_same]
        rfl
      · have hd16 : d < 16 := h2 d (by simp)
        have ho16 : oth c < 16 := oth_lt (by decide) hc16
        refine ⟨_, rfl, true, .inl ⟨_, SqL.of h1, by simp⟩, ?_⟩
        refine ⟨_, rfl, 1, rfl, l, _, _, one d, rfl, rfl, SqL.of h1, ?_, ?_⟩
        · rw [List.map_append]; exact atI_last _ _
        refine ⟨_, rfl, c, rfl, hc16, rfl, _, rfl, ?_⟩
        rw [dec_txt1 hd16 ho16]
        refine iteD (fun hq => ?_) (fun hq => ?_)
        · subst hq
          refine ⟨_, rfl, .inl ⟨rfl, _, SqL.of h1⟩, l, _, one (oth c), rfl, rfl, h1, ?_, ?_⟩
          · simp
          · refine fin _ hk.symm _ (Ex.put e1 hl0) ?_
            rw [upd_same]
            simp [cutStep]
        · refine ⟨_, rfl, .inl ⟨rfl, _, SqL.of h1⟩, _, rfl, l, _, _, rfl, rfl, h1, by rw [List.length_map]; exact hs, ?_⟩
          refine fin _ hk.symm _ (Ex.put e1 hl0) ?_
          rw [upd_same]
          simp [cutStep, hq]
    · rintro σ H1 ⟨v, rfl, e1, h1, h2, h3⟩
      rw [List.take_length] at h1 h3
      refine ⟨⟨_, rfl⟩, _, rfl, ⟨#[]⟩, l, (Lf.cut w).map (fun c => txt [c]), rfl, rfl, .inl (SqL.of ?_), ?_, ?_⟩
      · rw [h1, List.map_map]; rfl
      · have e : ((Lf.cut w).map (fun c => txt [c])).map (·.length) = (Lf.cut w).map fun _ => 1 := by
          rw [List.map_map]
          exact List.map_congr_left fun c _ => rfl
        have h4 : (Lf.cut w).length ≤ 1000 := by have := cut_len w; omega
        rw [e]
        simp [List.map_const']
        show _ + (Lf.cut w).length * 0 ≤ _
        omega
      · show Q (.str (Txt.join ⟨#[]⟩ _)) H1
        rw [txt_join]
        exact k H1 e1
end
end Lw
set_option Elab.async false
set_option linter.all false
set_option maxRecDepth 100000
set_option maxHeartbeats 4000000
namespace Lw
open PySem L2 Evl Lf
theorem lc_yes {σ2 σ' : L2.St} {vs : List Nat} {H2 : Hp} {te : TE} {R : V → Hp → Prop} {Nx : Hp → Prop} (hw : wipe σ2 vs = wipe σ' vs) (h : te σ2 H2 R) :
    wipe σ2 vs = wipe σ' vs ∧ tYes σ2 H2 fun b H3 => if b = true then te σ2 H3 R else Nx H3 := by
  refine ⟨hw, ?_⟩
  show (if true = true then te σ2 H2 R else Nx H2)
  rw [if_pos rfl]
  exact h
/-! ### machines as data -/
def entK (e : Nat × Nat) : NestedKey := .tup [.num e.1, .num e.2]
def rowK (r : List (Nat × Nat)) : NestedKey := .tup (r.map entK)
def machK (k : Nat) (rows : Rows) : NestedKey := .tup [.num k, .tup (rows.map rowK)]
theorem mach_at {H : Hp} {k : Nat} {rows : Rows} {v : V} (h : NIs H (machK k rows) v) : ∃ a b vs, v = .ref a ∧ H a = some (.tup [.int k, .ref b]) ∧ H b = some (.tup vs) ∧ NAll H (rows.map rowK) vs := by
  obtain ⟨a, xs, rfl, ha, h⟩ := nis_tup.mp h
  obtain ⟨x, r, rfl, h1, h⟩ := nall_cons.mp h
  obtain ⟨y, r, rfl, h2, h⟩ := nall_cons.mp h
  rw [nall_nil] at h
  subst h
  rw [nis_num] at h1
  subst h1
  obtain ⟨b, vs, rfl, hb, h3⟩ := nis_tup.mp h2
  exact ⟨a, b, vs, rfl, ha, hb, h3⟩
theorem row_at {H : Hp} {r : List (Nat × Nat)} {v : V} (h : NIs H (rowK r) v) : ∃ a vs, v = .ref a ∧ H a = some (.tup vs) ∧ NAll H (r.map entK) vs := nis_tup.mp h
theorem ent_at {H : Hp} {e : Nat × Nat} {v : V} (h : NIs H (entK e) v) : ∃ a, v = .ref a ∧ H a = some (.tup [.int e.1, .int e.2]) := by
  obtain ⟨a, xs, rfl, ha, h⟩ := nis_tup.mp h
  obtain ⟨x, r, rfl, h1, h⟩ := nall_cons.mp h
  obtain ⟨y, r, rfl, h2, h⟩ := nall_cons.mp h
  rw [nall_nil] at h
  subst h
  rw [nis_num] at h1 h2
  subst h1 h2
  exact ⟨a, rfl, ha⟩
theorem nall_get_map {H : Hp} {α : Type} {f : α → NestedKey} {l : List α} {vs : List V} {i : Nat} {v : V} (h : NAll H (l.map f) vs) (e : vs[i]? = some v) : ∃ a, l[i]? = some a ∧ NIs H (f a) v := by
  obtain ⟨k, hk, q⟩ := h.at e
  rw [List.getElem?_map] at hk
  cases hl : l[i]? with
  | none => rw [hl] at hk; cases hk
  | some a => rw [hl] at hk; cases hk; exact ⟨a, rfl, q⟩
theorem nall_len_map {H : Hp} {α : Type} {f : α → NestedKey} {l : List α} {vs : List V} (h : NAll H (l.map f) vs) : vs.length = l.length := by
  rw [h.length, List.length_map]

section
variable {P : Program} {w : World} {K : PySem.W.Frag} {mg : Str → Option Value} {base : Heap}
def spLettersOf : Sp := fun vs H Q _ => ∃ v k rows, vs = [v] ∧ NIs H (machK k rows) v ∧ rows.length ≤ 8 ∧ Q (.str (txt (List.range (2 * rows.length)))) H
theorem scLettersOf : FnScope ["machine"] ["machine"] (defScope sLettersOf) := ⟨rfl, rfl, rfl, by decide +kernel, rfl, by decide +kernel, by decide +kernel⟩
theorem ok_lettersOf {f : Addr} {fd : FuncData} (D : Df K mg "letters_of" sLettersOf ["machine"] f fd) (T : TWords mg) : FnOk P w K mg base CX0 1 f fd ["machine"] spLettersOf := by
  refine D.F.ok scLettersOf (fun vs H Q E h => ?_) (fun cdv A outer s H vs Q E hr h => ?_)
  · obtain ⟨_, _, _, rfl, _⟩ := h; rfl
  · obtain ⟨v, k, rows, rfl, hm, hl, q⟩ := h
    obtain ⟨t1, m1⟩ := T.order
    obtain ⟨a, b, vs, rfl, ha, hb, hv⟩ := mach_at hm
    refine ⟨_, pss_one (ps_ret (pe_slice sl_str (pe_glob (v := .str "aAbBcCdDeEfFgGhH") rfl m1 ⟨_, rfl⟩) po_none
      (po_some (pe_op op_mul pe_int (pe_callB call_len (by rfl) T.len PySem.boot_len (pa_cons (pe_ix ix_tup (pv 0) pe_int (fun _ _ => rfl)) pa_nil)))))), ?_⟩
    refine ⟨_, rfl, a, _, 1, _, rfl, rfl, SqT.of ha, rfl, _, _, rfl, .inr ⟨_, SqT.of hb, rfl⟩, _, _, rfl, rfl, .inl (by decide), _, rfl, _, rfl, by decide, ?_⟩
    have e : (2 : Int) * (vs.length : Int) = ((2 * rows.length : Nat) : Int) := by rw [nall_len_map hv]; simp
    show Q (.str (cutS "aAbBcCdDeEfFgGhH" none (some ((2 : Int) * (vs.length : Int))))) H
    rw [e, cut_order _ (by omega)]
    exact q
def spIsWord : Sp := fun vs H Q _ => ∃ v k rows wd, vs = [v, .str (txt wd)] ∧ NIs H (machK k rows) v ∧ rows.length ≤ 8 ∧ Wd (2 * rows.length) wd ∧ wd.length ≤ 1000 ∧ RetV (.bl true) H Q
theorem scIsWord : FnScope ["machine", "word", "allowed", "letter"] ["machine", "word"] (defScope sIsWord) := ⟨rfl, rfl, rfl, by decide +kernel, rfl, by decide +kernel, by decide +kernel⟩
theorem in_range {c n : Nat} (h : c < n) : decide (chr c ∈ (txt (List.range n)).cps.toList) = true := by
  refine decide_eq_true ?_
  rw [txt_cps]
  exact List.mem_map.mpr ⟨c, List.mem_range.mpr h, rfl⟩
theorem all_true (n : Nat) : (List.replicate n true).all id = true := by simp
theorem ok_isWord {f fL : Addr} {fd fdL : FuncData} (D : Df K mg "is_word" sIsWord ["machine", "word"] f fd) (L : Df K mg "letters_of" sLettersOf ["machine"] fL fdL) (T : TWords mg) : FnOk P w K mg base CX0 2 f fd ["machine", "word"] spIsWord := by
  have G : FnOk P w K mg base CX0 1 fL fdL ["machine"] spLettersOf := ok_lettersOf L T
  refine D.F.ok scIsWord (fun vs H Q E h => ?_) (fun cdv A outer s H vs Q E hr h => ?_)
  · obtain ⟨_, _, _, _, rfl, _⟩ := h; rfl
  · obtain ⟨v, k, rows, wd, rfl, hm, hl, hw, hwl, q⟩ := h
    refine ⟨_, pss_cons (ps_set (i := 2) scIsWord.nd rfl (Or.inr rfl) (pe_call G hr rfl L.g L.F.kp L.b .nil pass0 (pa_cons (pv 0) pa_nil)))
      (pss_one (ps_ret (pe_callB (cr_all rfl) (by rfl) T.all PyProof.Rows.boot_all (pa_cons
        (pe_lc (own := [("letter", 3)]) (g := gName 3) (tt := tYes) rfl scIsWord.nd (pi_str (pv 1)) (blkOk_by (N := ["machine", "word", "allowed", "letter"]) (sc := defScope sIsWord) (by decide +kernel))
          (fun _ _ _ _ _ => pg_name (i := 3) scIsWord.nd rfl (Or.inl rfl)) (fun _ _ _ _ _ => pts_nil) (fun _ _ _ _ _ => pe_cmpR op_in_sign (pv 3) (pv 2) rfl)) pa_nil)))), ?_⟩
    refine ⟨_, rfl, v, k, rows, rfl, hm, hl, ?_⟩
    refine ⟨_, rfl, _, rfl, fun Dl hD => lc_it (walk_txt wd) (fun i H' => Ex H H' ∧ H' Dl = some (.lst ((List.replicate i true).map V.bl))) ⟨Ex.new hD, upd_same⟩ (fun _ _ _ _ => True.intro) ?_ ?_⟩
    · rintro i x H1 H2 hi ⟨e1, h1⟩ ⟨rfl, c, hc, rfl⟩
      refine lc_yes rfl ?_
      refine ⟨_, rfl, _, rfl, chr c, _, rfl, rfl, _, h1, by rw [List.length_map, List.length_replicate]; exact szlt (by omega), Ex.put e1 hD, ?_⟩
      rw [upd_same, in_range (hw c (List.mem_of_getElem? hc)), List.replicate_succ', List.map_append]
      rfl
    · rintro H1 ⟨e1, h1⟩
      refine ⟨Dl, _, rfl, SqL.of h1, ?_⟩
      rw [all_true]
      exact q H1 e1
def spUndone : Sp := fun vs H Q _ => ∃ wd, vs = [.str (txt wd)] ∧ Wd 16 wd ∧ wd.length ≤ 1000 ∧ RetV (.str (txt (Lf.undone wd))) H Q
theorem scUndone : FnScope ["word", "letter"] ["word"] (defScope sUndone) := ⟨rfl, rfl, rfl, by decide +kernel, rfl, by decide +kernel, by decide +kernel⟩
theorem join_sz (u : List Nat) : ((u.map (fun c => txt [c])).map (·.length)).sum = u.length := by
  have e : (u.map (fun c => txt [c])).map (·.length) = u.map fun _ => 1 := by
    rw [List.map_map]
    exact List.map_congr_left fun c _ => rfl
  rw [e]
  simp [List.map_const']
theorem ok_undone {f fO : Addr} {fd fdO : FuncData} (D : Df K mg "undone" sUndone ["word"] f fd) (O : Df K mg "other" sOther ["letter"] fO fdO) (T : TWords mg) : FnOk P w K mg base CX0 2 f fd ["word"] spUndone := by
  have G : FnOk P w K mg base CX0 1 fO fdO ["letter"] spOther := ok_other O T
  refine D.F.ok scUndone (fun vs H Q E h => ?_) (fun cdv A outer s H vs Q E hr h => ?_)
  · obtain ⟨_, rfl, _⟩ := h; rfl
  · obtain ⟨wd, rfl, hw, hl, q⟩ := h
    refine ⟨_, pss_one (ps_ret (pe_join pe_str (pe_lc (own := [("letter", 1)]) (g := gName 1) (tt := tYes) rfl scUndone.nd (pi_str (pe_revS (pv 0))) (blkOk_by (N := ["word", "letter"]) (sc := defScope sUndone) (by decide +kernel))
          (fun _ _ _ _ _ => pg_name (i := 1) scUndone.nd rfl (Or.inl rfl)) (fun _ _ _ _ _ => pts_nil) (fun _ _ _ _ _ => pe_call G hr rfl O.g O.F.kp O.b .nil pass0 (pa_cons (pv 1) pa_nil))))), ?_⟩
    refine ⟨⟨_, rfl⟩, _, rfl, _, rfl, sz100 (by rw [txt_len]; omega), ?_⟩
    rw [txt_rev]
    refine ⟨_, rfl, fun Dl hD => lc_it (walk_txt wd.reverse) (fun i H' => Ex H H' ∧ H' Dl = some (.lst (((wd.reverse.map oth).take i).map one))) ⟨Ex.new hD, upd_same⟩ (fun _ _ _ _ => True.intro) ?_ ?_⟩
    · rintro i x H1 H2 hi ⟨e1, h1⟩ ⟨rfl, c, hc, rfl⟩
      rw [List.length_reverse] at hi
      refine lc_yes rfl ?_
      have hm := List.mem_reverse.mp (List.mem_of_getElem? hc)
      refine ⟨_, rfl, c, rfl, hw c hm, _, h1, by rw [List.length_map, List.length_take]; exact szlt (by omega), Ex.put e1 hD, ?_⟩
      rw [upd_same, List.take_add_one, List.map_append, List.getElem?_map, hc]
      rfl
    · rintro H1 ⟨e1, h1⟩
      rw [List.take_of_length_le (by simp)] at h1
      refine ⟨⟨#[]⟩, Dl, (Lf.undone wd).map (fun c => txt [c]), rfl, rfl, .inl (SqL.of ?_), ?_, ?_⟩
      · rw [h1, List.map_map (f := fun c => txt [c])]; rfl
      · rw [join_sz, List.length_map, undone_len]
        show _ + wd.length * 0 ≤ _
        omega
      · rw [txt_join]
        exact q H1 e1
def spRefuse : Sp := fun vs H Q _ => ∃ v k rows wd, vs = [v, .str (txt wd)] ∧ NIs H (machK k rows) v ∧ rows.length ≤ 8 ∧ Wd (2 * rows.length) wd ∧ wd.length ≤ 60 ∧ RetV .non H Q
theorem scRefuse : FnScope ["machine", "word"] ["machine", "word"] (defScope sRefuseWord) := ⟨rfl, rfl, rfl, by decide +kernel, rfl, by decide +kernel, by decide +kernel⟩
theorem ok_refuse {f fI fL : Addr} {fd fdI fdL : FuncData} (D : Df K mg "refuse_word" sRefuseWord ["machine", "word"] f fd) (I : Df K mg "is_word" sIsWord ["machine", "word"] fI fdI) (L : Df K mg "letters_of" sLettersOf ["machine"] fL fdL) (T : TWords mg) : FnOk P w K mg base CX0 3 f fd ["machine", "word"] spRefuse := by
  have G : FnOk P w K mg base CX0 2 fI fdI ["machine", "word"] spIsWord := ok_isWord I L T
  refine D.F.ok scRefuse (fun vs H Q E h => ?_) (fun cdv A outer s H vs Q E hr h => ?_)
  · obtain ⟨_, _, _, _, rfl, _⟩ := h; rfl
  · obtain ⟨v, k, rows, wd, rfl, hm, hl, hw, hwl, q⟩ := h
    obtain ⟨t1, m1⟩ := T.longest
    refine ⟨_, pss_one (ps_if (PW.pt (pw_or (pt_cmpR op_gt (pe_callB call_len_str (by rfl) T.len PySem.boot_len (pa_cons (pv 1) pa_nil)) (pe_glob (v := .int 60) rfl m1 ⟨_, rfl⟩) (nomark _))
      (pw_or1 (pt_not (pt_val (pe_call G hr rfl I.g I.F.kp I.b .nil pass0 (pa_cons (pv 0) (pa_cons (pv 1) pa_nil)))))))) pss_never pss_nil), ?_⟩
    refine ⟨_, rfl, _, rfl, sz100 (by rw [txt_len]; omega), _, _, rfl, rfl, _, rfl, ?_⟩
    rw [decide_eq_false (by rw [txt_len]; omega)]
    refine iteF ⟨_, rfl, _, rfl, v, k, rows, wd, rfl, hm, hl, hw, by omega, fun H2 e2 => ?_⟩
    exact ⟨true, rfl, q H2 e2⟩
end
end Lw
set_option Elab.async false
set_option linter.all false
set_option maxRecDepth 100000
set_option maxHeartbeats 4000000
namespace Lw
open PySem L2 Evl Lf
section
variable {P : Program} {w : World} {K : PySem.W.Frag} {mg : Str → Option Value} {base : Heap}
def rLenK (K : PySem.W.Frag) : List V → Hp → VK → Prop := fun xs H Q => ∃ x n, xs = [x] ∧ LenV K x H n ∧ Q (.int n) H
theorem dp_ints {H : Hp} : ∀ ns : List Int, DpAll K H (ns.map V.int) (ns.map PyData.int)
  | [] => .nil
  | n :: ns => .cons (.int n) (dp_ints ns)
def rgD (k : Nat) : PyData := .list (((List.range k).map fun (i : Nat) => (i : Int)).map PyData.int)
theorem rgD_shaped {k : Nat} (h : k = 2 ∨ k = 3) : SeqAt.shaped (rgD k) = true := by rcases h with rfl | rfl <;> decide +kernel
theorem rgD_eqv {k : Nat} (h : k = 2 ∨ k = 3) : PyData.eqv (rgD k) (rgD k) = true := by rcases h with rfl | rfl <;> decide +kernel
theorem rgV_nat (k : Nat) : rgV 0 (k : Int) = ((List.range k).map fun (i : Nat) => (i : Int)).map V.int := by
  unfold rgV
  rw [List.map_map]
  simp
theorem k23 {k : Nat} {rows : Rows} (M : MOk k rows) : k = 2 ∨ k = 3 := by have := M.k2; have := M.k3; omega
def spIsRow : Sp := fun vs H Q _ => ∃ v k n r, vs = [v, .int (k : Nat), .int (n : Nat)] ∧ NIs H (rowK r) v ∧ RowOk k n r ∧ (k = 2 ∨ k = 3) ∧ n ≤ 3 ∧ RetV (.bl true) H Q
abbrev nIsRow : List Str := ["row", "k", "count", "out", "_", "following"]
theorem scIsRow : FnScope nIsRow ["row", "k", "count"] (defScope sIsRow) := ⟨rfl, rfl, rfl, by decide +kernel, rfl, by decide +kernel, by decide +kernel⟩
theorem ok_isRow {f : Addr} {fd : FuncData} (D : Df K mg "_is_row" sIsRow ["row", "k", "count"] f fd) (T : TWords mg) : FnOk P w K mg base CX0 1 f fd ["row", "k", "count"] spIsRow := by
  refine D.F.ok scIsRow (fun vs H Q E h => ?_) (fun cdv A outer s H vs Q E hr h => ?_)
  · obtain ⟨_, _, _, _, rfl, _⟩ := h; rfl
  · obtain ⟨v, k, n, r, rfl, hv, R, hk, hn, q⟩ := h
    obtain ⟨a, vs, rfl, ha, hvs⟩ := row_at hv
    have hl : vs.length = k := by rw [nall_len_map hvs, R.len]
    refine ⟨_, pss_cons (ps_if (PW.pt (pw_or (pt_cmpR op_ne (pe_callB call_len (by rfl) T.len PySem.boot_len (pa_cons (pv 0) pa_nil)) (pv 1) (nomark _))
        (pw_or1 (pt_cmpR (op_neD hr.units) (pe_callB cr_sorted (by rfl) T.sorted PyProof.Rows.boot_sorted (pa_cons
            (pe_lc (own := [("out", 3), ("_", 4)]) (g := gTup K 2 (gCons (gName 3) (gCons (gName 4) gNil))) (tt := tYes) rfl scIsRow.nd (pi_tup (pv 0)) (blkOk_by (N := nIsRow) (sc := defScope sIsRow) (by decide +kernel))
              (fun _ _ _ _ _ => pg_tup rfl (pgs_cons (pg_name (i := 3) scIsRow.nd rfl (Or.inl rfl)) (pgs_cons (pg_name (i := 4) scIsRow.nd rfl (Or.inl rfl)) pgs_nil))) (fun _ _ _ _ _ => pts_nil) (fun _ _ _ _ _ => pv 3)) pa_nil))
          (pe_listRg rfl (by rfl) T.list (prg_1 (by rfl) T.range (pv 1))) (nomark _)))))
        (pss_one (ps_ret pe_bl)) pss_nil)
      (pss_one (ps_ret (pe_callB (cr_all rfl) (by rfl) T.all PyProof.Rows.boot_all (pa_cons
        (pe_lc (own := [("_", 4), ("following", 5)]) (g := gTup K 2 (gCons (gName 4) (gCons (gName 5) gNil))) (tt := tYes) rfl scIsRow.nd (pi_tup (pv 0)) (blkOk_by (N := nIsRow) (sc := defScope sIsRow) (by decide +kernel))
          (fun _ _ _ _ _ => pg_tup rfl (pgs_cons (pg_name (i := 4) scIsRow.nd rfl (Or.inl rfl)) (pgs_cons (pg_name (i := 5) scIsRow.nd rfl (Or.inl rfl)) pgs_nil))) (fun _ _ _ _ _ => pts_nil) (fun _ _ _ _ _ => pe_chain op_le op_lt pe_int (pv 5) (pv 2))) pa_nil)))), ?_⟩
    refine ⟨_, rfl, _, _, rfl, .inr ⟨_, SqT.of ha, rfl⟩, _, rfl, rfl, _, rfl, ?_⟩
    rw [decide_eq_true (by rw [hl])]
    refine iteF ?_
    refine ⟨_, rfl, a, rfl, ⟨_, SqT.of ha⟩, fun Dl hD => lc_it walk_tup (fun i H' => Ex H H' ∧ H' Dl = some (.lst (((r.take i).map fun e => (e.1 : Int)).map V.int))) ⟨Ex.new hD, upd_same⟩ (fun i H' _ p => SqT.of (p.1 _ _ ha)) ?_ ?_⟩
    · rintro i x H1 H2 hi ⟨e1, h1⟩ ⟨rfl, hx⟩
      obtain ⟨e, he, hne⟩ := nall_get_map hvs hx
      obtain ⟨b, rfl, hb⟩ := ent_at hne
      refine ⟨b, _, rfl, SqT.of (e1 _ _ hb), rfl, _, _, rfl, _, _, rfl, rfl, lc_yes rfl ?_⟩
      refine ⟨_, rfl, _, h1, by rw [List.length_map, List.length_map, List.length_take]; exact szlt (by omega), Ex.put e1 hD, ?_⟩
      rw [upd_same, List.take_add_one, he]
      simp
    · rintro H1 ⟨e1, h1⟩
      rw [List.take_of_length_le (by rw [← nall_len_map hvs]; exact Nat.le_refl _)] at h1
      refine ⟨Dl, _, rfl, SqL.of h1, by rw [List.length_map, R.len]; omega, fun ns' p hperm hsort hp => ?_⟩
      have ens : ns' = (List.range k).map fun (i : Nat) => (i : Int) := by
        refine PySem.W.ksm_same (hperm.trans ?_) hsort ?_
        · have := R.outs.map fun (i : Nat) => (i : Int)
          rw [List.map_map] at this
          exact this
        · exact List.pairwise_map.mpr (List.pairwise_lt_range.imp fun {a b} h => by omega)
      subst ens
      refine ⟨_, rfl, _, rfl, ⟨by omega, by omega, by omega, by omega, by omega⟩, fun q' hq' => ?_⟩
      have npq : p ≠ q' := ne_of_none upd_same hq'
      refine ⟨rgD k, rgD k, .lst (SqL.of (by rw [upd_ne npq, upd_same])) (dp_ints _), .lst (SqL.of (by rw [upd_same, rgV_nat])) (dp_ints _), rgD_shaped hk, rgD_shaped hk, _, rfl, ?_⟩
      rw [rgD_eqv hk]
      refine iteF ?_
      have e3 : Ex H (upd (upd H1 p (.lst (((List.range k).map fun (i : Nat) => (i : Int)).map V.int))) q' (.lst (rgV 0 (k : Int)))) := (e1.trans (Ex.new hp)).trans (Ex.new hq')
      generalize upd (upd H1 p (.lst (((List.range k).map fun (i : Nat) => (i : Int)).map V.int))) q' (.lst (rgV 0 (k : Int))) = H3 at e3
      refine ⟨_, rfl, a, rfl, ⟨_, SqT.of (e3 _ _ ha)⟩, fun Dm hDm => lc_it walk_tup (fun i H' => Ex H H' ∧ H' Dm = some (.lst ((List.replicate i true).map V.bl))) ⟨e3.trans (Ex.new hDm), upd_same⟩ (fun i H' _ p => SqT.of (p.1 _ _ ha)) ?_ ?_⟩
      · rintro i x H4 H5 hi ⟨e4, h4⟩ ⟨rfl, hx⟩
        obtain ⟨e, he, hne⟩ := nall_get_map hvs hx
        obtain ⟨b, rfl, hb⟩ := ent_at hne
        have hen : e.2 < n := R.next e (List.mem_of_getElem? he)
        refine ⟨b, _, rfl, SqT.of (e4 _ _ hb), rfl, _, _, rfl, _, _, rfl, rfl, lc_yes rfl ?_⟩
        refine ⟨_, rfl, _, _, rfl, rfl, _, rfl, ?_⟩
        rw [decide_eq_true (show (0 : Int) ≤ (e.2 : Int) by omega)]
        refine iteT ⟨_, rfl, _, _, rfl, rfl, _, h4, by rw [List.length_map, List.length_replicate]; exact szlt (by omega), Ex.put e4 (fresh_back e3 hDm), ?_⟩
        have ed : decide ((e.2 : Int) < (n : Int)) = true := decide_eq_true (by omega)
        show upd H5 Dm (.lst (((List.replicate i true).map V.bl) ++ [V.bl (decide ((e.2 : Int) < (n : Int)))])) Dm = _
        rw [upd_same, ed, List.replicate_succ', List.map_append]
        rfl
      · rintro H4 ⟨e4, h4⟩
        refine ⟨Dm, _, rfl, SqL.of h4, ?_⟩
        rw [all_true]
        exact q H4 e4

def spIsWide : Sp := fun vs H Q _ => ∃ v k rows, vs = [v] ∧ NIs H (machK k rows) v ∧ MOk k rows ∧ RetV (.bl true) H Q
abbrev nIsWide : List Str := ["machine", "k", "rows", "row"]
theorem scIsWide : FnScope nIsWide ["machine"] (defScope sIsWide) := ⟨rfl, rfl, rfl, by decide +kernel, rfl, by decide +kernel, by decide +kernel⟩
theorem ok_isWide {f fR : Addr} {fd fdR : FuncData} (D : Df K mg "is_wide" sIsWide ["machine"] f fd) (RD : Df K mg "_is_row" sIsRow ["row", "k", "count"] fR fdR) (T : TWords mg) : FnOk P w K mg base CX0 2 f fd ["machine"] spIsWide := by
  have G : FnOk P w K mg base CX0 1 fR fdR ["row", "k", "count"] spIsRow := ok_isRow RD T
  refine D.F.ok scIsWide (fun vs H Q E h => ?_) (fun cdv A outer s H vs Q E hr h => ?_)
  · obtain ⟨_, _, _, rfl, _⟩ := h; rfl
  · obtain ⟨v, k, rows, rfl, hm, M, q⟩ := h
    obtain ⟨a, b, vs, rfl, ha, hb, hv⟩ := mach_at hm
    have hl : vs.length = rows.length := nall_len_map hv
    have hk2 := M.k2
    have hk3 := M.k3
    have hn1 := M.n1
    have hn3 := M.n3
    obtain ⟨t1, m1⟩ := T.leastD
    obtain ⟨t2, m2⟩ := T.mostD
    obtain ⟨t3, m3⟩ := T.mostW
    refine ⟨_, pss_cons (ps_asg (pv 0) (pg_tup rfl (pgs_cons (pg_name (i := 1) scIsWide.nd rfl (Or.inr rfl)) (pgs_cons (pg_name (i := 2) scIsWide.nd rfl (Or.inr rfl)) pgs_nil))))
      (pss_cons (ps_if (PW.pt (pw_or (pt_not (pt_chain op_le op_le (pe_glob (v := .int 2) rfl m1 ⟨_, rfl⟩) (pv 1) (pe_glob (v := .int 4) rfl m2 ⟨_, rfl⟩)))
          (pw_or1 (pt_not (pt_chain op_le op_le pe_int (pe_callB call_len (by rfl) T.len PySem.boot_len (pa_cons (pv 2) pa_nil)) (pe_glob (v := .int 200) rfl m3 ⟨_, rfl⟩))))))
        (pss_one (ps_ret pe_bl)) pss_nil)
      (pss_one (ps_ret (pe_callB (cr_all rfl) (by rfl) T.all PyProof.Rows.boot_all (pa_cons
        (pe_lc (own := [("row", 3)]) (g := gName 3) (tt := tYes) rfl scIsWide.nd (pi_tup (pv 2)) (blkOk_by (N := nIsWide) (sc := defScope sIsWide) (by decide +kernel))
          (fun _ _ _ _ _ => pg_name (i := 3) scIsWide.nd rfl (Or.inl rfl)) (fun _ _ _ _ _ => pts_nil)
          (fun _ _ _ _ _ => pe_call G hr rfl RD.g RD.F.kp RD.b .nil pass0 (pa_cons (pv 3) (pa_cons (pv 1) (pa_cons (pe_callB (r := rLenK K) call_len (by rfl) T.len PySem.boot_len (pa_cons (pv 2) pa_nil)) pa_nil))))) pa_nil))))), ?_⟩
    refine ⟨_, rfl, a, _, rfl, SqT.of ha, rfl, _, _, rfl, _, _, rfl, rfl, ?_⟩
    refine ⟨_, rfl, _, _, rfl, rfl, _, rfl, ?_⟩
    rw [decide_eq_true (show (2 : Int) ≤ (k : Int) by omega)]
    refine iteT ⟨_, _, rfl, rfl, _, rfl, ?_⟩
    rw [decide_eq_true (show (k : Int) ≤ 4 by omega)]
    refine iteF ⟨_, rfl, _, _, rfl, .inr ⟨_, SqT.of hb, rfl⟩, _, _, rfl, rfl, _, rfl, ?_⟩
    rw [decide_eq_true (show (1 : Int) ≤ (vs.length : Int) by omega)]
    refine iteT ⟨_, _, rfl, rfl, _, rfl, ?_⟩
    rw [decide_eq_true (show (vs.length : Int) ≤ 200 by omega)]
    refine iteF ?_
    refine ⟨_, rfl, b, rfl, ⟨_, SqT.of hb⟩, fun Dl hD => lc_it walk_tup (fun i H' => Ex H H' ∧ H' Dl = some (.lst ((List.replicate i true).map V.bl))) ⟨Ex.new hD, upd_same⟩ (fun i H' _ p => SqT.of (p.1 _ _ hb)) ?_ ?_⟩
    · rintro i x H1 H2 hi ⟨e1, h1⟩ ⟨rfl, hx⟩
      obtain ⟨r, he, hne⟩ := nall_get_map hv hx
      refine lc_yes rfl ?_
      refine ⟨_, rfl, _, rfl, _, rfl, _, _, rfl, .inr ⟨_, SqT.of (e1 _ _ hb), rfl⟩, x, k, rows.length, r, by rw [hl]; rfl, NIs.mono (.of e1) _ _ hne, M.row r (List.mem_of_getElem? he), k23 M, hn3, fun H3 e3 => ?_⟩
      refine ⟨_, e3 _ _ h1, by rw [List.length_map, List.length_replicate]; exact szlt (by omega), Ex.put (e1.trans e3) hD, ?_⟩
      rw [upd_same, List.replicate_succ', List.map_append]
      rfl
    · rintro H4 ⟨e4, h4⟩
      refine ⟨Dl, _, rfl, SqL.of h4, ?_⟩
      rw [all_true]
      exact q H4 e4
theorem scIsMachine : FnScope ["machine"] ["machine"] (defScope sIsMachine) := ⟨rfl, rfl, rfl, by decide +kernel, rfl, by decide +kernel, by decide +kernel⟩
theorem ok_isMachine {f fW fR : Addr} {fd fdW fdR : FuncData} (D : Df K mg "is_machine" sIsMachine ["machine"] f fd) (WD : Df K mg "is_wide" sIsWide ["machine"] fW fdW) (RD : Df K mg "_is_row" sIsRow ["row", "k", "count"] fR fdR) (T : TWords mg) : FnOk P w K mg base CX0 3 f fd ["machine"] spIsWide := by
  have G : FnOk P w K mg base CX0 2 fW fdW ["machine"] spIsWide := ok_isWide WD RD T
  refine D.F.ok scIsMachine (fun vs H Q E h => ?_) (fun cdv A outer s H vs Q E hr h => ?_)
  · obtain ⟨_, _, _, rfl, _⟩ := h; rfl
  · obtain ⟨v, k, rows, rfl, hm, M, q⟩ := h
    obtain ⟨a, b, vs, rfl, ha, hb, hv⟩ := mach_at hm
    have hl : vs.length = rows.length := nall_len_map hv
    have hn3 := M.n3
    obtain ⟨t1, m1⟩ := T.mostS
    refine ⟨_, pss_one (ps_ret (pe_and (pe_cmpR op_le (pe_callB call_len (by rfl) T.len PySem.boot_len (pa_cons (pe_ix ix_tup (pv 0) pe_int (fun _ _ => rfl)) pa_nil)) (pe_glob (v := .int 8) rfl m1 ⟨_, rfl⟩) (nomark _))
      (pe_one (pe_call G hr rfl WD.g WD.F.kp WD.b .nil pass0 (pa_cons (pv 0) pa_nil))))), ?_⟩
    refine ⟨_, rfl, a, _, 1, _, rfl, rfl, SqT.of ha, rfl, _, _, rfl, .inr ⟨_, SqT.of hb, rfl⟩, _, _, rfl, rfl, _, rfl, ?_⟩
    rw [decide_eq_true (show (vs.length : Int) ≤ 8 by omega)]
    exact iteT ⟨_, rfl, _, k, rows, rfl, hm, M, q⟩
def spCheckMachine : Sp := fun vs H Q _ => ∃ v k rows, vs = [v] ∧ NIs H (machK k rows) v ∧ MOk k rows ∧ RetV .non H Q
theorem scCheckMachine : FnScope ["machine"] ["machine"] (defScope sCheckMachine) := ⟨rfl, rfl, rfl, by decide +kernel, rfl, by decide +kernel, by decide +kernel⟩
theorem ok_checkMachine {f fM fW fR : Addr} {fd fdM fdW fdR : FuncData} (D : Df K mg "check_machine" sCheckMachine ["machine"] f fd) (MD : Df K mg "is_machine" sIsMachine ["machine"] fM fdM) (WD : Df K mg "is_wide" sIsWide ["machine"] fW fdW) (RD : Df K mg "_is_row" sIsRow ["row", "k", "count"] fR fdR) (T : TWords mg) : FnOk P w K mg base CX0 4 f fd ["machine"] spCheckMachine := by
  have G : FnOk P w K mg base CX0 3 fM fdM ["machine"] spIsWide := ok_isMachine MD WD RD T
  refine D.F.ok scCheckMachine (fun vs H Q E h => ?_) (fun cdv A outer s H vs Q E hr h => ?_)
  · obtain ⟨_, _, _, rfl, _⟩ := h; rfl
  · obtain ⟨v, k, rows, rfl, hm, M, q⟩ := h
    refine ⟨_, pss_one (ps_if (pt_not (pt_val (pe_call G hr rfl MD.g MD.F.kp MD.b .nil pass0 (pa_cons (pv 0) pa_nil)))) pss_never pss_nil), ?_⟩
    exact ⟨_, rfl, v, k, rows, rfl, hm, M, fun H2 e2 => ⟨true, rfl, q H2 e2⟩⟩
def spCheckWord : Sp := fun vs H Q _ => ∃ v k rows wd, vs = [v, .str (txt wd)] ∧ NIs H (machK k rows) v ∧ MOk k rows ∧ Wd (2 * rows.length) wd ∧ wd.length ≤ 60 ∧ RetV .non H Q
theorem scCheckWord : FnScope ["machine", "word"] ["machine", "word"] (defScope sCheckWord) := ⟨rfl, rfl, rfl, by decide +kernel, rfl, by decide +kernel, by decide +kernel⟩
theorem ok_checkWord {f fC fF : Addr} {fd fdC fdF : FuncData} (D : Df K mg "check_word" sCheckWord ["machine", "word"] f fd) (CD : Df K mg "check_machine" sCheckMachine ["machine"] fC fdC) (FD : Df K mg "refuse_word" sRefuseWord ["machine", "word"] fF fdF)
    (GC : FnOk P w K mg base CX0 4 fC fdC ["machine"] spCheckMachine) (GF : FnOk P w K mg base CX0 3 fF fdF ["machine", "word"] spRefuse) : FnOk P w K mg base CX0 5 f fd ["machine", "word"] spCheckWord := by
  refine D.F.ok scCheckWord (fun vs H Q E h => ?_) (fun cdv A outer s H vs Q E hr h => ?_)
  · obtain ⟨_, _, _, _, rfl, _⟩ := h; rfl
  · obtain ⟨v, k, rows, wd, rfl, hm, M, hw, hl, q⟩ := h
    refine ⟨_, pss_cons (ps_expr (pe_call GC hr rfl CD.g CD.F.kp CD.b .nil pass0 (pa_cons (pv 0) pa_nil))) (pss_one (ps_expr (pe_call GF (hr.mono (by decide)) rfl FD.g FD.F.kp FD.b .nil pass0 (pa_cons (pv 0) (pa_cons (pv 1) pa_nil))))), ?_⟩
    refine ⟨_, rfl, v, k, rows, rfl, hm, M, fun H2 e2 => ?_⟩
    exact ⟨_, rfl, _, rfl, v, k, rows, wd, rfl, NIs.mono (.of e2) _ _ hm, by have := M.n3; omega, hw, hl, fun H3 e3 => q H3 (e2.trans e3)⟩
def spCheckLength : Sp := fun vs H Q _ => ∃ n : Nat, vs = [.int n] ∧ n ≤ 12 ∧ Q .non H
theorem scCheckLength : FnScope ["length"] ["length"] (defScope sCheckLength) := ⟨rfl, rfl, rfl, by decide +kernel, rfl, by decide +kernel, by decide +kernel⟩
theorem ok_checkLength {f : Addr} {fd : FuncData} (D : Df K mg "check_length" sCheckLength ["length"] f fd) (T : TWords mg) : FnOk P w K mg base CX0 1 f fd ["length"] spCheckLength := by
  refine D.F.ok scCheckLength (fun vs H Q E h => ?_) (fun cdv A outer s H vs Q E hr h => ?_)
  · obtain ⟨_, rfl, _⟩ := h; rfl
  · obtain ⟨n, rfl, hn, q⟩ := h
    obtain ⟨t1, m1⟩ := T.longG
    refine ⟨_, pss_one (ps_if (pt_not (pt_chain op_le op_le pe_int (pv 0) (pe_glob (v := .int 12) rfl m1 ⟨_, rfl⟩))) pss_never pss_nil), ?_⟩
    refine ⟨_, rfl, _, _, rfl, rfl, _, rfl, ?_⟩
    rw [decide_eq_true (show (0 : Int) ≤ (n : Int) by omega)]
    refine iteT ⟨_, _, rfl, rfl, _, rfl, ?_⟩
    rw [decide_eq_true (show (n : Int) ≤ 12 by omega)]
    exact iteF q
def spCheckCall : Sp := fun vs H Q _ => ∃ v k rows, ∃ n : Nat, vs = [v, .int n] ∧ NIs H (machK k rows) v ∧ MOk k rows ∧ 1 ≤ n ∧ n ≤ 12 ∧ RetV .non H Q
theorem scCheckCall : FnScope ["machine", "length"] ["machine", "length"] (defScope sCheckCall) := ⟨rfl, rfl, rfl, by decide +kernel, rfl, by decide +kernel, by decide +kernel⟩
theorem ok_checkCall {f fC : Addr} {fd fdC : FuncData} (D : Df K mg "check_call" sCheckCall ["machine", "length"] f fd) (CD : Df K mg "check_machine" sCheckMachine ["machine"] fC fdC)
    (GC : FnOk P w K mg base CX0 4 fC fdC ["machine"] spCheckMachine) (T : TWords mg) : FnOk P w K mg base CX0 5 f fd ["machine", "length"] spCheckCall := by
  refine D.F.ok scCheckCall (fun vs H Q E h => ?_) (fun cdv A outer s H vs Q E hr h => ?_)
  · obtain ⟨_, _, _, _, rfl, _⟩ := h; rfl
  · obtain ⟨v, k, rows, n, rfl, hm, M, hn1, hn, q⟩ := h
    obtain ⟨t1, m1⟩ := T.longR
    refine ⟨_, pss_cons (ps_expr (pe_call GC hr rfl CD.g CD.F.kp CD.b .nil pass0 (pa_cons (pv 0) pa_nil))) (pss_one (ps_if (pt_not (pt_chain op_le op_le pe_int (pv 1) (pe_glob (v := .int 12) rfl m1 ⟨_, rfl⟩))) pss_never pss_nil)), ?_⟩
    refine ⟨_, rfl, v, k, rows, rfl, hm, M, fun H2 e2 => ?_⟩
    refine ⟨_, rfl, _, _, rfl, rfl, _, rfl, ?_⟩
    rw [decide_eq_true (show (1 : Int) ≤ (n : Int) by omega)]
    refine iteT ⟨_, _, rfl, rfl, _, rfl, ?_⟩
    rw [decide_eq_true (show (n : Int) ≤ 12 by omega)]
    exact iteF (q H2 e2)
end
end Lw
set_option Elab.async false
set_option linter.all false
set_option maxRecDepth 100000
set_option maxHeartbeats 4000000
namespace Lw
open PySem L2 Evl Lf
theorem ixN_nat {n j : Nat} (h : j < n) : ixN n (j : Int) = some j := by
  unfold ixN
  rw [if_pos (by omega), if_pos (by omega)]
  simp
/-! ### the fields of an instance -/
structure TA (K : PySem.W.Frag) (mg : Str → Option Value) (C : Addr) : Prop where
  cl : Cls K C
  nS : NoAttr K C "size"
  nT : NoAttr K C "table"
  g : mg "Actor" = some (.ref C)
def aF (k : Nat) (d : Addr) : List (Str × V) := putF "table" (.ref d) (putF "size" (.int k) [])
theorem putF_len {f : Str} {v : V} {fs : List (Str × V)} {n : Nat} (h : fs.length ≤ n) : (putF f v fs).length ≤ n + 1 := Nat.le_trans (length_putF f v fs) (by omega)
theorem sz_tb : ¬ (("size" : Str) = "table") := by decide +kernel
theorem aF_size (k : Nat) (d : Addr) : (aF k d).lookup ("size" : Str) = some (.int k) := by
  unfold aF
  rw [lookup_putF, if_neg sz_tb, lookup_putF, if_pos rfl]
theorem aF_table (k : Nat) (d : Addr) : (aF k d).lookup ("table" : Str) = some (.ref d) := by
  unfold aF
  rw [lookup_putF, if_pos rfl]
theorem aF_no (k : Nat) (d : Addr) {m : Str} (h1 : ¬ m = "size") (h2 : ¬ m = "table") : (aF k d).lookup m = none := by
  unfold aF
  rw [lookup_putF, if_neg h2, lookup_putF, if_neg h1]
  rfl
abbrev tk (w : List Nat) : L2.Key := Sum.inr (txt w)
theorem tk_inj {u v : List Nat} (hu : Wd 16 u) (hv : Wd 16 v) (h : tk u = tk v) : u = v := txt_inj hu hv (Sum.inr.inj h)
def entT (rows : Rows) (c x : Nat) : NestedKey := .tup [.num (lsOf rows c x).1, .text (txt [(lsOf rows c x).2])]
/-- the letters below n have their lists in the table -/
def TabAt (H : Hp) (k : Nat) (rows : Rows) (kvs : List (L2.Key × V)) (n : Nat) : Prop :=
  ∀ c, c < n → ∃ l vs, valV kvs (tk [c]) = some (.ref l) ∧ H l = some (.lst vs) ∧ NAll H ((List.range k).map (entT rows c)) vs
def ActorAt (C : Addr) (H : Hp) (p : Addr) (k : Nat) (rows : Rows) : Prop :=
  ∃ dx d kvs, H p = some (.ins C dx (aF k d)) ∧ H d = some (.dK kvs) ∧ TabAt H k rows kvs (2 * rows.length)
theorem TabAt.mono {H H' : Hp} {k : Nat} {rows : Rows} {kvs : List (L2.Key × V)} {n : Nat} (h : TabAt H k rows kvs n) (e : Ex H H') : TabAt H' k rows kvs n := fun c hc => by
  obtain ⟨l, vs, h1, h2, h3⟩ := h c hc
  exact ⟨l, vs, h1, e _ _ h2, NAll.mono (.of e) _ _ h3⟩
theorem ActorAt.mono {C : Addr} {H H' : Hp} {p : Addr} {k : Nat} {rows : Rows} (h : ActorAt C H p k rows) (e : Ex H H') : ActorAt C H' p k rows := by
  obtain ⟨dx, d, kvs, h1, h2, h3⟩ := h
  exact ⟨dx, d, kvs, e _ _ h1, e _ _ h2, h3.mono e⟩
theorem nall_of {H : Hp} {α : Type} {f : α → NestedKey} : ∀ {l : List α} {vs : List V}, vs.length = l.length → (∀ (i : Nat) a, l[i]? = some a → ∃ v, vs[i]? = some v ∧ NIs H (f a) v) → NAll H (l.map f) vs
  | [], vs, h, _ => by
    have : vs = [] := List.eq_nil_of_length_eq_zero (by simpa using h)
    subst this
    exact nall_nil.mpr rfl
  | a :: l, vs, h, g => by
    cases vs with
    | nil => simp at h
    | cons v vs =>
      obtain ⟨u, h1, h2⟩ := g 0 a rfl
      simp at h1
      subst h1
      exact nall_cons.mpr ⟨v, vs, rfl, h2, nall_of (by simpa using h) fun i b hb => by simpa using g (i + 1) b (by simpa using hb)⟩
theorem TK.ex {H H' : Hp} (e : Ex H H') : TK H H' := TK.of e
section
variable {P : Program} {w : World} {K : PySem.W.Frag} {mg : Str → Option Value} {base : Heap} {C : Addr}
def spAInit (C : Addr) : Sp := fun vs H Q _ => ∃ H0 p dx v k rows, vs = [.ref p, v] ∧ Ex H0 H ∧ H0 p = none ∧ H p = some (.ins C dx []) ∧ NIs H0 (machK k rows) v ∧ MOk k rows ∧ ∀ H', Ex H0 H' → ActorAt C H' p k rows → Q .non H'
abbrev nAInit : List Str := ["self", "machine", "state", "row", "back", "digit", "out", "following"]
theorem scAInit : FnScope nAInit ["self", "machine"] (defScope sAInit) := ⟨rfl, rfl, rfl, by decide +kernel, rfl, by decide +kernel, by decide +kernel⟩
theorem lookup_rows {rows : Rows} {s : Nat} {r : List (Nat × Nat)} (h : rows[s]? = some r) (x : Nat) : ent rows s x = r.getD x (0, 0) ∧ inv rows s x = (r.map (·.1)).idxOf x := by
  have e : rows.getD s [] = r := by rw [List.getD, h]; rfl
  unfold ent inv
  rw [e]
  exact ⟨rfl, rfl⟩
theorem entT_small {rows : Rows} {s : Nat} {r : List (Nat × Nat)} (h : rows[s]? = some r) {x : Nat} {e : Nat × Nat} (he : r[x]? = some e) : entT rows (2 * s) x = .tup [.num e.1, .text (txt [2 * e.2])] := by
  unfold entT lsOf
  rw [if_pos (by omega), show 2 * s / 2 = s by omega, (lookup_rows h x).1, List.getD, he]
  rfl
theorem entT_large {rows : Rows} {s : Nat} {r : List (Nat × Nat)} (h : rows[s]? = some r) {x y : Nat} {e : Nat × Nat} (hy : (r.map (·.1)).idxOf x = y) (he : r[y]? = some e) : entT rows (2 * s + 1) x = .tup [.num y, .text (txt [2 * e.2 + 1])] := by
  unfold entT lsOf
  rw [if_neg (by omega), show (2 * s + 1) / 2 = s by omega, (lookup_rows h x).2, hy, (lookup_rows h y).1, List.getD, he]
  rfl
theorem nis_pair {H : Hp} {i : Int} {x : Str} {a : Addr} (h : H a = some (.tup [.int i, .str x])) : NIs H (.tup [.num i, .text x]) (.ref a) :=
  nis_tup.mpr ⟨a, _, rfl, h, nall_cons.mpr ⟨_, _, rfl, nis_num.mpr rfl, nall_cons.mpr ⟨_, _, rfl, nis_text.mpr rfl, nall_nil.mpr rfl⟩⟩⟩
theorem large_txt {s : Nat} : (⟨#[65 + s]⟩ : Str) = txt [2 * s + 1] := by rw [txt_one, chr_odd]
theorem small_txt {s : Nat} : (⟨#[97 + s]⟩ : Str) = txt [2 * s] := by rw [txt_one, chr_even]
theorem at_smallc {s : Nat} (h : s < 8) : atI ("abcdefgh" : Str).cps.toList (s : Int) = some (chr (2 * s)) := by
  rw [chr_even]; exact atI_nat (at_small s h)
theorem at_largec {s : Nat} (h : s < 8) : atI ("ABCDEFGH" : Str).cps.toList (s : Int) = some (chr (2 * s + 1)) := by
  rw [chr_odd]; exact atI_nat (at_large s h)
theorem TabAt.put {H : Hp} {d l : Addr} {kvs : List (L2.Key × V)} {k : Nat} {rows : Rows} {n : Nat} {vs : List V} (t : TabAt H k rows kvs n) (hd : H d = some (.dK kvs)) (hn : n < 16) (hl : H l = some (.lst vs)) (hv : NAll H ((List.range k).map (entT rows n)) vs) :
    TabAt (upd H d (.dK (putK kvs (tk [n]) (.ref l)))) k rows (putK kvs (tk [n]) (.ref l)) (n + 1) := by
  have tkk : TK H (upd H d (.dK (putK kvs (tk [n]) (.ref l)))) := TK.put hd (by intro xs z; cases z)
  intro c hc
  by_cases e : c = n
  · subst e
    refine ⟨l, vs, by rw [valV_put, if_pos rfl], ?_, NAll.mono tkk _ _ hv⟩
    rw [upd_ne (ne_of hl hd (by intro z; cases z))]
    exact hl
  · obtain ⟨l', vs', h1, h2, h3⟩ := t c (by omega)
    refine ⟨l', vs', ?_, ?_, NAll.mono tkk _ _ h3⟩
    · rw [valV_put, if_neg]
      · exact h1
      · intro z
        have := tk_inj (Wd.one (by omega)) (Wd.one hn) z
        simp at this
        exact e this
    · rw [upd_ne (ne_of h2 hd (by intro z; cases z))]
      exact h2
theorem rep_len (k : Nat) (v : V) : ((List.replicate k [v]).flatten).length = k := by
  induction k with
  | zero => rfl
  | succ k ih => rw [List.replicate_succ, List.flatten_cons, List.length_append, ih]; simp; omega
theorem row_smallK {rows : Rows} {i k : Nat} {r : List (Nat × Nat)} (h : rows[i]? = some r) (R : RowOk k rows.length r) : r.map (fun e => NestedKey.tup [.num (e.1 : Nat), .text (txt [2 * e.2])]) = (List.range k).map (entT rows (2 * i)) := by
  refine List.ext_getElem? fun x => ?_
  rw [List.getElem?_map, List.getElem?_map]
  rcases Nat.lt_or_ge x k with hx | hx
  · have hx' : x < r.length := by rw [R.len]; exact hx
    have e1 : r[x]? = some r[x] := List.getElem?_eq_getElem hx'
    rw [e1, List.getElem?_range hx]
    show some _ = some _
    rw [entT_small h e1]
  · rw [List.getElem?_eq_none (by rw [R.len]; exact hx), List.getElem?_eq_none (by simpa using hx)]
    rfl
theorem ok_aInit {f : Addr} {fd : FuncData} (D : Fun K "__init__" "Actor.__init__" sAInit f fd) (T : TWords mg) (A0 : TA K mg C) : FnOk P w K mg base CX0 1 f fd ["self", "machine"] (spAInit C) := by
  refine D.ok scAInit (fun vs H Q E h => ?_) (fun cdv A outer s H vs Q E hr h => ?_)
  · obtain ⟨_, _, _, _, _, _, rfl, _⟩ := h; rfl
  · obtain ⟨H0, p, dx, v, k, rows, rfl, e0, hp0, hp, hm0, M, q⟩ := h
    obtain ⟨t1, m1⟩ := T.small
    obtain ⟨t2, m2⟩ := T.large
    obtain ⟨a, b, vs, rfl, ha, hb, hv⟩ := mach_at hm0
    have hl : vs.length = rows.length := nall_len_map hv
    have hk2 := M.k2
    have hk3 := M.k3
    have hn3 := M.n3
    refine ⟨_, pss_cons (ps_fld (pv 0) (pe_ix ix_tup (pv 1) pe_int (fun _ _ => rfl)) rfl) (pss_cons (ps_fld (pv 0) pe_dnewK rfl)
      (pss_one (ps_for PassesOwn.never rfl (pi_enumT (by rfl) T.enumerate (pa_cons (pe_ix ix_tup (pv 1) pe_int (fun _ _ => rfl)) pa_nil))
        (pg_tup rfl (pgs_cons (pg_name (i := 2) scAInit.nd rfl (Or.inl rfl)) (pgs_cons (pg_name (i := 3) scAInit.nd rfl (Or.inl rfl)) pgs_nil)))
        (pss_cons (ps_set (i := 4) scAInit.nd rfl (Or.inl rfl) (pe_op op_rep (pe_lst (pa_cons (pe_tup (pa_cons pe_int (pa_cons pe_str pa_nil))) pa_nil)) (pe_fld (pv 0) rfl)))
        (pss_cons (ps_for PassesOwn.never rfl (pi_enumT (by rfl) T.enumerate (pa_cons (pv 3) pa_nil))
          (pg_tup rfl (pgs_cons (pg_name (i := 5) scAInit.nd rfl (Or.inl rfl)) (pgs_cons (pg_tup rfl (pgs_cons (pg_name (i := 6) scAInit.nd rfl (Or.inl rfl)) (pgs_cons (pg_name (i := 7) scAInit.nd rfl (Or.inl rfl)) pgs_nil))) pgs_nil)))
          (pss_one (ps_asg (pe_tup (pa_cons (pv 5) (pa_cons (pe_ix ix_str (pe_glob (v := .str "ABCDEFGH") rfl m2 ⟨_, rfl⟩) (pv 7) (fun _ _ => rfl)) pa_nil))) (pg_sub (pv 4) (pv 6) set_list))))
        (pss_cons (ps_dput (hu_of hr) (pe_fld (pv 0) rfl) (pe_ix ix_str (pe_glob (v := .str "abcdefgh") rfl m1 ⟨_, rfl⟩) (pv 2) (fun _ _ => rfl))
          (pe_lc (own := [("out", 6), ("following", 7)]) (g := gTup K 2 (gCons (gName 6) (gCons (gName 7) gNil))) (tt := tYes) rfl scAInit.nd (pi_tup (pv 3)) (blkOk_by (N := nAInit) (sc := defScope sAInit) (by decide +kernel))
              (fun _ _ _ _ _ => pg_tup rfl (pgs_cons (pg_name (i := 6) scAInit.nd rfl (Or.inl rfl)) (pgs_cons (pg_name (i := 7) scAInit.nd rfl (Or.inl rfl)) pgs_nil))) (fun _ _ _ _ _ => pts_nil)
              (fun _ _ _ _ _ => pe_tup (pa_cons (pv 6) (pa_cons (pe_ix ix_str (pe_glob (v := .str "abcdefgh") rfl m1 ⟨_, rfl⟩) (pv 7) (fun _ _ => rfl)) pa_nil)))) rfl)
        (pss_one (ps_dput (hu_of hr) (pe_fld (pv 0) rfl) (pe_ix ix_str (pe_glob (v := .str "ABCDEFGH") rfl m2 ⟨_, rfl⟩) (pv 2) (fun _ _ => rfl)) (pv 4) rfl)))))))), ?_⟩
    refine ⟨_, rfl, a, _, 0, _, rfl, rfl, SqT.of (e0 _ _ ha), rfl, _, rfl, p, C, dx, _, rfl, hp, A0.cl, A0.nS, (by show 0 < 1000; decide), ?_⟩
    intro d hd
    have hpd : p ≠ d := ne_of_none upd_same hd
    have hd0 : H0 d = none := by
      rw [upd_ne (Ne.symm hpd)] at hd
      exact fresh_back e0 hd
    refine ⟨_, rfl, p, C, dx, _, rfl, by rw [upd_ne hpd, upd_same], A0.cl, A0.nT, (by show 1 < 1000; decide), ?_⟩
    have e1 : Ex H0 (upd (upd (upd H p (.ins C dx (putF "size" (.int k) []))) d (.dK [])) p (.ins C dx (aF k d))) := Ex.put (Ex.put (Ex.put e0 hp0) hd0) hp0
    have p1 : (upd (upd (upd H p (.ins C dx (putF "size" (.int k) []))) d (.dK [])) p (.ins C dx (aF k d))) p = some (.ins C dx (aF k d)) := upd_same
    have d1 : (upd (upd (upd H p (.ins C dx (putF "size" (.int k) []))) d (.dK [])) p (.ins C dx (aF k d))) d = some (.dK []) := by rw [upd_ne (Ne.symm hpd), upd_same]
    have hF : putF "table" (.ref d) (putF "size" (.int (k : Int)) []) = aF k d := rfl
    rw [hF]
    generalize upd (upd (upd H p (.ins C dx (putF "size" (.int k) []))) d (.dK [])) p (.ins C dx (aF k d)) = H1 at e1 p1 d1
    refine ⟨_, rfl, a, _, 1, _, rfl, rfl, SqT.of (e1 _ _ ha), rfl, b, vs, rfl, SqT.of (e1 _ _ hb), for_it walk_enumT (fun i σ H' => ∃ v2 v3 v4 v5 v6 v7 kvs, σ = [some (.ref p), some (.ref a), v2, v3, v4, v5, v6, v7] ∧ Ex H0 H' ∧ H' p = some (.ins C dx (aF k d)) ∧ H' d = some (.dK kvs) ∧ kvs.length ≤ 2 * i ∧ TabAt H' k rows kvs (2 * i))
      ⟨none, none, none, none, none, none, [], rfl, e1, p1, d1, Nat.le_refl _, fun c hc => absurd hc (Nat.not_lt_zero _)⟩ (fun i σ H' _ ⟨_, _, _, _, _, _, _, _, e, _⟩ => SqT.of (e _ _ hb)) ?_ ?_⟩
    · rintro i x σ H2 H3 hi ⟨v2, v3, v4, v5, v6, v7, kvs, rfl, e2, p2, d2, hkl, tab⟩ ⟨T1, x1, y1, rfl, hT, rfl, rfl', hy⟩
      cases rfl'
      obtain ⟨r, hri, hnr⟩ := nall_get_map hv hy
      obtain ⟨rb, rvs, rfl, hrb, hrv⟩ := row_at hnr
      have R : RowOk k rows.length r := M.row r (List.mem_of_getElem? hri)
      have hrl : rvs.length = k := by rw [nall_len_map hrv, R.len]
      have hi3 : i < 3 := by omega
      refine ⟨T1, _, rfl, SqT.of upd_same, rfl, _, _, rfl, _, _, rfl, rfl, ?_⟩
      have e3 : Ex H2 (upd H2 T1 (.tup [V.int (i : Nat), V.ref rb])) := Ex.new hT
      generalize upd H2 T1 (.tup [V.int (i : Nat), V.ref rb]) = H3 at e3
      refine ⟨(by show 2 ≤ sizeLine; decide), fun tz htz => ⟨(by show 1 ≤ sizeLine; decide), fun l0 hl0 => ?_⟩⟩
      have e4 : Ex H2 (upd H3 tz (.tup [V.int 0, V.str ""])) := e3.trans (Ex.new htz)
      generalize upd H3 tz (.tup [V.int 0, V.str ""]) = H4 at e4 hl0
      have e5 : Ex H2 (upd H4 l0 (.lst [V.ref tz])) := e4.trans (Ex.new hl0)
      have l5 : (upd H4 l0 (.lst [V.ref tz])) l0 = some (.lst [V.ref tz]) := upd_same
      generalize upd H4 l0 (.lst [V.ref tz]) = H5 at e5 l5
      have e50 : Ex H0 H5 := e2.trans e5
      refine ⟨_, rfl, p, C, dx, _, _, rfl, e5 _ _ p2, A0.cl, A0.nS, aF_size _ _, l0, _, _, rfl, rfl, l5, by omega, by omega, ?_, fun bk hbk => ?_⟩
      · show 1 * _ ≤ _
        exact sz100 (by omega)
      have hb0 : (upd H5 bk (.lst (List.replicate ((k : Int)).toNat [V.ref tz]).flatten)) bk = some (.lst (List.replicate ((k : Int)).toNat [V.ref tz]).flatten) := upd_same
      have e6 : Ex H5 (upd H5 bk (.lst (List.replicate ((k : Int)).toNat [V.ref tz]).flatten)) := Ex.new hbk
      generalize upd H5 bk (.lst (List.replicate ((k : Int)).toNat [V.ref tz]).flatten) = H6 at hb0 e6
      refine ⟨_, rfl, rb, _, rfl, SqT.of (e6 _ _ (e50 _ _ hrb)), for_it walk_enumT (fun j σ H' => ∃ v5 v6 v7 bvs, σ = [some (.ref p), some (.ref a), some (.int (i : Nat)), some (.ref rb), some (.ref bk), v5, v6, v7] ∧ Ex H5 H' ∧ H' bk = some (.lst bvs) ∧ bvs.length = k ∧
          ∀ y e, y < j → r[y]? = some e → ∃ v, bvs[e.1]? = some v ∧ NIs H' (.tup [.num (y : Nat), .text (txt [2 * e.2 + 1])]) v)
        ⟨v5, v6, v7, _, rfl, e6, hb0, by rw [rep_len]; simp, fun y e hy => absurd hy (Nat.not_lt_zero _)⟩ (fun j σ H' _ ⟨_, _, _, _, _, e, _⟩ => SqT.of (e _ _ (e50 _ _ hrb))) ?_ ?_⟩
      · rintro j x σ H7 H8 hj ⟨v5, v6, v7, bvs, rfl, e7, b7, hbl, hin⟩ ⟨T2, x2, y2, rfl, hT2, rfl, rfl', hy2⟩
        cases rfl'
        obtain ⟨e, hej, hne⟩ := nall_get_map hrv hy2
        obtain ⟨eb, rfl, heb⟩ := ent_at hne
        have h1k : e.1 < k := R.mem.mp (List.mem_map.mpr ⟨e, List.mem_of_getElem? hej, rfl⟩)
        have h2n : e.2 < 8 := by have := R.next e (List.mem_of_getElem? hej); omega
        have e8 : Ex H7 (upd H7 T2 (.tup [V.int (j : Nat), V.ref eb])) := Ex.new hT2
        refine ⟨T2, _, rfl, SqT.of upd_same, rfl, _, _, rfl, _, _, rfl, eb, _, rfl, SqT.of (e8 _ _ (e7 _ _ (e50 _ _ heb))), rfl, _, _, rfl, _, _, rfl, rfl, rfl, ?_⟩
        generalize upd H7 T2 (.tup [V.int (j : Nat), V.ref eb]) = H8 at e8
        refine ⟨_, rfl, _, rfl, _, _, _, rfl, rfl, by decide, at_largec h2n, (by show 2 ≤ sizeLine; decide), fun t ht => ?_⟩
        have e9 : Ex H8 (upd H8 t (.tup [V.int (j : Nat), V.str ⟨#[chr (2 * e.2 + 1)]⟩])) := Ex.new ht
        have t9 : (upd H8 t (.tup [V.int (j : Nat), V.str ⟨#[chr (2 * e.2 + 1)]⟩])) t = some (.tup [V.int (j : Nat), V.str (txt [2 * e.2 + 1])]) := upd_same
        generalize upd H8 t (.tup [V.int (j : Nat), V.str ⟨#[chr (2 * e.2 + 1)]⟩]) = H9 at e9 t9
        have b9 : H9 bk = some (.lst bvs) := e9 _ _ (e8 _ _ b7)
        refine ⟨_, rfl, _, rfl, bk, _, _, e.1, rfl, rfl, b9, ixN_nat (by rw [hbl]; exact h1k), ?_⟩
        have tkk : TK H9 (upd H9 bk (.lst (bvs.set e.1 (.ref t)))) := TK.put b9 (by intro xs z; cases z)
        refine ⟨_, _, _, _, rfl, Ex.put (e7.trans (e8.trans e9)) hbk, upd_same, by rw [List.length_set]; exact hbl, fun y e' hy he' => ?_⟩
        by_cases hyj : y = j
        · subst hyj
          rw [hej] at he'
          cases he'
          exact ⟨_, List.getElem?_set_self (by rw [hbl]; exact h1k), NIs.mono tkk _ _ (nis_pair t9)⟩
        · obtain ⟨v, h1, h2⟩ := hin y e' (by omega) he'
          refine ⟨v, ?_, NIs.mono ((TK.of (e8.trans e9)).trans tkk) _ _ h2⟩
          rw [List.getElem?_set_ne]
          · exact h1
          · intro z
            have q1 : (r.map (·.1))[j]? = some e.1 := by rw [List.getElem?_map, hej]; rfl
            have q2 : (r.map (·.1))[y]? = some e.1 := by rw [List.getElem?_map, he', z]; rfl
            exact hyj ((List.getElem?_inj (List.getElem?_eq_some_iff.mp q2).1 R.nodup).mp (q2.trans q1.symm))
      · rintro σ H7 ⟨v5, v6, v7, bvs, rfl, e7, b7, hbl, hin⟩
        rw [hrl] at hin
        have hbig : NAll H7 ((List.range k).map (entT rows (2 * i + 1))) bvs := by
          refine nall_of (by rw [hbl]; simp) fun x y hx => ?_
          have hxk : x < k := by
            have := (List.getElem?_eq_some_iff.mp hx).1
            simpa using this
          rw [List.getElem?_range hxk] at hx
          cases hx
          have hy := R.inv_lt hxk
          have hyl : (r.map (·.1)).idxOf x < r.length := by rw [R.len]; exact hy
          have ho := R.out_inv hxk
          rw [List.getD, List.getElem?_eq_getElem hyl] at ho
          obtain ⟨v, h1, h2⟩ := hin _ _ hy (List.getElem?_eq_getElem hyl)
          have ho' : (r[(r.map (·.1)).idxOf x]).1 = x := ho
          rw [ho'] at h1
          refine ⟨v, h1, ?_⟩
          rw [entT_large hri rfl (List.getElem?_eq_getElem hyl)]
          exact h2
        have e70 : Ex H0 H7 := e50.trans e7
        have p7 : H7 p = some (.ins C dx (aF k d)) := e7 _ _ (e5 _ _ p2)
        have d7 : H7 d = some (.dK kvs) := e7 _ _ (e5 _ _ d2)
        have tab7 : TabAt H7 k rows kvs (2 * i) := tab.mono (e5.trans e7)
        refine ⟨_, rfl, rb, rfl, ⟨_, SqT.of (e70 _ _ hrb)⟩, fun Dl hD => lc_it walk_tup (fun x H' => Ex H7 H' ∧ ∃ lvs, H' Dl = some (.lst lvs) ∧ lvs.length ≤ x ∧ NAll H' ((r.take x).map fun e => NestedKey.tup [.num (e.1 : Nat), .text (txt [2 * e.2])]) lvs)
          ⟨Ex.new hD, [], upd_same, Nat.le_refl _, nall_nil.mpr rfl⟩ (fun _ H' _ p => SqT.of (p.1 _ _ (e70 _ _ hrb))) ?_ ?_⟩
        · rintro x y H8 H9 hx ⟨e8, lvs, l8, hll, hnl⟩ ⟨rfl, hxy⟩
          obtain ⟨e, hej, hne⟩ := nall_get_map hrv hxy
          obtain ⟨eb, rfl, heb⟩ := ent_at hne
          have h2n : e.2 < 8 := by have := R.next e (List.mem_of_getElem? hej); omega
          refine ⟨eb, _, rfl, SqT.of (e8 _ _ (e70 _ _ heb)), rfl, _, _, rfl, _, _, rfl, rfl, lc_yes rfl ?_⟩
          refine ⟨_, rfl, _, rfl, _, _, _, rfl, rfl, by decide, at_smallc h2n, (by show 2 ≤ sizeLine; decide), fun t ht => ?_⟩
          have e9 : Ex H9 (upd H9 t (.tup [V.int (e.1 : Nat), V.str ⟨#[chr (2 * e.2)]⟩])) := Ex.new ht
          have t9 : (upd H9 t (.tup [V.int (e.1 : Nat), V.str ⟨#[chr (2 * e.2)]⟩])) t = some (.tup [V.int (e.1 : Nat), V.str (txt [2 * e.2])]) := upd_same
          generalize upd H9 t (.tup [V.int (e.1 : Nat), V.str ⟨#[chr (2 * e.2)]⟩]) = H10 at e9 t9
          have l10 : H10 Dl = some (.lst lvs) := e9 _ _ l8
          have tkk : TK H10 (upd H10 Dl (.lst (lvs ++ [.ref t]))) := TK.put l10 (by intro xs z; cases z)
          refine ⟨_, l10, szlt (by omega), Ex.put (e8.trans e9) hD, _, upd_same, by simp; omega, ?_⟩
          rw [List.take_add_one, hej, List.map_append]
          exact NAll.snoc (NAll.mono ((TK.of e9).trans tkk) _ _ hnl) (NIs.mono tkk _ _ (nis_pair t9))
        · rintro H8 ⟨e8, lvs, l8, hll, hnl⟩
          rw [hrl, List.take_of_length_le (by rw [R.len]; exact Nat.le_refl _), row_smallK hri R] at hnl
          have d8 : H8 d = some (.dK kvs) := e8 _ _ d7
          have p8 : H8 p = some (.ins C dx (aF k d)) := e8 _ _ p7
          refine ⟨_, rfl, p, C, dx, _, _, rfl, p8, A0.cl, A0.nT, aF_table _ _, _, rfl, _, _, _, rfl, rfl, by decide, at_smallc (by omega), d, _, rfl, DPut.k (k := tk [2 * i]) d8 (szlt (by omega)), ?_⟩
          have tab8 := (tab7.mono e8).put d8 (by omega) l8 hnl
          have b8 : H8 bk = some (.lst bvs) := e8 _ _ b7
          have hbig8 : NAll H8 ((List.range k).map (entT rows (2 * i + 1))) bvs := NAll.mono (.of e8) _ _ hbig
          have hpd' : p ≠ d := hpd
          have p9 : (upd H8 d (.dK (putK kvs (tk [2 * i]) (.ref Dl)))) p = some (.ins C dx (aF k d)) := by rw [upd_ne hpd']; exact p8
          have d9 : (upd H8 d (.dK (putK kvs (tk [2 * i]) (.ref Dl)))) d = some (.dK (putK kvs (tk [2 * i]) (.ref Dl))) := upd_same
          have b9 : (upd H8 d (.dK (putK kvs (tk [2 * i]) (.ref Dl)))) bk = some (.lst bvs) := by rw [upd_ne (ne_of b8 d8 (by intro z; cases z))]; exact b8
          have hbig9 : NAll (upd H8 d (.dK (putK kvs (tk [2 * i]) (.ref Dl)))) ((List.range k).map (entT rows (2 * i + 1))) bvs := NAll.mono (TK.put d8 (by intro xs z; cases z)) _ _ hbig8
          have e9 : Ex H0 (upd H8 d (.dK (putK kvs (tk [2 * i]) (.ref Dl)))) := Ex.put (e70.trans e8) hd0
          have hl9 : (putK kvs (tk [2 * i]) (.ref Dl)).length ≤ 2 * i + 1 := by have := length_putK kvs (tk [2 * i]) (.ref Dl); omega
          generalize upd H8 d (.dK (putK kvs (tk [2 * i]) (.ref Dl))) = H9 at tab8 p9 d9 b9 hbig9 e9
          generalize putK kvs (tk [2 * i]) (.ref Dl) = kvs9 at tab8 d9 hl9
          refine ⟨_, rfl, _, rfl, p, C, dx, _, _, rfl, p9, A0.cl, A0.nT, aF_table _ _, _, rfl, _, _, _, rfl, rfl, by decide, at_largec (by omega), d, _, rfl, DPut.k (k := tk [2 * i + 1]) d9 (szlt (by omega)), ?_⟩
          have tab9 := tab8.put d9 (by omega) b9 hbig9
          exact ⟨_, _, _, _, _, _, _, rfl, Ex.put e9 hd0, by rw [upd_ne hpd']; exact p9, upd_same, by have := length_putK kvs9 (tk [2 * i + 1]) (.ref bk); omega, tab9⟩
    · rintro σ H2 ⟨v2, v3, v4, v5, v6, v7, kvs, rfl, e2, p2, d2, hkl, tab⟩
      rw [hl] at tab
      exact q H2 e2 ⟨dx, d, kvs, p2, d2, tab⟩

/-! ### step -/
theorem walk_rg {n : Nat} : Walk (Itr 0 n) n (fun _ => True) (fun i H x H' => H' = H ∧ x = .int (i : Nat)) :=
  walk_range.mono (fun _ h => h) fun i H x H' _ _ y => ⟨y.1, y.2.trans (by show V.int (0 + (i : Int)) = _; rw [Int.zero_add])⟩

def spStep (C : Addr) : Sp := fun vs H Q _ => ∃ p k rows wd, ∃ x : Nat, vs = [.ref p, .str (txt wd), .int x] ∧ ActorAt C H p k rows ∧ MOk k rows ∧ Wd (2 * rows.length) wd ∧ wd.length ≤ 1000 ∧ x < k ∧
  ∀ H' a, Ex H H' → H' a = some (.tup [.int (ws (lsOf rows) wd x).1, .str (txt (ws (lsOf rows) wd x).2)]) → Q (.ref a) H'
abbrev nAStep : List Str := ["self", "word", "digit", "letters", "letter", "following"]
theorem scAStep : FnScope nAStep ["self", "word", "digit"] (defScope sAStep) := ⟨rfl, rfl, rfl, by decide +kernel, rfl, by decide +kernel, by decide +kernel⟩
theorem entT_at {H : Hp} {rows : Rows} {c x : Nat} {v : V} (h : NIs H (entT rows c x) v) : ∃ a, v = .ref a ∧ H a = some (.tup [.int (lsOf rows c x).1, .str (txt [(lsOf rows c x).2])]) := by
  obtain ⟨a, xs, rfl, ha, h⟩ := nis_tup.mp h
  obtain ⟨y, r, rfl, h1, h⟩ := nall_cons.mp h
  obtain ⟨z, r, rfl, h2, h⟩ := nall_cons.mp h
  rw [nall_nil] at h
  subst h
  rw [nis_num] at h1
  rw [nis_text] at h2
  subst h1 h2
  exact ⟨a, rfl, ha⟩
theorem ok_step {f : Addr} {fd : FuncData} (D : Fun K "step" "Actor.step" sAStep f fd) (A0 : TA K mg C) : FnOk P w K mg base CX0 1 f fd ["self", "word", "digit"] (spStep C) := by
  refine D.ok scAStep (fun vs H Q E h => ?_) (fun cdv A outer s H vs Q E hr h => ?_)
  · obtain ⟨_, _, _, _, _, rfl, _⟩ := h; rfl
  · obtain ⟨p, k, rows, wd, x, rfl, ⟨dx, d, kvs, hp, hd, tab⟩, M, hw, hwl, hx, q⟩ := h
    refine ⟨_, pss_cons (ps_set (i := 3) scAStep.nd rfl (Or.inl rfl) (pe_lst pa_nil))
      (pss_cons (ps_for PassesOwn.never rfl (pi_str (pv 1)) (pg_name (i := 4) scAStep.nd rfl (Or.inl rfl))
        (pss_cons (ps_asg (pe_ix ix_list (pe_dget (hu_of hr) (pe_fld (pv 0) rfl) (pv 4) (fun _ _ => rfl)) (pv 2) (fun _ _ => rfl)) (pg_tup rfl (pgs_cons (pg_name (i := 2) scAStep.nd rfl (Or.inl rfl)) (pgs_cons (pg_name (i := 5) scAStep.nd rfl (Or.inl rfl)) pgs_nil))))
          (pss_one (ps_expr (pe_bm PySem.F.plainAttrs_list PySem.F.slot_list_append PySem.F.type_list_append mt_append (pv 3) (pa_cons (pv 5) pa_nil))))))
      (pss_one (ps_ret (pe_tup (pa_cons (pv 2) (pa_cons (pe_join pe_str (pv 3)) pa_nil)))))), ?_⟩
    refine ⟨Nat.zero_le _, fun l hl0 => ?_⟩
    refine ⟨_, rfl, _, rfl, for_it (walk_txt wd) (fun i σ H' => ∃ v4 v5, σ = [some (.ref p), some (.str (txt wd)), some (.int ((ws (lsOf rows) (wd.take i) x).1 : Nat)), some (.ref l), v4, v5] ∧ Ex H H' ∧ H' l = some (.lst ((ws (lsOf rows) (wd.take i) x).2.map one)))
      ⟨none, none, rfl, Ex.new hl0, upd_same⟩ (fun _ _ _ _ _ => True.intro) ?_ ?_⟩
    · rintro i y σ H1 H2 hi ⟨v4, v5, rfl, e1, l1⟩ ⟨rfl, c, hc, rfl⟩
      have hcL : c < 2 * rows.length := hw c (List.mem_of_getElem? hc)
      have hwt : Wd (2 * rows.length) (wd.take i) := fun b hb => hw b (List.mem_of_mem_take hb)
      have hdk := ws_dig M.ls hwt hx
      obtain ⟨lc, lvs, h1, h2, h3⟩ := tab c hcL
      have h4 : ((List.range k).map (entT rows c))[(ws (lsOf rows) (wd.take i) x).1]? = some (entT rows c (ws (lsOf rows) (wd.take i) x).1) := by
        rw [List.getElem?_map, List.getElem?_range hdk]; rfl
      obtain ⟨v, hv1, hv2⟩ := h3.get h4
      obtain ⟨a, rfl, ha⟩ := entT_at hv2
      have et : wd.take (i + 1) = wd.take i ++ [c] := by rw [List.take_add_one, hc]; rfl
      refine ⟨_, rfl, p, C, dx, _, _, rfl, e1 _ _ hp, A0.cl, A0.nT, aF_table _ _, _, rfl, d, .ref lc, rfl, ?_, _, rfl, lc, lvs, _, _, rfl, rfl, SqL.of (e1 _ _ h2), atI_nat hv1, a, _, rfl, SqT.of (e1 _ _ ha), rfl, _, _, rfl, _, _, rfl, rfl, ?_⟩
      · rw [← h1]; exact DGet.k (k := tk [c]) (e1 _ _ hd)
      refine ⟨_, rfl, .inl ⟨rfl, _, SqL.of l1⟩, _, rfl, l, _, _, rfl, rfl, l1, by rw [List.length_map, ws_len, List.length_take]; exact szlt (by omega), ?_⟩
      refine ⟨some (one c), some (one (lsOf rows c (ws (lsOf rows) (wd.take i) x).1).2), ?_, Ex.put e1 hl0, ?_⟩
      · rw [et, ws_snoc]; rfl
      · rw [upd_same, et, ws_snoc, List.map_append]; rfl
    · rintro σ H1 ⟨v4, v5, rfl, e1, l1⟩
      rw [List.take_length] at l1 ⊢
      have hlen : (ws (lsOf rows) wd x).2.length ≤ 1000 := by rw [ws_len]; exact hwl
      refine ⟨_, rfl, ⟨_, rfl⟩, _, rfl, ⟨#[]⟩, l, (ws (lsOf rows) wd x).2.map (fun c => txt [c]), rfl, rfl, .inl (SqL.of ?_), ?_, ?_⟩
      · rw [l1, List.map_map]; rfl
      · rw [join_sz, List.length_map]
        show _ + _ * 0 ≤ _
        omega
      · rw [txt_join]
        exact ⟨(by show 2 ≤ sizeLine; decide), fun t ht => q _ t (e1.trans (Ex.new ht)) upd_same⟩
/-! ### keeps_digits -/
def spKeeps (C : Addr) : Sp := fun vs H Q _ => ∃ p k rows wd, vs = [.ref p, .str (txt wd)] ∧ ActorAt C H p k rows ∧ MOk k rows ∧ Wd (2 * rows.length) wd ∧ wd.length ≤ 1000 ∧
  RetV (.bl (((List.range k).map fun x => decide ((ws (lsOf rows) wd x).1 = x)).all id)) H Q
abbrev nAKeeps : List Str := ["self", "word", "digit"]
theorem scAKeeps : FnScope nAKeeps ["self", "word"] (defScope sAKeeps) := ⟨rfl, rfl, rfl, by decide +kernel, rfl, by decide +kernel, by decide +kernel⟩
theorem dec_nat {a b : Nat} : decide (V.int (a : Nat) = V.int (b : Nat)) = decide (a = b) := by
  by_cases h : a = b
  · subst h; simp
  · rw [decide_eq_false h]
    exact decide_eq_false fun e => h (by have := V.int.inj e; omega)
theorem ok_keeps {f fS : Addr} {fd fdS : FuncData} (D : Fun K "keeps_digits" "Actor.keeps_digits" sAKeeps f fd) (S : Me K C "step" "Actor.step" sAStep ["self", "word", "digit"] fS fdS) (T : TWords mg) (A0 : TA K mg C) : FnOk P w K mg base CX0 2 f fd ["self", "word"] (spKeeps C) := by
  have G : FnOk P w K mg base CX0 1 fS fdS ["self", "word", "digit"] (spStep C) := ok_step S.F A0
  refine D.ok scAKeeps (fun vs H Q E h => ?_) (fun cdv A outer s H vs Q E hr h => ?_)
  · obtain ⟨_, _, _, _, rfl, _⟩ := h; rfl
  · obtain ⟨p, k, rows, wd, rfl, hA, M, hw, hwl, q⟩ := h
    obtain ⟨dx, d, kvs, hp, hd, tab⟩ := id hA
    have hk3 := M.k3
    refine ⟨_, pss_one (ps_ret (pe_callB (cr_all rfl) (by rfl) T.all PyProof.Rows.boot_all (pa_cons
        (pe_lc (own := [("digit", 2)]) (g := gName 2) (tt := tYes) rfl scAKeeps.nd (pi_range1 (by rfl) T.range (pa_cons (pe_fld (pv 0) rfl) pa_nil)) (blkOk_by (N := nAKeeps) (sc := defScope sAKeeps) (by decide +kernel))
          (fun _ _ _ _ _ => pg_name (i := 2) scAKeeps.nd rfl (Or.inl rfl)) (fun _ _ _ _ _ => pts_nil)
          (fun _ _ _ _ _ => pe_cmpR op_eq (pe_ix (r := rIxT K) ix_tup (pe_meth (pv 0) A0.cl S.m G hr S.b .nil pass0 (pa_cons (pv 1) (pa_cons (pv 2) pa_nil))) pe_int (fun _ _ => rfl)) (pv 2) (nomark _))) pa_nil))), ?_⟩
    refine ⟨_, rfl, p, C, dx, _, _, rfl, hp, A0.cl, A0.nS, aF_size _ _, _, rfl, by omega, by omega, fun Dl hD => lc_it walk_rg (fun i H' => Ex H H' ∧ H' Dl = some (.lst (((List.range i).map fun x => decide ((ws (lsOf rows) wd x).1 = x)).map V.bl))) ⟨Ex.new hD, upd_same⟩ (fun _ _ _ _ => True.intro) ?_ ?_⟩
    · rintro i y H1 H2 hi ⟨e1, l1⟩ ⟨rfl, rfl⟩
      have hik : i < k := by simpa using hi
      refine lc_yes rfl ?_
      refine ⟨_, rfl, p, dx, _, rfl, e1 _ _ hp, aF_no _ _ (by decide +kernel) (by decide +kernel), _, rfl, _, rfl, p, k, rows, wd, i, rfl, hA.mono e1, M, hw, hwl, hik, fun H3 a e3 ha => ?_⟩
      refine ⟨a, _, 0, _, rfl, rfl, SqT.of ha, rfl, _, rfl, rfl, ?_⟩
      refine ⟨_, e3 _ _ l1, by rw [List.length_map, List.length_map, List.length_range]; exact szlt (by omega), Ex.put (e1.trans e3) hD, ?_⟩
      rw [upd_same, dec_nat, List.range_succ, List.map_append, List.map_append]
      rfl
    · rintro H1 ⟨e1, l1⟩
      exact ⟨Dl, _, rfl, SqL.of l1, q H1 e1⟩
/-! ### row -/
def dgK (ds : List Nat) : NestedKey := .tup (ds.map fun d => .num (d : Nat))
def scK (ss : List (List Nat)) : NestedKey := .tup (ss.map fun s => .text (txt s))
def spARow (C : Addr) : Sp := fun vs H Q _ => ∃ p k rows wd, vs = [.ref p, .str (txt wd)] ∧ ActorAt C H p k rows ∧ MOk k rows ∧ Wd (2 * rows.length) wd ∧ wd.length ≤ 1000 ∧
  ∀ H' a b c, Ex H H' → H' a = some (.tup [.ref b, .ref c]) → H' b = some (.tup ((digs k (lsOf rows) wd).map fun d => .int (d : Nat))) → H' c = some (.tup ((secs k (lsOf rows) wd).map fun s => .str (txt s))) → Q (.ref a) H'
abbrev nARow : List Str := ["self", "word", "steps", "digit", "_", "section"]
theorem scARow : FnScope nARow ["self", "word"] (defScope sARow) := ⟨rfl, rfl, rfl, by decide +kernel, rfl, by decide +kernel, by decide +kernel⟩
def stK (rows : Rows) (wd : List Nat) (x : Nat) : NestedKey := .tup [.num (ws (lsOf rows) wd x).1, .text (txt (ws (lsOf rows) wd x).2)]
theorem stK_at {H : Hp} {rows : Rows} {wd : List Nat} {x : Nat} {v : V} (h : NIs H (stK rows wd x) v) : ∃ a, v = .ref a ∧ H a = some (.tup [.int (ws (lsOf rows) wd x).1, .str (txt (ws (lsOf rows) wd x).2)]) := by
  obtain ⟨a, xs, rfl, ha, h⟩ := nis_tup.mp h
  obtain ⟨y, r, rfl, h1, h⟩ := nall_cons.mp h
  obtain ⟨z, r, rfl, h2, h⟩ := nall_cons.mp h
  rw [nall_nil] at h
  subst h
  rw [nis_num] at h1
  rw [nis_text] at h2
  subst h1 h2
  exact ⟨a, rfl, ha⟩
theorem ok_aRow {f fS fC : Addr} {fd fdS fdC : FuncData} (D : Fun K "row" "Actor.row" sARow f fd) (S : Me K C "step" "Actor.step" sAStep ["self", "word", "digit"] fS fdS) (CD : Df K mg "cut" sCut ["word"] fC fdC)
    (GC : FnOk P w K mg base CX0 2 fC fdC ["word"] spCut) (T : TWords mg) (A0 : TA K mg C) : FnOk P w K mg base CX0 3 f fd ["self", "word"] (spARow C) := by
  have G : FnOk P w K mg base CX0 1 fS fdS ["self", "word", "digit"] (spStep C) := ok_step S.F A0
  refine D.ok scARow (fun vs H Q E h => ?_) (fun cdv A outer s H vs Q E hr h => ?_)
  · obtain ⟨_, _, _, _, rfl, _⟩ := h; rfl
  · obtain ⟨p, k, rows, wd, rfl, hA, M, hw, hwl, q⟩ := h
    obtain ⟨dx, d, kvs, hp, hd, tab⟩ := id hA
    have hk3 := M.k3
    have hL := M.le6
    refine ⟨_, pss_cons (ps_setLc (i := 2) (own := [("digit", 3)]) (g := gName 3) (tt := tYes) rfl scARow.nd rfl rfl (sw_true rfl rfl rfl (by decide +kernel)) (pi_range1 (by rfl) T.range (pa_cons (pe_fld (pv 0) rfl) pa_nil)) (blkOk_by (N := nARow) (sc := defScope sARow) (by decide +kernel))
          (fun _ _ _ _ _ => pg_name (i := 3) scARow.nd rfl (Or.inl rfl)) (fun _ _ _ _ _ => pts_nil)
          (fun _ _ _ _ _ => pe_meth (pv 0) A0.cl S.m G (hr.mono (by decide)) S.b .nil pass0 (pa_cons (pv 1) (pa_cons (pv 3) pa_nil))))
      (pss_one (ps_ret (pe_tup (pa_cons
        (pe_callTy call_tuple_of (by rfl) T.tuple PyProof.Rows.boot_tuple (pa_cons
          (pe_lc (own := [("digit", 3), ("_", 4)]) (g := gTup K 2 (gCons (gName 3) (gCons (gName 4) gNil))) (tt := tYes) rfl scARow.nd (pi_list (pv 2)) (blkOk_by (N := nARow) (sc := defScope sARow) (by decide +kernel))
            (fun _ _ _ _ _ => pg_tup rfl (pgs_cons (pg_name (i := 3) scARow.nd rfl (Or.inl rfl)) (pgs_cons (pg_name (i := 4) scARow.nd rfl (Or.inl rfl)) pgs_nil))) (fun _ _ _ _ _ => pts_nil) (fun _ _ _ _ _ => pv 3)) pa_nil))
        (pa_cons (pe_callTy call_tuple_of (by rfl) T.tuple PyProof.Rows.boot_tuple (pa_cons
          (pe_lc (own := [("_", 4), ("section", 5)]) (g := gTup K 2 (gCons (gName 4) (gCons (gName 5) gNil))) (tt := tYes) rfl scARow.nd (pi_list (pv 2)) (blkOk_by (N := nARow) (sc := defScope sARow) (by decide +kernel))
            (fun _ _ _ _ _ => pg_tup rfl (pgs_cons (pg_name (i := 4) scARow.nd rfl (Or.inl rfl)) (pgs_cons (pg_name (i := 5) scARow.nd rfl (Or.inl rfl)) pgs_nil))) (fun _ _ _ _ _ => pts_nil)
            (fun _ _ _ _ _ => pe_call GC hr rfl CD.g CD.F.kp CD.b .nil pass0 (pa_cons (pv 5) pa_nil))) pa_nil)) pa_nil))))), ?_⟩
    refine ⟨_, rfl, p, C, dx, _, _, rfl, hp, A0.cl, A0.nS, aF_size _ _, _, rfl, by omega, by omega, fun Dl hD => lc_it walk_rg (fun i H' => Ex H H' ∧ ∃ lvs, H' Dl = some (.lst lvs) ∧ lvs.length ≤ i ∧ NAll H' ((List.range i).map (stK rows wd)) lvs) ⟨Ex.new hD, [], upd_same, Nat.le_refl _, nall_nil.mpr rfl⟩ (fun _ _ _ _ => True.intro) ?_ ?_⟩
    · rintro i y H1 H2 hi ⟨e1, lvs, l1, hll, hnl⟩ ⟨rfl, rfl⟩
      have hik : i < k := by simpa using hi
      refine lc_yes rfl ?_
      refine ⟨_, rfl, p, dx, _, rfl, e1 _ _ hp, aF_no _ _ (by decide +kernel) (by decide +kernel), _, rfl, _, rfl, p, k, rows, wd, i, rfl, hA.mono e1, M, hw, hwl, hik, fun H3 a e3 ha => ?_⟩
      have l3 := e3 _ _ l1
      have tkk : TK H3 (upd H3 Dl (.lst (lvs ++ [.ref a]))) := TK.put l3 (by intro xs z; cases z)
      refine ⟨_, l3, szlt (by omega), Ex.put (e1.trans e3) hD, _, upd_same, by simp; omega, ?_⟩
      rw [List.range_succ, List.map_append]
      exact NAll.snoc (NAll.mono ((TK.of e3).trans tkk) _ _ hnl) (NIs.mono tkk _ _ (nis_pair ha))
    · rintro H1 ⟨e1, lvs, l1, hll, hnl⟩
      have hlk : lvs.length = k := by rw [nall_len_map hnl]; simp
      have hnl : NAll H1 ((List.range k).map (stK rows wd)) lvs := hnl
      refine ⟨_, rfl, Dl, rfl, ⟨_, SqL.of l1⟩, fun Dm hDm => lc_it walk_list (fun i H' => Ex H1 H' ∧ H' Dm = some (.lst (((List.range i).map fun x => (ws (lsOf rows) wd x).1).map fun d => .int (d : Nat)))) ⟨Ex.new hDm, upd_same⟩ (fun _ H' _ p => SqL.of (p.1 _ _ l1)) ?_ ?_⟩
      · rintro i y H2 H3 hi ⟨e2, l2⟩ ⟨rfl, hy⟩
        obtain ⟨x, hx, hn⟩ := nall_get_map hnl hy
        have hik : i < k := by omega
        rw [List.getElem?_range hik] at hx
        cases hx
        obtain ⟨a, rfl, ha⟩ := stK_at hn
        refine ⟨a, _, rfl, SqT.of (e2 _ _ ha), rfl, _, _, rfl, _, _, rfl, rfl, lc_yes rfl ?_⟩
        refine ⟨_, rfl, _, l2, by rw [List.length_map, List.length_map, List.length_range]; exact szlt (by omega), Ex.put e2 hDm, ?_⟩
        rw [upd_same, List.range_succ, List.map_append, List.map_append]
        rfl
      · rintro H2 ⟨e2, l2⟩
        rw [hlk] at l2
        refine ⟨Dm, _, rfl, .inl ⟨SqL.of l2, fun tb htb => ?_⟩⟩
        have e3 : Ex H2 (upd H2 tb (.tup ((digs k (lsOf rows) wd).map fun d => .int (d : Nat)))) := Ex.new htb
        have b3 : (upd H2 tb (.tup ((digs k (lsOf rows) wd).map fun d => V.int (d : Nat)))) tb = some (.tup ((digs k (lsOf rows) wd).map fun d => .int (d : Nat))) := upd_same
        have hdg : (List.map (fun x => (ws (lsOf rows) wd x).1) (List.range k)) = digs k (lsOf rows) wd := rfl
        rw [hdg]
        generalize upd H2 tb (.tup ((digs k (lsOf rows) wd).map fun d => V.int (d : Nat))) = H3 at e3 b3
        have e13 : Ex H1 H3 := e2.trans e3
        refine ⟨_, rfl, Dl, rfl, ⟨_, SqL.of (e13 _ _ l1)⟩, fun Dn hDn => lc_it walk_list (fun i H' => Ex H3 H' ∧ H' Dn = some (.lst (((List.range i).map fun x => sec (lsOf rows) wd x).map fun s => .str (txt s)))) ⟨Ex.new hDn, upd_same⟩ (fun _ H' _ p => SqL.of (p.1 _ _ (e13 _ _ l1))) ?_ ?_⟩
        · rintro i y H4 H5 hi ⟨e4, l4⟩ ⟨rfl, hy⟩
          obtain ⟨x, hx, hn⟩ := nall_get_map hnl hy
          have hik : i < k := by omega
          rw [List.getElem?_range hik] at hx
          cases hx
          obtain ⟨a, rfl, ha⟩ := stK_at hn
          refine ⟨a, _, rfl, SqT.of (e4 _ _ (e13 _ _ ha)), rfl, _, _, rfl, _, _, rfl, rfl, lc_yes rfl ?_⟩
          refine ⟨_, rfl, _, rfl, (ws_wd M.ls hw hik).mono (by omega), by rw [ws_len]; exact hwl, fun H6 e6 => ?_⟩
          refine ⟨_, e6 _ _ l4, by rw [List.length_map, List.length_map, List.length_range]; exact szlt (by omega), Ex.put (e4.trans e6) hDn, ?_⟩
          rw [upd_same, List.range_succ, List.map_append, List.map_append]
          rfl
        · rintro H4 ⟨e4, l4⟩
          rw [hlk] at l4
          refine ⟨Dn, _, rfl, .inl ⟨SqL.of l4, fun tc htc => ⟨(by show 2 ≤ sizeLine; decide), fun t ht => ?_⟩⟩⟩
          have b4 := e4 _ _ b3
          have ntb : tb ≠ tc := ne_of_none b4 htc
          have ntc : tc ≠ t := ne_of_none upd_same ht
          have ntb2 : tb ≠ t := ne_of_none (show (upd H4 tc _) tb = _ by rw [upd_ne ntb]; exact b4) ht
          refine q _ t tb tc ((e1.trans e13).trans (e4.trans ((Ex.new htc).trans (Ex.new ht)))) upd_same ?_ ?_
          · rw [upd_ne ntb2, upd_ne ntb]; exact b4
          · rw [upd_ne ntc, upd_same]; rfl
end
end Lw
set_option Elab.async false
set_option linter.all false
set_option maxRecDepth 100000
set_option maxHeartbeats 4000000
namespace Lw
open PySem L2 Evl Lf
/-- a dict by texts that knows the words of a list, by f of their places -/
structure KP (kvs : List (L2.Key × V)) (Wl : List (List Nat)) (f : Nat → V) : Prop where
  len : kvs.length = Wl.length
  val : ∀ u, Wd 16 u → valV kvs (tk u) = if u ∈ Wl then some (f (Wl.idxOf u)) else none
theorem KP.one {f : Nat → V} {u : List Nat} (hu : Wd 16 u) : KP [(tk u, f 0)] [u] f := ⟨rfl, fun v hv => by
  by_cases e : v = u
  · subst e
    rw [valV_pos rfl]
    simp
  · rw [valV_neg (fun z => e (tk_inj hu hv z).symm), if_neg (by simp [e])]
    rfl⟩
theorem KP.put {kvs : List (L2.Key × V)} {Wl : List (List Nat)} {f : Nat → V} (h : KP kvs Wl f) {u : List Nat} (hu : Wd 16 u) (hn : u ∉ Wl) : KP (putK kvs (tk u) (f Wl.length)) (Wl ++ [u]) f := by
  have hv := h.val u hu
  rw [if_neg hn] at hv
  refine ⟨?_, fun v hv' => ?_⟩
  · rw [putK_new _ hv, List.length_append, List.length_append, h.len]; rfl
  · rw [valV_put]
    by_cases e : v = u
    · subst e
      rw [if_pos rfl, if_pos (by simp), List.idxOf_append, if_neg hn]
      simp
    · rw [if_neg (fun z => e (tk_inj hv' hu z)), h.val v hv']
      by_cases hm : v ∈ Wl
      · rw [if_pos hm, if_pos (List.mem_append_left _ hm), List.idxOf_append, if_pos hm]
      · rw [if_neg hm, if_neg (by simp [hm, e])]
abbrev wdV (u : List Nat) : V := .str (txt u)
section
variable {P : Program} {w : World} {K : PySem.W.Frag} {mg : Str → Option Value} {base : Heap} {C : Addr}
def spFound : Sp := fun vs H Q _ => ∃ v k rows wd n, vs = [v, .str (txt wd)] ∧ NIs H (machK k rows) v ∧ MOk k rows ∧ Wd (2 * rows.length) wd ∧ wd.length ≤ n ∧ n ≤ 1000 ∧ (allRed (2 * rows.length) n).length ≤ 3000 ∧
  (Rests k (lsOf rows) wd → ∀ H' a, Ex H H' → Q (.ref a) H') ∧ (¬ Rests k (lsOf rows) wd → ∀ H', Ex H H' → Q .non H')
abbrev nFound : List Str := ["machine", "word", "actor", "words", "known", "at", "section"]
theorem scFound : FnScope nFound ["machine", "word"] (defScope sFoundList) := ⟨rfl, rfl, rfl, by decide +kernel, rfl, by decide +kernel, by decide +kernel⟩
/-- the actor's class, its methods, cut: what is called -/
structure AK (P : Program) (w : World) (K : PySem.W.Frag) (mg : Str → Option Value) (base : Heap) (C : Addr) (fI fR fK fC : Addr) (fdI fdR fdK fdC : FuncData) : Prop where
  A0 : TA K mg C
  M0 : Mk K C fI
  bI : Binds K fdI ["self", "machine"] []
  GI : FnOk P w K mg base CX0 1 fI fdI ["self", "machine"] (spAInit C)
  mR : Meth K C "row" fR
  bR : Binds K fdR ["self", "word"] []
  GR : FnOk P w K mg base CX0 3 fR fdR ["self", "word"] (spARow C)
  mK : Meth K C "keeps_digits" fK
  bK : Binds K fdK ["self", "word"] []
  GK : FnOk P w K mg base CX0 2 fK fdK ["self", "word"] (spKeeps C)
  CD : Df K mg "cut" sCut ["word"] fC fdC
  GC : FnOk P w K mg base CX0 2 fC fdC ["word"] spCut
theorem made_ex {H : Hp} {x dx : Addr} {o : HO} (nx : H x = none) (ndx : H dx = none) : Ex H (upd (upd H dx (.own x)) x o) := Ex.put (Ex.new ndx) nx
theorem ok_found {f fI fR fK fC : Addr} {fd fdI fdR fdK fdC : FuncData} (D : Df K mg "found_list" sFoundList ["machine", "word"] f fd) (A : AK P w K mg base C fI fR fK fC fdI fdR fdK fdC) (T : TWords mg) : FnOk P w K mg base CX0 4 f fd ["machine", "word"] spFound := by
  refine D.F.ok scFound (fun vs H Q E h => ?_) (fun cdv Ar outer s H vs Q E hr h => ?_)
  · obtain ⟨_, _, _, _, _, rfl, _⟩ := h; rfl
  · obtain ⟨v, k, rows, wd, n, rfl, hm, M, hw, hwn, hn, hB, qy, qn⟩ := h
    obtain ⟨t1, m1⟩ := T.mostC
    have hL := M.le6
    have S := M.ls
    refine ⟨_, pss_cons (ps_set (i := 2) scFound.nd rfl (Or.inl rfl) (pe_make A.M0 A.GI (hr.mono (by decide)) rfl A.A0.g A.bI .nil pass0 (pa_cons (pv 0) pa_nil)))
      (pss_cons (ps_set (i := 3) scFound.nd rfl (Or.inl rfl) (pe_lst (pa_cons (pe_call A.GC (hr.mono (by decide)) rfl A.CD.g A.CD.F.kp A.CD.b .nil pass0 (pa_cons (pv 1) pa_nil)) pa_nil)))
      (pss_cons (ps_set (i := 4) scFound.nd rfl (Or.inl rfl) (pe_disp (pps_cons (pe_ix ix_list (pv 3) pe_int (fun _ _ => rfl)) pe_bl pps_nil) (by rfl) (by rfl) (fun z => by cases z) (by decide)))
      (pss_cons (ps_set (i := 5) scFound.nd rfl (Or.inl rfl) pe_int)
      (pss_cons (ps_while PassesOwn.never (pt_cmpR op_lt (pv 5) (pe_callB call_len (by rfl) T.len PySem.boot_len (pa_cons (pv 3) pa_nil)) (nomark _))
        (pss_cons (ps_if (pt_not (pt_val (pe_meth (pv 2) A.A0.cl A.mK A.GK (hr.mono (by decide)) A.bK .nil pass0 (pa_cons (pe_ix ix_list (pv 3) (pv 5) (fun _ _ => rfl)) pa_nil)))) (pss_one (ps_ret pe_non)) pss_nil)
        (pss_cons (ps_for PassesOwn.never rfl (pi_tup (pe_ix ix_tup (pe_meth (pv 2) A.A0.cl A.mR A.GR hr A.bR .nil pass0 (pa_cons (pe_ix ix_list (pv 3) (pv 5) (fun _ _ => rfl)) pa_nil)) pe_int (fun _ _ => rfl))) (pg_name (i := 6) scFound.nd rfl (Or.inl rfl))
          (pss_one (ps_if (pt_cmp (pc_dnotin (hu_of hr) (pv 6) (pv 4))) (pss_cons (ps_dput (hu_of hr) (pv 4) (pv 6) pe_bl rfl) (pss_one (ps_expr (pe_bm PySem.F.plainAttrs_list PySem.F.slot_list_append PySem.F.type_list_append mt_append (pv 3) (pa_cons (pv 6) pa_nil))))) pss_nil)))
        (pss_cons (ps_if (pt_cmpR op_gt (pe_callB call_len (by rfl) T.len PySem.boot_len (pa_cons (pv 3) pa_nil)) (pe_glob (v := .int 4000) rfl m1 ⟨_, rfl⟩) (nomark _)) pss_never pss_nil)
        (pss_one (ps_aug (i := 5) scFound.nd rfl (Or.inl rfl) pe_int ip_add))))))
      (pss_one (ps_ret (pv 3))))))), ?_⟩
    refine ⟨_, rfl, fun p dx hp hdx ndx => ?_⟩
    refine ⟨H, p, dx, v, k, rows, rfl, made_ex hp hdx, hp, upd_same, hm, M, fun H1 e1 act1 => ⟨rfl, ?_⟩⟩
    refine ⟨_, rfl, wd, rfl, hw.mono (by omega), by omega, fun H2 e2 => ?_⟩
    refine ⟨(by show 1 ≤ sizeLine; decide), fun wl hwl => ?_⟩
    have hw0 : H1 wl = none := fresh_back e2 hwl
    have e3 : Ex H1 (upd H2 wl (.lst [V.str (txt (Lf.cut wd))])) := e2.trans (Ex.new hwl)
    have w3 : (upd H2 wl (.lst [V.str (txt (Lf.cut wd))])) wl = some (.lst [V.str (txt (Lf.cut wd))]) := upd_same
    generalize upd H2 wl (.lst [V.str (txt (Lf.cut wd))]) = H3 at e3 w3
    intro kd hkd
    have nkw : wl ≠ kd := ne_of_none w3 hkd
    have hk0 : H1 kd = none := fresh_back e3 hkd
    refine ⟨_, rfl, wl, _, 0, _, rfl, rfl, SqL.of (by rw [upd_ne nkw]; exact w3), rfl, upd_same, [(tk (Lf.cut wd), .bl true)], rfl, (by show 1 ≤ 15; decide), ?_⟩
    have hcw : Wd 16 (Lf.cut wd) := (cut_wd hw).mono (by omega)
    have ekv : mergeK [] [(tk (Lf.cut wd), V.bl true)] = [(tk (Lf.cut wd), V.bl true)] := rfl
    rw [ekv, upd_upd]
    have e4 : Ex H1 (upd H3 kd (.dK [(tk (Lf.cut wd), V.bl true)])) := e3.trans (Ex.new hkd)
    have w4 : (upd H3 kd (.dK [(tk (Lf.cut wd), V.bl true)])) wl = some (.lst ([Lf.cut wd].map wdV)) := by rw [upd_ne nkw]; exact w3
    have k4 : (upd H3 kd (.dK [(tk (Lf.cut wd), V.bl true)])) kd = some (.dK [(tk (Lf.cut wd), V.bl true)]) := upd_same
    generalize upd H3 kd (.dK [(tk (Lf.cut wd), V.bl true)]) = H4 at e4 w4 k4
    refine ⟨fun m σ H' => ∃ (i : Nat) (Wl : List (List Nat)) (kvs : List (L2.Key × V)) (v6 : Option V), m = 4000 - i ∧ σ = [some v, some (.str (txt wd)), some (.ref p), some (.ref wl), some (.ref kd), some (.int i), v6] ∧ Ex H1 H' ∧ H' wl = some (.lst (Wl.map wdV)) ∧ H' kd = some (.dK kvs) ∧ KP kvs Wl (fun _ => .bl true) ∧ i ≤ Wl.length ∧ BI k (2 * rows.length) (lsOf rows) n wd Wl i ∧ RI k (2 * rows.length) (lsOf rows) wd Wl i,
      ⟨4000, 0, [Lf.cut wd], _, none, rfl, rfl, e4, w4, k4, KP.one (f := fun _ => .bl true) hcw, Nat.zero_le _, BI.start hw hwn, RI.start S hw⟩, ?_⟩
    rintro m σ H5 ⟨i, Wl, kvs, v6, rfl, rfl, e5, w5, k5, kp, hil, B, R⟩
    have hWl : Wl.length ≤ 3000 := Nat.le_trans B.bound hB
    refine ⟨_, rfl, _, rfl, _, _, rfl, .inl ⟨_, SqL.of w5, rfl⟩, _, _, rfl, rfl, _, rfl, ?_⟩
    rw [List.length_map]
    refine iteD (fun hlt => ?_) (fun hge => ?_)
    · have hlt : i < Wl.length := by omega
      refine ⟨_, fun σ' H' h => h, ?_⟩
      have hgi : Wl[i]? = some Wl[i] := List.getElem?_eq_getElem hlt
      generalize Wl[i] = u at hgi
      have hvi : (Wl.map wdV)[i]? = some (.str (txt u)) := by rw [List.getElem?_map, hgi]; rfl
      obtain ⟨hu1, hu2, hu3⟩ := B.good u (List.mem_of_getElem? hgi)
      obtain ⟨adx, ad, akv, hpa, _, _⟩ := id (act1.mono e5)
      refine ⟨_, rfl, p, adx, _, rfl, hpa, aF_no _ _ (by decide +kernel) (by decide +kernel), _, rfl, _, rfl, wl, _, _, _, rfl, rfl, SqL.of w5, atI_nat hvi, p, k, rows, u, rfl, act1.mono e5, M, hu1, by omega, fun H6 e6 => ?_⟩
      refine ⟨_, rfl, ?_⟩
      cases hkeep : ((List.range k).map fun x => decide ((ws (lsOf rows) u x).1 = x)).all id with
      | false =>
        refine iteT ?_
        obtain ⟨x, hx, hne⟩ := all_keeps_no hkeep
        exact qn (R.no (List.mem_of_getElem? hgi) hx hne) H6 (e1.trans (e5.trans e6))
      | true =>
        refine iteF ?_
        have hkp := all_keeps.mp hkeep
        have w6 := e6 _ _ w5
        have k6 := e6 _ _ k5
        have e16 := e5.trans e6
        refine ⟨_, rfl, p, adx, _, rfl, e6 _ _ hpa, aF_no _ _ (by decide +kernel) (by decide +kernel), _, rfl, _, rfl, wl, _, _, _, rfl, rfl, SqL.of w6, atI_nat hvi, p, k, rows, u, rfl, act1.mono e16, M, hu1, by omega, fun H7 a b c e7 ha hb hc => ?_⟩
        refine ⟨a, _, 1, _, rfl, rfl, SqT.of ha, rfl, c, rfl, ⟨_, SqT.of hc⟩, ?_⟩
        have e17 := e16.trans e7
        have hcs : ((secs k (lsOf rows) u).map wdV).length = k := by simp [secs]
        have c0 : ∀ H', Ex H1 H' → Ex H7 H' → True := fun _ _ _ => True.intro
        have ncw : c ≠ wl := ne_of hc (e7 _ _ w6) (by intro z; cases z)
        have nck : c ≠ kd := ne_of hc (e7 _ _ k6) (by intro z; cases z)
        refine for_it walk_tup (fun j σ H' => ∃ kvs v6, σ = [some v, some (.str (txt wd)), some (.ref p), some (.ref wl), some (.ref kd), some (.int i), v6] ∧ Ex H1 H' ∧ H' c = some (.tup ((secs k (lsOf rows) u).map wdV)) ∧ H' wl = some (.lst ((addW Wl ((secs k (lsOf rows) u).take j)).map wdV)) ∧ H' kd = some (.dK kvs) ∧ KP kvs (addW Wl ((secs k (lsOf rows) u).take j)) (fun _ => .bl true))
          ⟨kvs, v6, rfl, e17, hc, e7 _ _ w6, e7 _ _ k6, kp⟩ (fun _ _ _ _ ⟨_, _, _, _, h, _⟩ => SqT.of h) ?_ ?_
        · rintro j x σ H8 H9 hj ⟨kvs, v6, rfl, e8, c8, w8, k8, kp8⟩ ⟨rfl, hx⟩
          rw [List.getElem?_map] at hx
          obtain ⟨cs, hcs', rfl⟩ : ∃ cs, (secs k (lsOf rows) u)[j]? = some cs ∧ x = wdV cs := by
            cases q : (secs k (lsOf rows) u)[j]? with
            | none => rw [q] at hx; cases hx
            | some cs => rw [q] at hx; exact ⟨cs, rfl, (Option.some.inj hx).symm⟩
          obtain ⟨g1, g2, g3⟩ := secs_good (n := n) S hu1 hu3 cs (List.mem_of_getElem? hcs')
          have g16 : Wd 16 cs := g1.mono (by omega)
          have et : (secs k (lsOf rows) u).take (j + 1) = (secs k (lsOf rows) u).take j ++ [cs] := by rw [List.take_add_one, hcs']; rfl
          have Bj := B.grow S hgi (cs := (secs k (lsOf rows) u).take j) fun c hc => List.mem_of_mem_take hc
          have hbj : (addW Wl ((secs k (lsOf rows) u).take j)).length ≤ 3000 := Nat.le_trans Bj.bound hB
          rw [et, addW_snoc]
          generalize addW Wl ((secs k (lsOf rows) u).take j) = Wj at w8 kp8 hbj
          refine ⟨_, rfl, _, rfl, kd, _, rfl, DGet.k (k := tk cs) k8, _, rfl, ?_⟩
          rw [kp8.val cs g16]
          by_cases hmem : cs ∈ Wj
          · rw [if_pos hmem, if_pos hmem]
            refine iteF ?_
            exact ⟨kvs, _, rfl, e8, c8, w8, k8, kp8⟩
          · rw [if_neg hmem, if_neg hmem]
            refine iteT ?_
            refine ⟨_, rfl, _, rfl, kd, _, rfl, DPut.k (k := tk cs) k8 (szlt (by rw [kp8.len]; omega)), ?_⟩
            have nwk : wl ≠ kd := ne_of w8 k8 (by intro z; cases z)
            have w9 : (upd H9 kd (.dK (putK kvs (tk cs) (.bl true)))) wl = some (.lst (Wj.map wdV)) := by rw [upd_ne nwk]; exact w8
            refine ⟨_, rfl, .inl ⟨rfl, _, SqL.of w9⟩, _, rfl, wl, _, _, rfl, rfl, w9, szlt (by rw [List.length_map]; omega), ?_⟩
            refine ⟨_, _, rfl, Ex.put (Ex.put e8 hk0) hw0, ?_, ?_, ?_, kp8.put g16 hmem⟩
            · rw [upd_ne ncw, upd_ne nck]; exact c8
            · rw [upd_same, List.map_append]; rfl
            · rw [upd_ne (Ne.symm nwk), upd_same]
        · rintro σ H8 ⟨kvs, v6, rfl, e8, c8, w8, k8, kp8⟩
          rw [hcs, List.take_of_length_le (by simp [secs])] at w8 kp8
          have B' := B.next S hgi
          have R' := R.next S B hgi hkp
          have hb' : (addW Wl (secs k (lsOf rows) u)).length ≤ 3000 := Nat.le_trans B'.bound hB
          have hl' : i + 1 ≤ (addW Wl (secs k (lsOf rows) u)).length := by
            have := (List.getElem?_eq_some_iff.mp (BI.get_grow hgi (secs k (lsOf rows) u))).1
            omega
          generalize addW Wl (secs k (lsOf rows) u) = W' at w8 kp8 B' R' hb' hl'
          refine ⟨_, rfl, _, _, rfl, .inl ⟨_, SqL.of w8, rfl⟩, _, _, rfl, rfl, _, rfl, ?_⟩
          rw [decide_eq_false (show ¬ ((4000 : Int) < ((W'.map wdV).length : Nat)) by rw [List.length_map]; omega)]
          refine iteF ?_
          refine ⟨_, rfl, _, _, rfl, rfl, ?_⟩
          exact ⟨4000 - (i + 1), by omega, i + 1, W', kvs, v6, rfl, rfl, e8, w8, k8, kp8, hl', B', R'⟩
    · exact ⟨_, rfl, qy (R.yes S hw B (by omega)) H5 wl (e1.trans e5)⟩
end
end Lw
set_option Elab.async false
set_option linter.all false
set_option maxRecDepth 100000
set_option maxHeartbeats 4000000
namespace Lw
open PySem L2 Evl Lf
section
variable {P : Program} {w : World} {K : PySem.W.Frag} {mg : Str → Option Value} {base : Heap} {C : Addr}
/-! ### rests -/
def spRests : Sp := fun vs H Q _ => ∃ v k rows wd n, vs = [v, .str (txt wd)] ∧ NIs H (machK k rows) v ∧ MOk k rows ∧ Wd (2 * rows.length) wd ∧ wd.length ≤ n ∧ n ≤ 1000 ∧ (allRed (2 * rows.length) n).length ≤ 3000 ∧
  (Rests k (lsOf rows) wd → RetV (.bl true) H Q) ∧ (¬ Rests k (lsOf rows) wd → RetV (.bl false) H Q)
theorem scRests : FnScope ["machine", "word"] ["machine", "word"] (defScope sRests) := ⟨rfl, rfl, rfl, by decide +kernel, rfl, by decide +kernel, by decide +kernel⟩
theorem ok_rests {f fF : Addr} {fd fdF : FuncData} (D : Df K mg "rests" sRests ["machine", "word"] f fd) (FD : Df K mg "found_list" sFoundList ["machine", "word"] fF fdF) (GF : FnOk P w K mg base CX0 4 fF fdF ["machine", "word"] spFound) : FnOk P w K mg base CX0 5 f fd ["machine", "word"] spRests := by
  refine D.F.ok scRests (fun vs H Q E h => ?_) (fun cdv A outer s H vs Q E hr h => ?_)
  · obtain ⟨_, _, _, _, _, rfl, _⟩ := h; rfl
  · obtain ⟨v, k, rows, wd, n, rfl, hm, M, hw, hwn, hn, hB, qy, qn⟩ := h
    refine ⟨_, pss_one (ps_ret (pe_cmp (pc_notN (pe_call GF hr rfl FD.g FD.F.kp FD.b .nil pass0 (pa_cons (pv 0) (pa_cons (pv 1) pa_nil)))))), ?_⟩
    exact ⟨_, rfl, _, rfl, v, k, rows, wd, n, rfl, hm, M, hw, hwn, hn, hB, fun hR H' a e => qy hR H' e, fun hR H' e => qn hR H' e⟩
/-! ### Forms -/
def rowDK (r : Row) : NestedKey := .tup [dgK r.1, dgK r.2]
def formK (F : List Row) : NestedKey := .tup (F.map rowDK)
theorem dg_inj {a b : List Nat} (h : dgK a = dgK b) : a = b := by
  unfold dgK at h
  injection h with h
  induction a generalizing b with
  | nil => cases b with
    | nil => rfl
    | cons y b => simp at h
  | cons x a ih => cases b with
    | nil => simp at h
    | cons y b =>
      simp only [List.map_cons, List.cons.injEq, NestedKey.num.injEq] at h
      obtain ⟨h1, h2⟩ := h
      rw [ih h2, show x = y by omega]
theorem rowDK_inj {a b : Row} (h : rowDK a = rowDK b) : a = b := by
  unfold rowDK at h
  injection h with h
  injection h with h1 h
  injection h with h2 _
  exact Prod.ext (dg_inj h1) (dg_inj h2)
theorem formK_inj {F G : List Row} (h : formK F = formK G) : F = G := by
  unfold formK at h
  injection h with h
  induction F generalizing G with
  | nil => cases G with
    | nil => rfl
    | cons y b => simp at h
  | cons x a ih => cases G with
    | nil => simp at h
    | cons y b =>
      simp only [List.map_cons, List.cons.injEq] at h
      rw [rowDK_inj h.1, ih h.2]
theorem depth_nums (is : List Nat) : NestedKey.depthAll (is.map fun d => NestedKey.num (d : Nat)) = 0 := by
  induction is with
  | nil => rfl
  | cons i is ih => simp [NestedKey.depthAll, NestedKey.depth, ih]
theorem depth_dg (is : List Nat) : (dgK is).depth = 1 := by
  unfold dgK
  rw [NestedKey.depth, depth_nums]
theorem depth_row (r : Row) : (rowDK r).depth = 2 := by
  unfold rowDK
  simp [NestedKey.depth, NestedKey.depthAll, depth_dg]
theorem depth_form (F : List Row) : (formK F).depth ≤ 8 := by
  unfold formK
  rw [NestedKey.depth]
  have : NestedKey.depthAll (F.map rowDK) ≤ 2 := by
    induction F with
    | nil => simp [NestedKey.depthAll]
    | cons r F ih => rw [List.map_cons, NestedKey.depthAll, depth_row]; omega
  omega
theorem dg_nis {H : Hp} {a : Addr} {ds : List Nat} (h : H a = some (.tup (ds.map fun d => .int (d : Nat)))) : NIs H (dgK ds) (.ref a) := by
  refine nis_tup.mpr ⟨a, _, rfl, h, ?_⟩
  have := (nall_nums (H := H) (is := ds.map fun (d : Nat) => (d : Int)) (vs := ds.map fun d => V.int (d : Nat))).mpr (by rw [List.map_map]; rfl)
  rw [List.map_map] at this
  exact this
theorem dg_at {H : Hp} {v : V} {ds : List Nat} (h : NIs H (dgK ds) v) : ∃ a, v = .ref a ∧ H a = some (.tup (ds.map fun d => .int (d : Nat))) := by
  obtain ⟨a, vs, rfl, ha, hv⟩ := nis_tup.mp h
  refine ⟨a, rfl, ?_⟩
  have := (nall_nums (H := H) (is := ds.map fun (d : Nat) => (d : Int)) (vs := vs)).mp (by rw [List.map_map]; exact hv)
  rw [List.map_map] at this
  rw [ha, this]
  rfl
theorem rowD_nis {H : Hp} {a b c : Addr} {r : Row} (h : H a = some (.tup [.ref b, .ref c])) (h1 : NIs H (dgK r.1) (.ref b)) (h2 : NIs H (dgK r.2) (.ref c)) : NIs H (rowDK r) (.ref a) :=
  nis_tup.mpr ⟨a, _, rfl, h, nall_cons.mpr ⟨_, _, rfl, h1, nall_cons.mpr ⟨_, _, rfl, h2, nall_nil.mpr rfl⟩⟩⟩
theorem rowD_at {H : Hp} {v : V} {r : Row} (h : NIs H (rowDK r) v) : ∃ a b c, v = .ref a ∧ H a = some (.tup [.ref b, .ref c]) ∧ H b = some (.tup (r.1.map fun d => .int (d : Nat))) ∧ H c = some (.tup (r.2.map fun d => .int (d : Nat))) := by
  obtain ⟨a, xs, rfl, ha, h⟩ := nis_tup.mp h
  obtain ⟨y, r', rfl, h1, h⟩ := nall_cons.mp h
  obtain ⟨z, r', rfl, h2, h⟩ := nall_cons.mp h
  rw [nall_nil] at h
  subst h
  obtain ⟨b, rfl, hb⟩ := dg_at h1
  obtain ⟨c, rfl, hc⟩ := dg_at h2
  exact ⟨a, b, c, rfl, ha, hb, hc⟩
structure TF (K : PySem.W.Frag) (mg : Str → Option Value) (C : Addr) : Prop where
  cl : Cls K C
  nA : NoAttr K C "actor"
  nK : NoAttr K C "known"
  g : mg "Forms" = some (.ref C)
def fF (a kd : Addr) : List (Str × V) := putF "known" (.ref kd) (putF "actor" (.ref a) [])
theorem ac_kn : ¬ (("actor" : Str) = "known") := by decide +kernel
theorem fF_actor (a kd : Addr) : (fF a kd).lookup ("actor" : Str) = some (.ref a) := by
  unfold fF
  rw [lookup_putF, if_neg ac_kn, lookup_putF, if_pos rfl]
theorem fF_known (a kd : Addr) : (fF a kd).lookup ("known" : Str) = some (.ref kd) := by
  unfold fF
  rw [lookup_putF, if_pos rfl]
theorem fF_no (a kd : Addr) {m : Str} (h1 : ¬ m = "actor") (h2 : ¬ m = "known") : (fF a kd).lookup m = none := by
  unfold fF
  rw [lookup_putF, if_neg h2, lookup_putF, if_neg h1]
  rfl
/-- what is known: forms of reduced words of at most three letters -/
structure KnownOk (H : Hp) (k : Nat) (rows : Rows) (kvs : List (L2.Key × V)) (Wl : List (List Nat)) : Prop where
  nodup : Wl.Nodup
  good : ∀ u ∈ Wl, Wd (2 * rows.length) u ∧ Red u ∧ u.length ≤ 3
  len : kvs.length = Wl.length
  no : ∀ u, Wd 16 u → u ∉ Wl → valV kvs (tk u) = none
  yes : ∀ u, u ∈ Wl → ∃ v F, valV kvs (tk u) = some v ∧ IsForm k (2 * rows.length) (lsOf rows) u F ∧ NIs H (formK F) v
theorem KnownOk.mono {H H' : Hp} {k : Nat} {rows : Rows} {kvs : List (L2.Key × V)} {Wl : List (List Nat)} (h : KnownOk H k rows kvs Wl) (t : TK H H') : KnownOk H' k rows kvs Wl :=
  ⟨h.nodup, h.good, h.len, h.no, fun u hu => let ⟨v, F, a, b, c⟩ := h.yes u hu; ⟨v, F, a, b, NIs.mono t _ _ c⟩⟩
/-- the object with the forms; HB: a heap that stood before what it changes -/
def FormsAt (CA CF : Addr) (HB H : Hp) (p kd : Addr) (k : Nat) (rows : Rows) : Prop :=
  ∃ dx a kvs Wl, Ex HB H ∧ HB kd = none ∧ ActorAt CA HB a k rows ∧ H p = some (.ins CF dx (fF a kd)) ∧ H kd = some (.dK kvs) ∧ KnownOk H k rows kvs Wl
theorem FormsAt.mono {CA CF : Addr} {HB H H' : Hp} {p kd : Addr} {k : Nat} {rows : Rows} (h : FormsAt CA CF HB H p kd k rows) (e : Ex H H') : FormsAt CA CF HB H' p kd k rows := by
  obtain ⟨dx, a, kvs, Wl, h1, h2, h3, h4, h5, h6⟩ := h
  exact ⟨dx, a, kvs, Wl, h1.trans e, h2, h3, e _ _ h4, e _ _ h5, h6.mono (.of e)⟩
/-- .. where something else is changed -/
theorem FormsAt.other {CA CF : Addr} {HB H : Hp} {p kd z : Addr} {k : Nat} {rows : Rows} {o : HO} (h : FormsAt CA CF HB H p kd k rows) (hz : HB z = none) (hp : z ≠ p) (hk : z ≠ kd) (ht : ∀ xs, H z ≠ some (.tup xs)) : FormsAt CA CF HB (upd H z o) p kd k rows := by
  obtain ⟨dx, a, kvs, Wl, h1, h2, h3, h4, h5, h6⟩ := h
  exact ⟨dx, a, kvs, Wl, Ex.put h1 hz, h2, h3, by rw [upd_ne (Ne.symm hp)]; exact h4, by rw [upd_ne (Ne.symm hk)]; exact h5, h6.mono (TK.upd ht)⟩
/-- all but S is as it was -/
def Frm (S : List Addr) (H H' : Hp) : Prop := ∀ b o, b ∉ S → H b = some o → H' b = some o
theorem Frm.of {S : List Addr} {H H' : Hp} (e : Ex H H') : Frm S H H' := fun b o _ h => e b o h
theorem Frm.trans {S : List Addr} {H H1 H2 : Hp} (a : Frm S H H1) (b : Frm S H1 H2) : Frm S H H2 := fun c o hc h => b c o hc (a c o hc h)
theorem Frm.mono {S S' : List Addr} {H H' : Hp} (a : Frm S H H') (h : ∀ b ∈ S, b ∈ S') : Frm S' H H' := fun c o hc q => a c o (fun z => hc (h c z)) q
theorem Frm.upd {S : List Addr} {H : Hp} {a : Addr} {o : HO} (h : a ∈ S) : Frm S H (L2.upd H a o) := fun b u hb q => by
  rw [upd_ne (fun e => hb (by rw [e]; exact h))]; exact q
theorem Frm.ex {S : List Addr} {H0 H H' : Hp} (e : Ex H0 H) (f : Frm S H H') (h : ∀ b ∈ S, H0 b = none) : Ex H0 H' := fun b o q => f b o (fun z => by rw [h b z] at q; cases q) (e b o q)
theorem Frm.same {S : List Addr} {H H' : Hp} {a : Addr} (h : ∀ c, c ≠ a → H' c = H c) (ha : a ∈ S) : Frm S H H' := fun b o hb q => by
  rw [h b (fun e => hb (by rw [e]; exact ha))]; exact q
/-- an instance, or the dict of one -/
def IsIns : HO → Prop
  | .ins _ _ _ => True
  | .own _ => True
  | _ => False
def spFInit (CA CF : Addr) : Sp := fun vs H Q _ => ∃ H0 p dx v k rows, vs = [.ref p, v] ∧ Ex H0 H ∧ H0 p = none ∧ (∀ b o, H0 b = none → H b = some o → IsIns o) ∧ H p = some (.ins CF dx []) ∧ NIs H0 (machK k rows) v ∧ MOk k rows ∧
  ∀ HB H' kd, Ex H0 HB → (∀ b, H0 b = none → H b ≠ none → HB b = none) → Frm [p] H H' → H kd = none → FormsAt CA CF HB H' p kd k rows → Q .non H'
theorem scFInit : FnScope ["self", "machine"] ["self", "machine"] (defScope sFInit) := ⟨rfl, rfl, rfl, by decide +kernel, rfl, by decide +kernel, by decide +kernel⟩
open Classical in
/-- what H1 knows but for what H knows and H0 doesn't -/
noncomputable def wos (H0 H H1 : Hp) : Hp := fun b => if H0 b = none ∧ H b ≠ none then none else H1 b
theorem wos_no {H0 H H1 : Hp} {b : Addr} (h : H0 b = none) (h' : H b ≠ none) : wos H0 H H1 b = none := by unfold wos; rw [if_pos ⟨h, h'⟩]
theorem wos_yes {H0 H H1 : Hp} {b : Addr} (h : ¬ (H0 b = none ∧ H b ≠ none)) : wos H0 H H1 b = H1 b := by unfold wos; rw [if_neg h]
theorem wos_ex (H0 H H1 : Hp) : Ex (wos H0 H H1) H1 := fun a o h => by
  by_cases e : H0 a = none ∧ H a ≠ none
  · rw [wos_no e.1 e.2] at h; cases h
  · rw [wos_yes e] at h; exact h
theorem ex_wos {H0 H H1 : Hp} (e : Ex H0 H1) : Ex H0 (wos H0 H H1) := fun a o ha => by
  rw [wos_yes (fun z => by rw [z.1] at ha; cases ha)]; exact e a o ha
theorem ActorAt.wos {CA : Addr} {H0 H H1 : Hp} {a : Addr} {k : Nat} {rows : Rows} (h : ActorAt CA H1 a k rows) (ha : H a = none) (e : Ex H H1) (hi : ∀ b o, H0 b = none → H b = some o → IsIns o) : ActorAt CA (wos H0 H H1) a k rows := by
  have keep : ∀ b o, H1 b = some o → ¬ IsIns o → Lw.wos H0 H H1 b = some o := fun b o hb hn => by
    rw [wos_yes (fun z => ?_)]
    · exact hb
    · cases q : H b with
      | none => exact z.2 q
      | some u =>
        have := e b u q
        rw [hb] at this
        cases this
        exact hn (hi b o z.1 q)
  obtain ⟨adx, d, kvs, h1, h2, h3⟩ := h
  refine ⟨adx, d, kvs, by rw [wos_yes (fun z => z.2 ha)]; exact h1, keep _ _ h2 (by intro z; exact z), fun c hc => ?_⟩
  obtain ⟨l, vs, q1, q2, q3⟩ := h3 c hc
  exact ⟨l, vs, q1, keep _ _ q2 (by intro z; exact z), NAll.mono (fun b xs hb => keep _ _ hb (by intro z; exact z)) _ _ q3⟩
theorem ok_fInit {f fI fR fK fC CF : Addr} {fd fdI fdR fdK fdC : FuncData} (D : Fun K "__init__" "Forms.__init__" sFInit f fd) (A : AK P w K mg base C fI fR fK fC fdI fdR fdK fdC) (F0 : TF K mg CF) : FnOk P w K mg base CX0 3 f fd ["self", "machine"] (spFInit C CF) := by
  refine D.ok scFInit (fun vs H Q E h => ?_) (fun cdv Ar outer s H vs Q E hr h => ?_)
  · obtain ⟨_, _, _, _, _, _, rfl, _⟩ := h; rfl
  · obtain ⟨H0, p, dx, v, k, rows, rfl, e0, hp0, hii, hp, hm, M, q⟩ := h
    refine ⟨_, pss_cons (ps_fld (pv 0) (pe_make A.M0 A.GI hr rfl A.A0.g A.bI .nil pass0 (pa_cons (pv 1) pa_nil)) rfl) (pss_one (ps_fld (pv 0) pe_dnewK rfl)), ?_⟩
    refine ⟨_, rfl, fun x xdx hx hxdx nxdx => ?_⟩
    refine ⟨H, x, xdx, v, k, rows, rfl, made_ex hx hxdx, hx, upd_same, NIs.mono (.of e0) _ _ hm, M, fun H1 e1 act1 => ⟨rfl, ?_⟩⟩
    have hp1 := e1 _ _ hp
    refine ⟨_, rfl, p, CF, dx, _, rfl, hp1, F0.cl, F0.nA, (by show 0 < 1000; decide), ?_⟩
    have hxp : x ≠ p := fun z => by rw [z, hp] at hx; cases hx
    intro kd hkd
    have hkp : p ≠ kd := ne_of_none upd_same hkd
    rw [upd_ne (Ne.symm hkp)] at hkd
    refine ⟨_, rfl, p, CF, dx, _, rfl, by rw [upd_ne hkp, upd_same], F0.cl, F0.nK, (by show 1 < 1000; decide), ?_⟩
    have hkd0 : H kd = none := fresh_back e1 hkd
    have hpn : wos H0 H H1 p = none := wos_no hp0 (by rw [hp]; intro z; cases z)
    have hB : wos H0 H H1 kd = none := by rw [wos_yes (fun z => z.2 hkd0)]; exact hkd
    refine q (wos H0 H H1) _ kd (ex_wos (e0.trans e1)) (fun b h1 h2 => wos_no h1 h2) ?_ hkd0 ?_
    · refine (Frm.of e1).trans ((Frm.upd (a := p) (List.mem_singleton.mpr rfl)).trans (Frm.trans (Frm.of (Ex.new ?_)) (Frm.upd (a := p) (List.mem_singleton.mpr rfl))))
      rw [upd_ne (Ne.symm hkp)]
      exact hkd
    · exact ⟨dx, x, [], [], Ex.put (Ex.put (Ex.put (wos_ex _ _ _) hpn) hB) hpn, hB, act1.wos hx e1 hii, upd_same, by rw [upd_ne (Ne.symm hkp), upd_same], ⟨List.nodup_nil, (fun u h => nomatch h), rfl, (fun u _ _ => rfl), (fun u h => nomatch h)⟩⟩
/-! ### rows_of -/
def spFRows (CA CF : Addr) : Sp := fun vs H Q _ => ∃ HB p kd k rows wd n, vs = [.ref p, .str (txt wd)] ∧ FormsAt CA CF HB H p kd k rows ∧ MOk k rows ∧ Wd (2 * rows.length) wd ∧ wd.length ≤ n ∧ n ≤ 1000 ∧ (allRed (2 * rows.length) n).length ≤ 3000 ∧
  ∀ H' rl vs Wl, Ex H H' → H' rl = some (.lst vs) → NAll H' ((rowsOf k (lsOf rows) Wl).map rowDK) vs → Good k (2 * rows.length) (lsOf rows) wd Wl → Wl.length ≤ 3000 → Q (.ref rl) H'
abbrev nFRows : List Str := ["self", "word", "words", "numbers", "rows", "digits", "sections", "section"]
theorem scFRows : FnScope nFRows ["self", "word"] (defScope sFRows) := ⟨rfl, rfl, rfl, by decide +kernel, rfl, by decide +kernel, by decide +kernel⟩
theorem ok_fRows {f fI fR fK fC CF : Addr} {fd fdI fdR fdK fdC : FuncData} (D : Fun K "rows_of" "Forms.rows_of" sFRows f fd) (A : AK P w K mg base C fI fR fK fC fdI fdR fdK fdC) (F0 : TF K mg CF) (T : TWords mg) : FnOk P w K mg base CX0 4 f fd ["self", "word"] (spFRows C CF) := by
  refine D.ok scFRows (fun vs H Q E h => ?_) (fun cdv Ar outer s H vs Q E hr h => ?_)
  · obtain ⟨_, _, _, _, _, _, _, rfl, _⟩ := h; rfl
  · obtain ⟨HB, p, kd, k, rows, wd, n, rfl, ⟨dx, ac, kvs0, Wk, hB, _, act0, hp, _, _⟩, M, hw, hwn, hn, hBd, q⟩ := h
    obtain ⟨t1, m1⟩ := T.mostC
    have hL := M.le6
    have hk3 := M.k3
    have S := M.ls
    have act : ActorAt C H ac k rows := act0.mono hB
    refine ⟨_, pss_cons (ps_set (i := 2) scFRows.nd rfl (Or.inl rfl) (pe_lst (pa_cons (pe_call A.GC (hr.mono (by decide)) rfl A.CD.g A.CD.F.kp A.CD.b .nil pass0 (pa_cons (pv 1) pa_nil)) pa_nil)))
      (pss_cons (ps_set (i := 3) scFRows.nd rfl (Or.inr rfl) (pe_disp (pps_cons (pe_ix ix_list (pv 2) pe_int (fun _ _ => rfl)) pe_int pps_nil) (by rfl) (by rfl) (fun z => by cases z) (by decide)))
      (pss_cons (ps_set (i := 4) scFRows.nd rfl (Or.inl rfl) (pe_lst pa_nil))
      (pss_cons (ps_while PassesOwn.never (pt_cmpR op_lt (pe_callB call_len (by rfl) T.len PySem.boot_len (pa_cons (pv 4) pa_nil)) (pe_callB call_len (by rfl) T.len PySem.boot_len (pa_cons (pv 2) pa_nil)) (nomark _))
        (pss_cons (ps_asg (pe_meth (pe_fld (pv 0) rfl) A.A0.cl A.mR A.GR hr A.bR .nil pass0 (pa_cons (pe_ix ix_list (pv 2) (pe_callB call_len (by rfl) T.len PySem.boot_len (pa_cons (pv 4) pa_nil)) (fun _ _ => rfl)) pa_nil))
            (pg_tup rfl (pgs_cons (pg_name (i := 5) scFRows.nd rfl (Or.inl rfl)) (pgs_cons (pg_name (i := 6) scFRows.nd rfl (Or.inl rfl)) pgs_nil))))
        (pss_cons (ps_for PassesOwn.never rfl (pi_tup (pv 6)) (pg_name (i := 7) scFRows.nd rfl (Or.inl rfl))
          (pss_one (ps_if (pt_cmp (pc_dnotin (hu_of hr) (pv 7) (pv 3))) (pss_cons (ps_dput (hu_of hr) (pv 3) (pv 7) (pe_callB call_len (by rfl) T.len PySem.boot_len (pa_cons (pv 2) pa_nil)) rfl) (pss_one (ps_expr (pe_bm PySem.F.plainAttrs_list PySem.F.slot_list_append PySem.F.type_list_append mt_append (pv 2) (pa_cons (pv 7) pa_nil))))) pss_nil)))
        (pss_cons (ps_if (pt_cmpR op_gt (pe_callB call_len (by rfl) T.len PySem.boot_len (pa_cons (pv 2) pa_nil)) (pe_glob (v := .int 4000) rfl m1 ⟨_, rfl⟩) (nomark _)) pss_never pss_nil)
        (pss_one (ps_expr (pe_bm PySem.F.plainAttrs_list PySem.F.slot_list_append PySem.F.type_list_append mt_append (pv 4) (pa_cons
          (pe_tup (pa_cons (pv 5) (pa_cons (pe_callTy call_tuple_of (by rfl) T.tuple PyProof.Rows.boot_tuple (pa_cons
            (pe_lc (own := [("section", 7)]) (g := gName 7) (tt := tYes) rfl scFRows.nd (pi_tup (pv 6)) (blkOk_by (N := nFRows) (sc := defScope sFRows) (by decide +kernel))
              (fun _ _ _ _ _ => pg_name (i := 7) scFRows.nd rfl (Or.inl rfl)) (fun _ _ _ _ _ => pts_nil) (fun _ _ _ _ _ => pe_dget (hu_of hr) (pv 3) (pv 7) (fun _ _ => rfl))) pa_nil)) pa_nil))) pa_nil))))))))
      (pss_one (ps_ret (pv 4)))))), ?_⟩
    refine ⟨_, rfl, wd, rfl, hw.mono (by omega), by omega, fun H2 e2 => ?_⟩
    refine ⟨(by show 1 ≤ sizeLine; decide), fun wl hwl => ?_⟩
    have hw0 : H wl = none := fresh_back e2 hwl
    have e3 : Ex H (upd H2 wl (.lst [V.str (txt (Lf.cut wd))])) := e2.trans (Ex.new hwl)
    have w3 : (upd H2 wl (.lst [V.str (txt (Lf.cut wd))])) wl = some (.lst [V.str (txt (Lf.cut wd))]) := upd_same
    generalize upd H2 wl (.lst [V.str (txt (Lf.cut wd))]) = H3 at e3 w3
    intro nd hnd
    have nkw : wl ≠ nd := ne_of_none w3 hnd
    have hk0 : H nd = none := fresh_back e3 hnd
    refine ⟨_, rfl, wl, _, 0, _, rfl, rfl, SqL.of (by rw [upd_ne nkw]; exact w3), rfl, upd_same, [(tk (Lf.cut wd), .int 0)], rfl, (by show 1 ≤ 15; decide), ?_⟩
    have hcw : Wd 16 (Lf.cut wd) := (cut_wd hw).mono (by omega)
    have ekv : mergeK [] [(tk (Lf.cut wd), V.int 0)] = [(tk (Lf.cut wd), V.int 0)] := rfl
    rw [ekv, upd_upd]
    have e4 : Ex H (upd H3 nd (.dK [(tk (Lf.cut wd), V.int 0)])) := e3.trans (Ex.new hnd)
    have w4 : (upd H3 nd (.dK [(tk (Lf.cut wd), V.int 0)])) wl = some (.lst ([Lf.cut wd].map wdV)) := by rw [upd_ne nkw]; exact w3
    have k4 : (upd H3 nd (.dK [(tk (Lf.cut wd), V.int 0)])) nd = some (.dK [(tk (Lf.cut wd), V.int 0)]) := upd_same
    generalize upd H3 nd (.dK [(tk (Lf.cut wd), V.int 0)]) = H4 at e4 w4 k4
    refine ⟨Nat.zero_le _, fun rl hrl => ?_⟩
    have hr0 : H rl = none := fresh_back e4 hrl
    have e5 : Ex H4 (upd H4 rl (.lst [])) := Ex.new hrl
    have r5 : (upd H4 rl (.lst [])) rl = some (.lst []) := upd_same
    have nrw : rl ≠ wl := Ne.symm (ne_of_none w4 hrl)
    have w5 := e5 _ _ w4
    have k5 := e5 _ _ k4
    have e05 := e4.trans e5
    generalize upd H4 rl (.lst []) = H5 at e05 r5 w5 k5
    clear e5
    refine ⟨fun m σ H' => ∃ (i : Nat) (Wl : List (List Nat)) (kvs : List (L2.Key × V)) (rvs : List V) (v5 v6 v7 : Option V), m = 4000 - i ∧ σ = [some (.ref p), some (.str (txt wd)), some (.ref wl), some (.ref nd), some (.ref rl), v5, v6, v7] ∧ Ex H H' ∧ H' wl = some (.lst (Wl.map wdV)) ∧ H' nd = some (.dK kvs) ∧ H' rl = some (.lst rvs) ∧ NAll H' ((rowsTo k (lsOf rows) Wl i).map rowDK) rvs ∧ KP kvs Wl (fun i => .int (i : Nat)) ∧ i ≤ Wl.length ∧ BI k (2 * rows.length) (lsOf rows) n wd Wl i,
      ⟨4000, 0, [Lf.cut wd], _, [], none, none, none, rfl, rfl, e05, w5, k5, r5, nall_nil.mpr rfl, KP.one (f := fun i => .int (i : Nat)) hcw, Nat.zero_le _, BI.start hw hwn⟩, ?_⟩
    rintro m σ H6 ⟨i, Wl, kvs, rvs, v5, v6, v7, rfl, rfl, e6, w6, k6, r6, hnl, kp, hil, B⟩
    have hWl : Wl.length ≤ 3000 := Nat.le_trans B.bound hBd
    have hrv : rvs.length = i := by rw [nall_len_map hnl, rowsTo_len hil]
    refine ⟨_, rfl, _, _, rfl, .inl ⟨_, SqL.of r6, rfl⟩, _, rfl, _, _, rfl, .inl ⟨_, SqL.of w6, rfl⟩, _, _, rfl, rfl, _, rfl, ?_⟩
    rw [List.length_map, hrv]
    refine iteD (fun hlt => ?_) (fun hge => ?_)
    · have hlt : i < Wl.length := by omega
      refine ⟨_, fun σ' H' h => h, ?_⟩
      have hgi : Wl[i]? = some Wl[i] := List.getElem?_eq_getElem hlt
      generalize Wl[i] = u at hgi
      have hvi : (Wl.map wdV)[i]? = some (.str (txt u)) := by rw [List.getElem?_map, hgi]; rfl
      obtain ⟨hu1, hu2, hu3⟩ := B.good u (List.mem_of_getElem? hgi)
      obtain ⟨adx, ad, akv, hpa, _, _⟩ := id (act.mono e6)
      refine ⟨_, rfl, p, CF, dx, _, _, rfl, e6 _ _ hp, F0.cl, F0.nA, fF_actor _ _, ac, adx, _, rfl, hpa, aF_no _ _ (by decide +kernel) (by decide +kernel), _, rfl, _, rfl, _, _, rfl, .inl ⟨_, SqL.of r6, rfl⟩, wl, _, _, _, rfl, rfl, SqL.of w6, ?_, ac, k, rows, u, rfl, act.mono e6, M, hu1, by omega, fun H7 a b c e7 ha hb hc => ?_⟩
      · rw [hrv]; exact atI_nat hvi
      refine ⟨a, _, rfl, SqT.of ha, rfl, _, _, rfl, _, _, rfl, rfl, ?_⟩
      have e17 := e6.trans e7
      have hcs : ((secs k (lsOf rows) u).map wdV).length = k := by simp [secs]
      have w7 := e7 _ _ w6
      have k7 := e7 _ _ k6
      have r7 := e7 _ _ r6
      have nbw : b ≠ wl := ne_of hb w7 (by intro z; cases z)
      have nbn : b ≠ nd := ne_of hb k7 (by intro z; cases z)
      have ncw : c ≠ wl := ne_of hc w7 (by intro z; cases z)
      have ncn : c ≠ nd := ne_of hc k7 (by intro z; cases z)
      have nrn : rl ≠ nd := ne_of r7 k7 (by intro z; cases z)
      refine ⟨_, rfl, c, rfl, ⟨_, SqT.of hc⟩, ?_⟩
      refine for_it walk_tup (fun j σ H' => ∃ (kvs : List (L2.Key × V)) (v7 : Option V), σ = [some (.ref p), some (.str (txt wd)), some (.ref wl), some (.ref nd), some (.ref rl), some (.ref b), some (.ref c), v7] ∧ Ex H H' ∧ TK H7 H' ∧ H' rl = some (.lst rvs) ∧ H' wl = some (.lst ((addW Wl ((secs k (lsOf rows) u).take j)).map wdV)) ∧ H' nd = some (.dK kvs) ∧ KP kvs (addW Wl ((secs k (lsOf rows) u).take j)) (fun i => .int (i : Nat)))
        ⟨kvs, v7, rfl, e17, TK.refl _, r7, w7, k7, kp⟩ (fun _ _ _ _ ⟨_, _, _, _, t, _⟩ => SqT.of (t _ _ hc)) ?_ ?_
      · rintro j x σ H8 H9 hj ⟨kvs, v7, rfl, e8, t8, r8, w8, k8, kp8⟩ ⟨rfl, hx⟩
        rw [List.getElem?_map] at hx
        obtain ⟨cs, hcs', rfl⟩ : ∃ cs, (secs k (lsOf rows) u)[j]? = some cs ∧ x = wdV cs := by
          cases q : (secs k (lsOf rows) u)[j]? with
          | none => rw [q] at hx; cases hx
          | some cs => rw [q] at hx; exact ⟨cs, rfl, (Option.some.inj hx).symm⟩
        obtain ⟨g1, g2, g3⟩ := secs_good (n := n) S hu1 hu3 cs (List.mem_of_getElem? hcs')
        have g16 : Wd 16 cs := g1.mono (by omega)
        have et : (secs k (lsOf rows) u).take (j + 1) = (secs k (lsOf rows) u).take j ++ [cs] := by rw [List.take_add_one, hcs']; rfl
        have Bj := B.grow S hgi (cs := (secs k (lsOf rows) u).take j) fun c hc => List.mem_of_mem_take hc
        have hbj : (addW Wl ((secs k (lsOf rows) u).take j)).length ≤ 3000 := Nat.le_trans Bj.bound hBd
        rw [et, addW_snoc]
        generalize addW Wl ((secs k (lsOf rows) u).take j) = Wj at w8 kp8 hbj
        refine ⟨_, rfl, _, rfl, nd, _, rfl, DGet.k (k := tk cs) k8, _, rfl, ?_⟩
        rw [kp8.val cs g16]
        by_cases hmem : cs ∈ Wj
        · rw [if_pos hmem, if_pos hmem]
          refine iteF ?_
          exact ⟨kvs, _, rfl, e8, t8, r8, w8, k8, kp8⟩
        · rw [if_neg hmem, if_neg hmem]
          refine iteT ?_
          refine ⟨_, rfl, _, _, rfl, .inl ⟨_, SqL.of w8, rfl⟩, _, rfl, _, rfl, nd, _, rfl, DPut.k (k := tk cs) k8 (szlt (by rw [kp8.len]; omega)), ?_⟩
          have nwk : wl ≠ nd := ne_of w8 k8 (by intro z; cases z)
          rw [List.length_map]
          have w9 : (upd H9 nd (.dK (putK kvs (tk cs) (.int (Wj.length : Nat))))) wl = some (.lst (Wj.map wdV)) := by rw [upd_ne nwk]; exact w8
          refine ⟨_, rfl, .inl ⟨rfl, _, SqL.of w9⟩, _, rfl, wl, _, _, rfl, rfl, w9, szlt (by rw [List.length_map]; omega), ?_⟩
          refine ⟨_, _, rfl, Ex.put (Ex.put e8 hk0) hw0, ?_, ?_, ?_, ?_, kp8.put g16 hmem⟩
          · exact t8.trans ((TK.put k8 (by intro xs z; cases z)).trans (TK.put w9 (by intro xs z; cases z)))
          · rw [upd_ne nrw, upd_ne nrn]; exact r8
          · rw [upd_same, List.map_append]; rfl
          · rw [upd_ne (Ne.symm nwk), upd_same]
      · rintro σ H8 ⟨kvs, v7, rfl, e8, t8, r8, w8, k8, kp8⟩
        rw [hcs, List.take_of_length_le (by simp [secs])] at w8 kp8
        have B' := B.next S hgi
        have hb' : (addW Wl (secs k (lsOf rows) u)).length ≤ 3000 := Nat.le_trans B'.bound hBd
        have hl' : i + 1 ≤ (addW Wl (secs k (lsOf rows) u)).length := by
          have := (List.getElem?_eq_some_iff.mp (BI.get_grow hgi (secs k (lsOf rows) u))).1
          omega
        have hmemS : ∀ v ∈ secs k (lsOf rows) u, v ∈ addW Wl (secs k (lsOf rows) u) := by
          obtain ⟨r, e, m, _⟩ := addW_pre (secs k (lsOf rows) u) Wl
          rw [e]; exact m
        have hrt := rowsTo_next B hgi
        generalize hW' : addW Wl (secs k (lsOf rows) u) = W' at w8 kp8 B' hb' hl' hmemS hrt
        refine ⟨_, rfl, _, _, rfl, .inl ⟨_, SqL.of w8, rfl⟩, _, _, rfl, rfl, _, rfl, ?_⟩
        rw [decide_eq_false (show ¬ ((4000 : Int) < ((W'.map wdV).length : Nat)) by rw [List.length_map]; omega)]
        refine iteF ?_
        have b8 := t8 _ _ hb
        have c8 := t8 _ _ hc
        refine ⟨_, rfl, .inl ⟨rfl, _, SqL.of r8⟩, _, rfl, _, rfl, c, rfl, ⟨_, SqT.of c8⟩, fun Dl hD => lc_it walk_tup (fun j H' => Ex H8 H' ∧ H' Dl = some (.lst ((((secs k (lsOf rows) u).take j).map fun v => W'.idxOf v).map fun d => .int (d : Nat)))) ⟨Ex.new hD, upd_same⟩ (fun _ H' _ p => SqT.of (p.1 _ _ c8)) ?_ ?_⟩
        · rintro j x H9 H10 hj ⟨e9, l9⟩ ⟨rfl, hx⟩
          rw [List.getElem?_map] at hx
          obtain ⟨cs, hcs', rfl⟩ : ∃ cs, (secs k (lsOf rows) u)[j]? = some cs ∧ x = wdV cs := by
            cases q : (secs k (lsOf rows) u)[j]? with
            | none => rw [q] at hx; cases hx
            | some cs => rw [q] at hx; exact ⟨cs, rfl, (Option.some.inj hx).symm⟩
          have hm := List.mem_of_getElem? hcs'
          obtain ⟨g1, g2, g3⟩ := secs_good (n := n) S hu1 hu3 cs hm
          refine lc_yes rfl ?_
          refine ⟨_, rfl, _, rfl, nd, .int ((W'.idxOf cs : Nat) : Int), rfl, ?_, ?_⟩
          · have hg := DGet.k (k := tk cs) (e9 _ _ k8)
            rw [kp8.val cs (g1.mono (by omega)), if_pos (hmemS cs hm)] at hg
            exact hg
          · have hsl : (secs k (lsOf rows) u).length = k := by simp [secs]
            refine ⟨_, l9, szlt (by rw [List.length_map, List.length_map, List.length_take, hsl]; omega), Ex.put e9 hD, ?_⟩
            rw [upd_same, List.take_add_one, hcs', List.map_append, List.map_append]
            rfl
        · rintro H9 ⟨e9, l9⟩
          rw [hcs, List.take_of_length_le (by simp [secs])] at l9
          refine ⟨Dl, _, rfl, .inl ⟨SqL.of l9, fun t ht => ⟨(by show 2 ≤ sizeLine; decide), fun t2 ht2 => ?_⟩⟩⟩
          have e10 : Ex H8 (upd H9 t (.tup ((((secs k (lsOf rows) u)).map fun v => W'.idxOf v).map fun d => V.int (d : Nat)))) := e9.trans (Ex.new ht)
          have t10 : (upd H9 t (.tup ((((secs k (lsOf rows) u)).map fun v => W'.idxOf v).map fun d => V.int (d : Nat)))) t = some (.tup ((((secs k (lsOf rows) u)).map fun v => W'.idxOf v).map fun d => V.int (d : Nat))) := upd_same
          generalize upd H9 t (.tup ((((secs k (lsOf rows) u)).map fun v => W'.idxOf v).map fun d => V.int (d : Nat))) = H10 at e10 t10 ht2
          have e11 : Ex H10 (upd H10 t2 (.tup [V.ref b, V.ref t])) := Ex.new ht2
          have t11 : (upd H10 t2 (.tup [V.ref b, V.ref t])) t2 = some (.tup [V.ref b, V.ref t]) := upd_same
          generalize upd H10 t2 (.tup [V.ref b, V.ref t]) = H11 at e11 t11
          have e8_11 := e10.trans e11
          have r11 := e8_11 _ _ r8
          refine ⟨rl, _, _, rfl, rfl, r11, szlt (by omega), ?_⟩
          have tkk : TK H11 (upd H11 rl (.lst (rvs ++ [.ref t2]))) := TK.put r11 (by intro xs z; cases z)
          have nwr : wl ≠ rl := Ne.symm nrw
          refine ⟨4000 - (i + 1), by omega, i + 1, W', kvs, _, _, _, _, rfl, rfl, Ex.put (e8.trans e8_11) hr0, ?_, ?_, upd_same, ?_, kp8, hl', B'⟩
          · rw [upd_ne nwr]; exact e8_11 _ _ w8
          · rw [upd_ne (Ne.symm nrn)]; exact e8_11 _ _ k8
          · rw [hrt, List.map_append]
            refine NAll.snoc (NAll.mono (((TK.of e7).trans t8).trans ((TK.of e8_11).trans tkk)) _ _ hnl) ?_
            refine NIs.mono tkk _ _ (rowD_nis t11 (dg_nis (e8_11 _ _ b8)) (dg_nis (e11 _ _ t10)))
    · have hi : Wl.length ≤ i := by omega
      rw [rowsTo_all hi] at hnl
      exact ⟨_, rfl, q H6 rl rvs Wl e6 r6 hnl (B.done hi) hWl⟩
end
end Lw
set_option Elab.async false
set_option linter.all false
set_option maxRecDepth 100000
set_option maxHeartbeats 4000000
namespace Lw
open PySem L2 Evl Lf
def nameK (nm : Name) : NestedKey := .tup [.num nm.1, dgK nm.2.1, dgK nm.2.2]
theorem nameK_inj {a b : Name} (h : nameK a = nameK b) : a = b := by
  unfold nameK at h
  injection h with h
  injection h with h1 h
  injection h with h2 h
  injection h with h3 _
  injection h1 with h1
  exact Prod.ext (by omega) (Prod.ext (dg_inj h2) (dg_inj h3))
theorem nameK_depth (a : Name) : (nameK a).depth ≤ 8 := by
  unfold nameK
  simp [NestedKey.depth, NestedKey.depthAll, depth_dg]
/-- the dict of names -/
structure NP (kvs : List (NestedKey × V)) (NK : List Name) : Prop where
  len : kvs.length = NK.length
  val : ∀ a, valV kvs (nameK a) = if a ∈ NK then some (.int (NK.idxOf a : Nat)) else none
theorem NP.nil : NP [] [] := ⟨rfl, fun _ => rfl⟩
theorem NP.put {kvs : List (NestedKey × V)} {NK : List Name} (h : NP kvs NK) {a : Name} (hn : a ∉ NK) : NP (putK kvs (nameK a) (.int (NK.length : Nat))) (NK ++ [a]) := by
  have hv := h.val a
  rw [if_neg hn] at hv
  refine ⟨?_, fun b => ?_⟩
  · rw [putK_new _ hv, List.length_append, List.length_append, h.len]; rfl
  · rw [valV_put]
    by_cases e : b = a
    · subst e
      rw [if_pos rfl, if_pos (by simp), List.idxOf_append, if_neg hn]
      simp
    · rw [if_neg (fun z => e (nameK_inj z)), h.val b]
      by_cases hm : b ∈ NK
      · rw [if_pos hm, if_pos (List.mem_append_left _ hm), List.idxOf_append, if_pos hm]
      · rw [if_neg hm, if_neg (by simp [hm, e])]
abbrev nats (ns : List Nat) : List V := ns.map fun d => V.int (d : Nat)
theorem nats_get {ns : List Nat} {i : Nat} (h : i < ns.length) : (nats ns)[i]? = some (.int (ns.getD i 0 : Nat)) := by
  rw [List.getElem?_map, List.getD, List.getElem?_eq_getElem h]
  rfl
theorem same_tk {H H' : Hp} {a : Addr} (h : ∀ c, c ≠ a → H' c = H c) (ht : ∀ xs, H a ≠ some (.tup xs)) : TK H H' := fun b xs hb => by
  rw [h b (fun e => by rw [e] at hb; exact ht xs hb)]; exact hb
theorem same_ex {H0 H H' : Hp} {a : Addr} (e : Ex H0 H) (h : ∀ c, c ≠ a → H' c = H c) (h0 : H0 a = none) : Ex H0 H' := fun b o hb => by
  rw [h b (ne_of_none hb h0)]; exact e b o hb
theorem DN.ex {P : Program} {w : World} {H H' : Hp} {d : Addr} {kvs : List (NestedKey × V)} (h : DN P w H d kvs) (e : Ex H H') : DN P w H' d kvs := h.mono (.of e) fun φ q => e _ _ q
theorem DN.put {P : Program} {w : World} {H : Hp} {d z : Addr} {kvs : List (NestedKey × V)} {o : HO} (h : DN P w H d kvs) (hz : z ≠ d) (ht : ∀ xs, H z ≠ some (.tup xs)) : DN P w (upd H z o) d kvs :=
  h.mono (TK.upd ht) fun φ q => by rw [upd_ne (Ne.symm hz)]; exact q
theorem DN.ne {P : Program} {w : World} {H : Hp} {d z : Addr} {kvs : List (NestedKey × V)} {o : HO} (h : DN P w H d kvs) (hz : H z = some o) (ho : ∀ φ, o ≠ .ext φ) : z ≠ d := fun e => by
  obtain ⟨φ, q⟩ := h.ext
  rw [e, q] at hz
  exact ho φ (Option.some.inj hz).symm
theorem name_nis {H : Hp} {t b c : Addr} {nm : Name} (h : H t = some (.tup [.int (nm.1 : Nat), .ref b, .ref c])) (hb : NIs H (dgK nm.2.1) (.ref b)) (hc : NIs H (dgK nm.2.2) (.ref c)) : NIs H (nameK nm) (.ref t) :=
  nis_tup.mpr ⟨t, _, rfl, h, nall_cons.mpr ⟨_, _, rfl, nis_num.mpr rfl, nall_cons.mpr ⟨_, _, rfl, hb, nall_cons.mpr ⟨_, _, rfl, hc, nall_nil.mpr rfl⟩⟩⟩⟩
section
variable {P : Program} {w : World} {K : PySem.W.Frag} {mg : Str → Option Value} {base : Heap}
def spParted : Sp := fun vs H Q _ => ∃ rl rvs k rows, vs = [.ref rl] ∧ H rl = some (.lst rvs) ∧ NAll H (rows.map rowDK) rvs ∧ RowsOk k rows ∧ 0 < rows.length ∧ rows.length ≤ 3000 ∧ k ≤ 3 ∧
  ∀ H' ca cls, Ex H H' → H' ca = some (.lst (nats cls)) → IsCl k rows cls → Q (.ref ca) H'
abbrev nParted : List Str := ["rows", "classes", "count", "names", "following", "index", "digits", "sections", "name", "section"]
theorem scParted : FnScope nParted ["rows"] (defScope sParted) := ⟨rfl, rfl, rfl, by decide +kernel, rfl, by decide +kernel, by decide +kernel⟩
theorem rep_zero (n : Nat) : (List.replicate n [V.int 0]).flatten = nats (List.replicate n 0) := by
  induction n with
  | zero => rfl
  | succ n ih => rw [List.replicate_succ, List.flatten_cons, ih, List.replicate_succ]; rfl
theorem pinv_zero (k : Nat) (rows : List Row) : PInv k rows (List.replicate rows.length 0) 0 :=
  ⟨by simp, fun i j hi hj _ => by simp [List.getD, hi, hj], .inl rfl⟩
theorem ok_parted {f : Addr} {fd : FuncData} (D : Df K mg "parted" sParted ["rows"] f fd) (T : TWords mg) : FnOk P w K mg base CX0 1 f fd ["rows"] spParted := by
  refine D.F.ok scParted (fun vs H Q E h => ?_) (fun cdv Ar outer s H vs Q E hr h => ?_)
  · obtain ⟨_, _, _, _, rfl, _⟩ := h; rfl
  · obtain ⟨rl, rvs, k, rows, rfl, hrl, hnl, R, h0, hn, hk, q⟩ := h
    have hrv : rvs.length = rows.length := nall_len_map hnl
    refine ⟨_, pss_cons (ps_set (i := 1) scParted.nd rfl (Or.inr rfl) (pe_op op_rep (pe_lst (pa_cons pe_int pa_nil)) (pe_callB call_len (by rfl) T.len PySem.boot_len (pa_cons (pv 0) pa_nil))))
      (pss_cons (ps_set (i := 2) scParted.nd rfl (Or.inl rfl) pe_int)
      (pss_one (ps_while PassesOwn.never (pt_val pe_bl)
        (pss_cons (ps_set (i := 3) scParted.nd rfl (Or.inl rfl) pe_dnnew)
        (pss_cons (ps_set (i := 4) scParted.nd rfl (Or.inl rfl) (pe_lst pa_nil))
        (pss_cons (ps_for PassesOwn.never rfl (pi_enum (by rfl) T.enumerate (pa_cons (pv 0) pa_nil))
          (pg_tup rfl (pgs_cons (pg_name (i := 5) scParted.nd rfl (Or.inl rfl)) (pgs_cons (pg_tup rfl (pgs_cons (pg_name (i := 6) scParted.nd rfl (Or.inl rfl)) (pgs_cons (pg_name (i := 7) scParted.nd rfl (Or.inl rfl)) pgs_nil))) pgs_nil)))
          (pss_cons (ps_set (i := 8) scParted.nd rfl (Or.inl rfl) (pe_tup (pa_cons (pe_ix ix_list (pv 1) (pv 5) (fun _ _ => rfl)) (pa_cons (pv 6) (pa_cons
              (pe_callTy call_tuple_of (by rfl) T.tuple PyProof.Rows.boot_tuple (pa_cons
                (pe_lc (own := [("section", 9)]) (g := gName 9) (tt := tYes) rfl scParted.nd (pi_tup (pv 7)) (blkOk_by (N := nParted) (sc := defScope sParted) (by decide +kernel))
                  (fun _ _ _ _ _ => pg_name (i := 9) scParted.nd rfl (Or.inl rfl)) (fun _ _ _ _ _ => pts_nil) (fun _ _ _ _ _ => pe_ix (r := rIxL K) ix_list (pv 1) (pv 9) (fun _ _ => rfl))) pa_nil)) pa_nil)))))
          (pss_one (ps_expr (pe_bm PySem.F.plainAttrs_list PySem.F.slot_list_append PySem.F.type_list_append mt_append (pv 4) (pa_cons
            (pe_dnsetd hr.units (pv 3) (pv 8) (pe_callB call_lenDN (by rfl) T.len PySem.boot_len (pa_cons (pv 3) pa_nil)) ⟨rfl, rfl, rfl, rfl⟩) pa_nil))))))
        (pss_cons (ps_if (pt_cmpR op_eq (pe_callB call_lenDN (by rfl) T.len PySem.boot_len (pa_cons (pv 3) pa_nil)) (pv 2) (nomark _)) (pss_one (ps_ret (pv 1))) pss_nil)
        (pss_cons (ps_set (i := 1) scParted.nd rfl (Or.inr rfl) (pv 4))
        (pss_one (ps_set (i := 2) scParted.nd rfl (Or.inl rfl) (pe_callB call_lenDN (by rfl) T.len PySem.boot_len (pa_cons (pv 3) pa_nil)))))))))))), ?_⟩
    refine ⟨(by show 1 ≤ sizeLine; decide), fun l0 hl0 => ?_⟩
    have e1 : Ex H (upd H l0 (.lst [V.int 0])) := Ex.new hl0
    have l1 : (upd H l0 (.lst [V.int 0])) l0 = some (.lst [V.int 0]) := upd_same
    generalize upd H l0 (.lst [V.int 0]) = H1 at e1 l1
    refine ⟨_, rfl, _, _, rfl, .inl ⟨_, SqL.of (e1 _ _ hrl), rfl⟩, l0, _, _, rfl, rfl, l1, by omega, by omega, ?_, fun ca0 hca0 => ?_⟩
    · show 1 * _ ≤ _
      exact sz100 (by omega)
    have e2 : Ex H (upd H1 ca0 (.lst (List.replicate ((rvs.length : Int)).toNat [V.int 0]).flatten)) := e1.trans (Ex.new hca0)
    have c2 : (upd H1 ca0 (.lst (List.replicate ((rvs.length : Int)).toNat [V.int 0]).flatten)) ca0 = some (.lst (nats (List.replicate rows.length 0))) := by
      rw [upd_same, rep_zero, ← hrv]; rfl
    generalize upd H1 ca0 (.lst (List.replicate ((rvs.length : Int)).toNat [V.int 0]).flatten) = H2 at e2 c2
    refine ⟨fun m σ H' => ∃ (cls : List Nat) (count : Nat) (ca : Addr) (v3 v4 v5 v6 v7 v8 v9 : Option V), m = rows.length - count ∧ σ = [some (.ref rl), some (.ref ca), some (.int count), v3, v4, v5, v6, v7, v8, v9] ∧ Ex H H' ∧ H' ca = some (.lst (nats cls)) ∧ PInv k rows cls count ∧ count ≤ rows.length,
      ⟨rows.length, _, 0, ca0, none, none, none, none, none, none, none, rfl, rfl, e2, c2, pinv_zero k rows, Nat.zero_le _⟩, ?_⟩
    rintro m σ H3 ⟨cls, count, ca, v3, v4, v5, v6, v7, v8, v9, rfl, rfl, e3, c3, PI, hcn⟩
    refine ⟨true, rfl, ?_⟩
    refine iteT ⟨_, fun σ' H' h => h, ?_⟩
    intro nd hnd H4 hs4 dn4
    have n0 : H nd = none := fresh_back e3 hnd
    have e34 : Ex H3 H4 := same_ex (Ex.refl H3) hs4 hnd
    refine ⟨Nat.zero_le _, fun fl hfl => ?_⟩
    have hfl3 : H3 fl = none := fresh_back e34 hfl
    have nfn : nd ≠ fl := by
      obtain ⟨φ, qφ⟩ := dn4.ext
      exact ne_of_none qφ hfl
    have e35 : Ex H3 (upd H4 fl (.lst [])) := e34.trans (Ex.new hfl)
    have f5 : (upd H4 fl (.lst [])) fl = some (.lst (nats [])) := upd_same
    have dn5 : DN P w (upd H4 fl (.lst [])) nd [] := dn4.ex (Ex.new hfl)
    generalize upd H4 fl (.lst []) = H5 at e35 f5 dn5
    refine ⟨_, rfl, rl, _, rfl, SqL.of ((e3.trans e35) _ _ hrl), for_it walk_enum (fun i σ H' => ∃ (NK : List Name) (fol : List Nat) (kvs : List (NestedKey × V)) (v5 v6 v7 v8 v9 : Option V), σ = [some (.ref rl), some (.ref ca), some (.int count), some (.ref nd), some (.ref fl), v5, v6, v7, v8, v9] ∧ Ex H3 H' ∧ H' fl = some (.lst (nats fol)) ∧ DN P w H' nd kvs ∧ NP kvs NK ∧ NInv rows cls i NK fol ∧ fol.length = i ∧ NK.length ≤ i)
      ⟨[], [], [], v5, v6, v7, v8, v9, rfl, e35, f5, dn5, NP.nil, NInv.zero, rfl, Nat.le_refl _⟩ (fun _ _ _ _ ⟨_, _, _, _, _, _, _, _, _, e, _⟩ => SqL.of ((e3.trans e) _ _ hrl)) ?_ ?_⟩
    · rintro i x σ H6 H7 hi ⟨NK, fol, kvs, v5, v6, v7, v8, v9, rfl, e6, f6, dn6, np, NI, hfo, hNK⟩ ⟨T1, x1, y1, rfl, hT, rfl, rfl', hy⟩
      cases rfl'
      have hin : i < rows.length := by omega
      obtain ⟨r, hri, hnr⟩ := nall_get_map hnl hy
      have erow : rows.getD i ([], []) = r := by rw [List.getD, hri]; rfl
      obtain ⟨a, b, c, rfl, ha, hb, hc⟩ := rowD_at hnr
      have Rr := R.nx r (List.mem_of_getElem? hri)
      have e67 : Ex H6 (upd H6 T1 (.tup [V.int (i : Nat), V.ref a])) := Ex.new hT
      have t7 : (upd H6 T1 (.tup [V.int (i : Nat), V.ref a])) T1 = some (.tup [V.int (i : Nat), V.ref a]) := upd_same
      generalize upd H6 T1 (.tup [V.int (i : Nat), V.ref a]) = H7 at e67 t7
      have e7 := e6.trans e67
      have e07 := e3.trans e7
      refine ⟨T1, _, rfl, SqT.of t7, rfl, _, _, rfl, _, _, rfl, a, _, rfl, SqT.of (e07 _ _ ha), rfl, _, _, rfl, _, _, rfl, rfl, rfl, ?_⟩
      refine ⟨_, rfl, _, rfl, ca, _, _, _, rfl, rfl, SqL.of (e7 _ _ c3), atI_nat (nats_get (by rw [PI.len]; exact hin)), _, rfl, _, rfl, c, rfl, ⟨_, SqT.of (e07 _ _ hc)⟩, fun Dl hD => lc_it walk_tup (fun j H' => Ex H7 H' ∧ H' Dl = some (.lst (nats ((r.2.take j).map fun s => cls.getD s 0)))) ⟨Ex.new hD, upd_same⟩ (fun _ H' _ p => SqT.of ((e07.trans p.1) _ _ hc)) ?_ ?_⟩
      · rintro j x H8 H9 hj ⟨e8, l8⟩ ⟨rfl, hx⟩
        rw [List.length_map] at hj
        rw [nats_get hj] at hx
        cases hx
        have hs : r.2.getD j 0 < cls.length := by rw [PI.len]; exact Rr.2 _ (getD_mem hj)
        refine lc_yes rfl ?_
        refine ⟨_, rfl, _, rfl, ca, _, _, _, rfl, rfl, SqL.of (e8 _ _ (e7 _ _ c3)), atI_nat (nats_get hs), _, l8, ?_, Ex.put e8 hD, ?_⟩
        · have := Rr.1
          rw [List.length_map, List.length_map, List.length_take]
          exact szlt (by omega)
        · rw [upd_same, take_getD hj, List.map_append]
          show some (HO.lst (nats _ ++ [_])) = some (HO.lst (nats (_ ++ [_])))
          unfold nats
          rw [List.map_append]
          rfl
      · rintro H8 ⟨e8, l8⟩
        rw [List.length_map, List.take_of_length_le (Nat.le_refl _)] at l8
        refine ⟨Dl, _, rfl, .inl ⟨SqL.of l8, fun t ht => ⟨(by show 3 ≤ sizeLine; decide), fun t2 ht2 => ?_⟩⟩⟩
        have hnm : nameOf rows cls i = (cls.getD i 0, r.1, r.2.map fun s => cls.getD s 0) := by unfold nameOf; rw [erow]
        have e9 : Ex H8 (upd H8 t (.tup (nats (r.2.map fun s => cls.getD s 0)))) := Ex.new ht
        have t9 : (upd H8 t (.tup (nats (r.2.map fun s => cls.getD s 0)))) t = some (.tup (nats (r.2.map fun s => cls.getD s 0))) := upd_same
        generalize upd H8 t (.tup (nats (r.2.map fun s => cls.getD s 0))) = H9 at e9 t9 ht2
        have e10 : Ex H9 (upd H9 t2 (.tup [V.int (cls.getD i 0 : Nat), V.ref b, V.ref t])) := Ex.new ht2
        have t10 : (upd H9 t2 (.tup [V.int (cls.getD i 0 : Nat), V.ref b, V.ref t])) t2 = some (.tup [V.int (cls.getD i 0 : Nat), V.ref b, V.ref t]) := upd_same
        generalize upd H9 t2 (.tup [V.int (cls.getD i 0 : Nat), V.ref b, V.ref t]) = H10 at e10 t10
        have e6_10 : Ex H6 H10 := e67.trans (e8.trans (e9.trans e10))
        have nis10 : NIs H10 (nameK (nameOf rows cls i)) (.ref t2) := by
          rw [hnm]
          exact name_nis t10 (dg_nis ((e07.trans (e8.trans (e9.trans e10))) _ _ hb)) (dg_nis (e10 _ _ t9))
        have dn10 : DN P w H10 nd kvs := dn6.ex e6_10
        have f10 : H10 fl = some (.lst (nats fol)) := e6_10 _ _ f6
        refine ⟨_, rfl, .inl ⟨rfl, _, SqL.of f10⟩, _, rfl, nd, rfl, ⟨_, dn10⟩, _, rfl, _, rfl, nd, _, rfl, dn10, kvs, nameK (nameOf rows cls i), t2, rfl, dn10, nis10, nameK_depth _, szlt (by rw [np.len]; omega), fun v hv => ?_, fun hv H11 hs11 dn11 => ?_⟩
        · rw [np.val] at hv
          by_cases hm : nameOf rows cls i ∈ NK
          · rw [if_pos hm] at hv
            cases hv
            refine ⟨fl, _, _, rfl, rfl, f10, szlt (by rw [List.length_map, hfo]; omega), ?_⟩
            have hne : fl ≠ nd := dn10.ne f10 (by intro φ z; cases z)
            refine ⟨NK, fol ++ [NK.idxOf (nameOf rows cls i)], kvs, _, _, _, _, _, rfl, Ex.put (e6.trans e6_10) hfl3, ?_, dn10.put hne (by intro xs z; rw [f10] at z; cases z), np, NI.next.1 hm, by simp [hfo], by omega⟩
            rw [upd_same]
            unfold nats
            rw [List.map_append]
            rfl
          · rw [if_neg hm] at hv; cases hv
        · rw [np.val] at hv
          by_cases hm : nameOf rows cls i ∈ NK
          · rw [if_pos hm] at hv; cases hv
          · have hne : fl ≠ nd := dn10.ne f10 (by intro φ z; cases z)
            have f11 : H11 fl = some (.lst (nats fol)) := by rw [hs11 _ hne]; exact f10
            refine ⟨fl, _, _, rfl, rfl, f11, szlt (by rw [List.length_map, hfo]; omega), ?_⟩
            have e11 : Ex H3 H11 := same_ex (e6.trans e6_10) hs11 hnd
            rw [np.len] at dn11 ⊢
            refine ⟨NK ++ [nameOf rows cls i], fol ++ [NK.length], _, _, _, _, _, _, rfl, Ex.put e11 hfl3, ?_, dn11.put hne (by intro xs z; rw [f11] at z; cases z), np.put hm, NI.next.2 hm, by simp [hfo], by simp; omega⟩
            rw [upd_same]
            unfold nats
            rw [List.map_append]
            rfl
    · rintro σ H6 ⟨NK, fol, kvs, v5, v6, v7, v8, v9, rfl, e6, f6, dn6, np, NI, hfo, hNK⟩
      rw [hrv] at NI hfo hNK
      refine ⟨_, rfl, nd, _, rfl, dn6, _, rfl, rfl, _, rfl, ?_⟩
      rw [np.len, dec_nat]
      refine iteD (fun hq => ?_) (fun hq => ?_)
      · exact ⟨_, rfl, q H6 ca cls (e3.trans e6) (e6 _ _ c3) (part_done R h0 PI NI hq)⟩
      · obtain ⟨p1, p2, p3⟩ := part_step R h0 PI NI hq
        refine ⟨_, rfl, _, rfl, nd, _, rfl, dn6, ?_⟩
        rw [np.len]
        exact ⟨rows.length - NK.length, by omega, fol, NK.length, fl, _, _, _, _, _, _, _, rfl, rfl, e3.trans e6, f6, p1, p3⟩
end
end Lw
set_option Elab.async false
set_option linter.all false
set_option maxRecDepth 100000
set_option maxHeartbeats 4000000
namespace Lw
open PySem L2 Evl Lf
abbrev ik (c : Nat) : L2.Key := Sum.inl (c : Nat)
theorem ik_inj {a b : Nat} (h : ik a = ik b) : a = b := by have := Sum.inl.inj h; omega
/-- a dict by ints that knows the numbers of a list, by their places -/
structure IP (kvs : List (L2.Key × V)) (O : List Nat) : Prop where
  len : kvs.length ≤ O.length
  val : ∀ c, valV kvs (ik c) = if c ∈ O then some (.int (O.idxOf c : Nat)) else none
theorem IP.nil : IP [] [] := ⟨Nat.le_refl _, fun _ => rfl⟩
theorem IP.put {kvs : List (L2.Key × V)} {O : List Nat} (h : IP kvs O) {c : Nat} (hn : c ∉ O) : IP (putK kvs (ik c) (.int (O.length : Nat))) (O ++ [c]) := by
  refine ⟨?_, fun b => ?_⟩
  · have := length_putK kvs (ik c) (.int (O.length : Nat))
    have := h.len
    rw [List.length_append, List.length_singleton]
    omega
  · rw [valV_put]
    by_cases e : b = c
    · subst e
      rw [if_pos rfl, if_pos (by simp), List.idxOf_append, if_neg hn]
      simp
    · rw [if_neg (fun z => e (ik_inj z)), h.val b]
      by_cases hm : b ∈ O
      · rw [if_pos hm, if_pos (List.mem_append_left _ hm), List.idxOf_append, if_pos hm]
      · rw [if_neg hm, if_neg (by simp [hm, e])]
theorem IP.old {kvs : List (L2.Key × V)} {O : List Nat} (h : IP kvs O) {c : Nat} (hn : c ∈ O) : IP kvs (O ++ [c]) := by
  refine ⟨?_, fun b => ?_⟩
  · have := h.len
    rw [List.length_append]
    omega
  · rw [h.val b]
    by_cases hm : b ∈ O
    · rw [if_pos hm, if_pos (List.mem_append_left _ hm), List.idxOf_append, if_pos hm]
    · rw [if_neg hm, if_neg]
      intro hc
      rcases List.mem_append.mp hc with q | q
      · exact hm q
      · simp at q
        rw [q] at hm
        exact hm hn
section
variable {P : Program} {w : World} {K : PySem.W.Frag} {mg : Str → Option Value} {base : Heap}
def spNumbered : Sp := fun vs H Q _ => ∃ rl rvs ca k rows cls, vs = [.ref rl, .ref ca] ∧ H rl = some (.lst rvs) ∧ NAll H (rows.map rowDK) rvs ∧ RowsOk k rows ∧ 0 < rows.length ∧ rows.length ≤ 3000 ∧ k ≤ 3 ∧ H ca = some (.lst (nats cls)) ∧ cls.length = rows.length ∧
  ∀ H' a F, Ex H H' → NIs H' (formK F) (.ref a) → IsNum rows cls F → Q (.ref a) H'
abbrev nNumbered : List Str := ["rows", "classes", "first", "index", "name", "order", "numbers", "found", "digits", "sections", "section"]
theorem scNumbered : FnScope nNumbered ["rows", "classes"] (defScope sNumbered) := ⟨rfl, rfl, rfl, by decide +kernel, rfl, by decide +kernel, by decide +kernel⟩
theorem ok_numbered {f : Addr} {fd : FuncData} (D : Df K mg "numbered" sNumbered ["rows", "classes"] f fd) (T : TWords mg) : FnOk P w K mg base CX0 1 f fd ["rows", "classes"] spNumbered := by
  refine D.F.ok scNumbered (fun vs H Q E h => ?_) (fun cdv Ar outer s H vs Q E hr h => ?_)
  · obtain ⟨_, _, _, _, _, _, rfl, _⟩ := h; rfl
  · obtain ⟨rl, rvs, ca, k, rows, cls, rfl, hrl, hnl, R, h0, hn, hk, hca, hcl, q⟩ := h
    have hrv : rvs.length = rows.length := nall_len_map hnl
    refine ⟨_, pss_cons (ps_set (i := 2) scNumbered.nd rfl (Or.inl rfl) pe_dnewK)
      (pss_cons (ps_for PassesOwn.never rfl (pi_enum (by rfl) T.enumerate (pa_cons (pv 1) pa_nil)) (pg_tup rfl (pgs_cons (pg_name (i := 3) scNumbered.nd rfl (Or.inl rfl)) (pgs_cons (pg_name (i := 4) scNumbered.nd rfl (Or.inl rfl)) pgs_nil)))
        (pss_one (ps_expr (pe_dsetd (pv 2) (pv 4) (pv 3) ⟨rfl, rfl, rfl, rfl⟩))))
      (pss_cons (ps_set (i := 5) scNumbered.nd rfl (Or.inl rfl) (pe_lst (pa_cons (pe_ix ix_list (pv 1) pe_int (fun _ _ => rfl)) pa_nil)))
      (pss_cons (ps_set (i := 6) scNumbered.nd rfl (Or.inr rfl) (pe_disp (pps_cons (pe_ix ix_list (pv 1) pe_int (fun _ _ => rfl)) pe_int pps_nil) (by rfl) (by rfl) (fun z => by cases z) (by decide)))
      (pss_cons (ps_set (i := 7) scNumbered.nd rfl (Or.inl rfl) (pe_lst pa_nil))
      (pss_cons (ps_while PassesOwn.never (pt_cmpR op_lt (pe_callB call_len (by rfl) T.len PySem.boot_len (pa_cons (pv 7) pa_nil)) (pe_callB call_len (by rfl) T.len PySem.boot_len (pa_cons (pv 5) pa_nil)) (nomark _))
        (pss_cons (ps_asg (pe_ix ix_list (pv 0) (pe_dget (hu_of hr) (pv 2) (pe_ix ix_list (pv 5) (pe_callB call_len (by rfl) T.len PySem.boot_len (pa_cons (pv 7) pa_nil)) (fun _ _ => rfl)) (fun _ _ => rfl)) (fun _ _ => rfl))
            (pg_tup rfl (pgs_cons (pg_name (i := 8) scNumbered.nd rfl (Or.inl rfl)) (pgs_cons (pg_name (i := 9) scNumbered.nd rfl (Or.inl rfl)) pgs_nil))))
        (pss_cons (ps_for PassesOwn.never rfl (pi_tup (pv 9)) (pg_name (i := 10) scNumbered.nd rfl (Or.inl rfl))
          (pss_one (ps_if (pt_cmp (pc_dnotin (hu_of hr) (pe_ix ix_list (pv 1) (pv 10) (fun _ _ => rfl)) (pv 6)))
            (pss_cons (ps_dput (hu_of hr) (pv 6) (pe_ix ix_list (pv 1) (pv 10) (fun _ _ => rfl)) (pe_callB call_len (by rfl) T.len PySem.boot_len (pa_cons (pv 5) pa_nil)) rfl)
            (pss_one (ps_expr (pe_bm PySem.F.plainAttrs_list PySem.F.slot_list_append PySem.F.type_list_append mt_append (pv 5) (pa_cons (pe_ix ix_list (pv 1) (pv 10) (fun _ _ => rfl)) pa_nil))))) pss_nil)))
        (pss_one (ps_expr (pe_bm PySem.F.plainAttrs_list PySem.F.slot_list_append PySem.F.type_list_append mt_append (pv 7) (pa_cons
          (pe_tup (pa_cons (pv 8) (pa_cons (pe_callTy call_tuple_of (by rfl) T.tuple PyProof.Rows.boot_tuple (pa_cons
            (pe_lc (own := [("section", 10)]) (g := gName 10) (tt := tYes) rfl scNumbered.nd (pi_tup (pv 9)) (blkOk_by (N := nNumbered) (sc := defScope sNumbered) (by decide +kernel))
              (fun _ _ _ _ _ => pg_name (i := 10) scNumbered.nd rfl (Or.inl rfl)) (fun _ _ _ _ _ => pts_nil) (fun _ _ _ _ _ => pe_dget (hu_of hr) (pv 6) (pe_ix (r := rIxL K) ix_list (pv 1) (pv 10) (fun _ _ => rfl)) (fun _ _ => rfl))) pa_nil)) pa_nil))) pa_nil)))))))
      (pss_one (ps_ret (pe_callTy call_tuple_of (by rfl) T.tuple PyProof.Rows.boot_tuple (pa_cons (pv 7) pa_nil))))))))), ?_⟩
    intro fd hfd
    have e1 : Ex H (upd H fd (.dK [])) := Ex.new hfd
    have f1 : (upd H fd (.dK [])) fd = some (.dK []) := upd_same
    generalize upd H fd (.dK []) = H1 at e1 f1
    refine ⟨_, rfl, ca, _, rfl, SqL.of (e1 _ _ hca), for_it walk_enum (fun i σ H' => ∃ (kvs : List (L2.Key × V)) (v3 v4 : Option V), σ = [some (.ref rl), some (.ref ca), some (.ref fd), v3, v4, none, none, none, none, none, none] ∧ Ex H H' ∧ H' fd = some (.dK kvs) ∧ kvs.length ≤ i ∧ IP kvs (cls.take i))
      ⟨[], none, none, rfl, e1, f1, Nat.le_refl _, IP.nil⟩ (fun _ _ _ _ ⟨_, _, _, _, e, _⟩ => SqL.of (e _ _ hca)) ?_ ?_⟩
    · rintro i x σ H2 H3 hi ⟨kvs, v3, v4, rfl, e2, f2, hkl, ip⟩ ⟨T1, x1, y1, rfl, hT, rfl, rfl', hy⟩
      cases rfl'
      rw [List.length_map] at hi
      have hy' : (nats cls)[i]? = some y1 := hy
      rw [nats_get hi] at hy'
      cases hy'
      have e3 : Ex H2 (upd H2 T1 (.tup [V.int (i : Nat), V.int (cls.getD i 0 : Nat)])) := Ex.new hT
      refine ⟨T1, _, rfl, SqT.of upd_same, rfl, _, _, rfl, _, _, rfl, rfl, ?_⟩
      generalize upd H2 T1 (.tup [V.int (i : Nat), V.int (cls.getD i 0 : Nat)]) = H3 at e3
      have f3 := e3 _ _ f2
      refine ⟨_, rfl, fd, rfl, .inl ⟨_, .inl f3⟩, _, rfl, _, rfl, kvs, ik (cls.getD i 0), f3, rfl, szlt (by omega), fun v hv => ?_, fun hv => ?_⟩
      · rw [ip.val] at hv
        by_cases hm : cls.getD i 0 ∈ cls.take i
        · refine ⟨kvs, _, _, rfl, e2.trans e3, f3, by omega, ?_⟩
          rw [take_getD hi]
          exact ip.old hm
        · rw [if_neg hm] at hv; cases hv
      · rw [ip.val] at hv
        by_cases hm : cls.getD i 0 ∈ cls.take i
        · rw [if_pos hm] at hv; cases hv
        · refine ⟨_, _, _, rfl, Ex.put (e2.trans e3) hfd, upd_same, by have := length_putK kvs (ik (cls.getD i 0)) (.int (i : Nat)); omega, ?_⟩
          rw [take_getD hi]
          have := ip.put hm
          rw [List.length_take, Nat.min_eq_left (by omega)] at this
          exact this
    rintro σ H2 ⟨kvs, v3, v4, rfl, e2, f2, hkl, ip⟩
    rw [List.length_map, List.take_length] at ip
    rw [List.length_map] at hkl
    have hc0 : 0 < cls.length := by omega
    refine ⟨_, rfl, ca, _, 0, _, rfl, rfl, SqL.of (e2 _ _ hca), atI_nat (nats_get hc0), (by show 1 ≤ sizeLine; decide), fun ol hol => ?_⟩
    have hol0 : H ol = none := fresh_back e2 hol
    have e3 : Ex H2 (upd H2 ol (.lst [V.int (cls.getD 0 0 : Nat)])) := Ex.new hol
    have o3 : (upd H2 ol (.lst [V.int (cls.getD 0 0 : Nat)])) ol = some (.lst (nats (ordC rows cls 0))) := upd_same
    generalize upd H2 ol (.lst [V.int (cls.getD 0 0 : Nat)]) = H3 at e3 o3
    intro nd hnd
    have hnd0 : H nd = none := fresh_back (e2.trans e3) hnd
    have f4' : H3 fd = some (.dK kvs) := e3 _ _ f2
    have e4 : Ex H3 (upd H3 nd (.dK [])) := Ex.new hnd
    refine ⟨_, rfl, ca, _, 0, _, rfl, rfl, SqL.of ((e2.trans (e3.trans e4)) _ _ hca), atI_nat (nats_get hc0), upd_same, [(ik (cls.getD 0 0), .int 0)], rfl, (by show 1 ≤ 15; decide), ?_⟩
    have ekv : mergeK [] [(ik (cls.getD 0 0), V.int 0)] = [(ik (cls.getD 0 0), V.int 0)] := rfl
    rw [ekv, upd_upd]
    clear e4
    have e4 : Ex H3 (upd H3 nd (.dK [(ik (cls.getD 0 0), V.int 0)])) := Ex.new hnd
    have n4 : (upd H3 nd (.dK [(ik (cls.getD 0 0), V.int 0)])) nd = some (.dK [(ik (cls.getD 0 0), V.int 0)]) := upd_same
    have ip0 : IP [(ik (cls.getD 0 0), V.int 0)] (ordC rows cls 0) := IP.nil.put (c := cls.getD 0 0) (by simp)
    have o4 := e4 _ _ o3
    have e04 : Ex H (upd H3 nd (.dK [(ik (cls.getD 0 0), V.int 0)])) := e2.trans (e3.trans e4)
    have f4 := e4 _ _ (e3 _ _ f2)
    generalize upd H3 nd (.dK [(ik (cls.getD 0 0), V.int 0)]) = H4 at e4 n4 o4 e04 f4
    refine ⟨Nat.zero_le _, fun ul hul => ?_⟩
    have hul0 : H ul = none := fresh_back e04 hul
    have nuo : ul ≠ ol := Ne.symm (ne_of_none o4 hul)
    have e5 : Ex H4 (upd H4 ul (.lst [])) := Ex.new hul
    have u5 : (upd H4 ul (.lst [])) ul = some (.lst []) := upd_same
    have o5 := e5 _ _ o4
    have n5 := e5 _ _ n4
    have f5 := e5 _ _ f4
    have e05 := e04.trans e5
    have nfn : fd ≠ nd := ne_of_none f4' hnd
    generalize upd H4 ul (.lst []) = H5 at u5 o5 n5 f5 e05
    clear e5 e4 e3
    refine ⟨fun m σ H' => ∃ (i : Nat) (nvs : List (L2.Key × V)) (uvs : List V) (w3 w4 w8 w9 w10 : Option V), m = rows.length - i ∧ σ = [some (.ref rl), some (.ref ca), some (.ref fd), w3, w4, some (.ref ol), some (.ref nd), some (.ref ul), w8, w9, w10] ∧ Ex H H' ∧ H' fd = some (.dK kvs) ∧ H' ol = some (.lst (nats (ordC rows cls i))) ∧ H' nd = some (.dK nvs) ∧ H' ul = some (.lst uvs) ∧
        IP nvs (ordC rows cls i) ∧ NAll H' ((numTo rows cls (ordC rows cls i) i).map rowDK) uvs ∧ (∀ j, j < i → j < (ordC rows cls j).length) ∧ i ≤ (ordC rows cls i).length ∧ OBelow rows cls (ordC rows cls i) i,
      ⟨rows.length, 0, _, [], v3, v4, none, none, none, rfl, rfl, e05, f5, o5, n5, u5, ip0, nall_nil.mpr rfl, fun j h => absurd h (Nat.not_lt_zero _), Nat.zero_le _, fun j h => absurd h (Nat.not_lt_zero _)⟩, ?_⟩
    rintro m σ H6 ⟨i, nvs, uvs, w3, w4, w8, w9, w10, rfl, rfl, e6, f6, o6, n6, u6, ipn, hnu, hji, hil, hob⟩
    have hOl := ordC_len R hcl h0 hji
    have hOc := ordC_cl R hcl h0 hji
    have huv : uvs.length = i := by rw [nall_len_map hnu, numTo_len hil]
    refine ⟨_, rfl, _, _, rfl, .inl ⟨_, SqL.of u6, rfl⟩, _, rfl, _, _, rfl, .inl ⟨_, SqL.of o6, rfl⟩, _, _, rfl, rfl, _, rfl, ?_⟩
    rw [List.length_map, huv]
    refine iteD (fun hlt => ?_) (fun hge => ?_)
    · have hlt : i < (ordC rows cls i).length := by omega
      refine ⟨_, fun σ' H' h => h, ?_⟩
      have hcm : (ordC rows cls i).getD i 0 ∈ cls := hOc _ (getD_mem hlt)
      have hfl := List.idxOf_lt_length_of_mem hcm
      rw [hcl] at hfl
      have hnx := numTo_next hlt hob
      have hob' := OBelow.next hlt hob
      have hsucc := ordC_succ rows cls i
      have hji' : ∀ j, j < i + 1 → j < (ordC rows cls j).length := fun j hj => by
        rcases Nat.lt_or_ge j i with q | q
        · exact hji j q
        · rw [show j = i by omega]; exact hlt
      have hOl' := ordC_len R hcl h0 hji'
      have hmem : ∀ d ∈ nxC rows cls ((ordC rows cls i).getD i 0), d ∈ ordC rows cls (i + 1) := by
        obtain ⟨r, e, m, _⟩ := addNew_pre (nxC rows cls ((ordC rows cls i).getD i 0)) (ordC rows cls i)
        rw [hsucc, e]; exact m
      have hpre : i + 1 ≤ (ordC rows cls (i + 1)).length := by
        obtain ⟨r, e, m, _⟩ := addNew_pre (nxC rows cls ((ordC rows cls i).getD i 0)) (ordC rows cls i)
        rw [hsucc, e, List.length_append]; omega
      have hoget : (nats (ordC rows cls i))[i]? = some (.int ((ordC rows cls i).getD i 0 : Nat)) := nats_get hlt
      generalize hcc : (ordC rows cls i).getD i 0 = cc at hcm hfl hnx hsucc hmem hoget
      obtain ⟨v, hv1, hv2⟩ := hnl.get (show (rows.map rowDK)[cls.idxOf cc]? = some (rowDK (rows.getD (cls.idxOf cc) ([], []))) by
        rw [List.getElem?_map, List.getD, List.getElem?_eq_getElem hfl]; rfl)
      have hrm := getD_row hfl
      have hnxc : nxC rows cls cc = (rows.getD (cls.idxOf cc) ([], [])).2.map fun s => cls.getD s 0 := rfl
      have hdgc : dgC rows cls cc = (rows.getD (cls.idxOf cc) ([], [])).1 := rfl
      generalize rows.getD (cls.idxOf cc) ([], []) = r at hv2 hrm hnxc hdgc
      obtain ⟨a, b, c, rfl, ha, hb, hc⟩ := rowD_at hv2
      have Rr := R.nx r hrm
      refine ⟨_, rfl, _, rfl, _, rfl, _, rfl, _, _, rfl, .inl ⟨_, SqL.of u6, rfl⟩, ol, _, _, _, rfl, rfl, SqL.of o6, by rw [huv]; exact atI_nat hoget, fd, .int ((cls.idxOf cc : Nat) : Int), rfl, ?_, rl, _, _, _, rfl, rfl, SqL.of (e6 _ _ hrl), atI_nat hv1, a, _, rfl, SqT.of (e6 _ _ ha), rfl, _, _, rfl, _, _, rfl, rfl, ?_⟩
      · have hg := DGet.k (k := ik cc) f6
        rw [ip.val, if_pos hcm] at hg
        exact hg
      refine ⟨_, rfl, c, rfl, ⟨_, SqT.of (e6 _ _ hc)⟩, ?_⟩
      refine for_it walk_tup (fun j σ H' => ∃ (nvs : List (L2.Key × V)) (w10 : Option V), σ = [some (.ref rl), some (.ref ca), some (.ref fd), w3, w4, some (.ref ol), some (.ref nd), some (.ref ul), some (.ref b), some (.ref c), w10] ∧ Ex H H' ∧ TK H6 H' ∧ H' fd = some (.dK kvs) ∧ H' ul = some (.lst uvs) ∧ H' ol = some (.lst (nats (addNew (ordC rows cls i) ((nxC rows cls cc).take j)))) ∧ H' nd = some (.dK nvs) ∧ IP nvs (addNew (ordC rows cls i) ((nxC rows cls cc).take j)))
        ⟨nvs, w10, rfl, e6, TK.refl _, f6, u6, o6, n6, ipn⟩ (fun _ _ _ _ ⟨_, _, _, e, _⟩ => SqT.of (e _ _ hc)) ?_ ?_
      · rintro j x σ H7 H8 hj ⟨nvs, w10, rfl, e7, t7, f7, u7, o7, n7, ip7⟩ ⟨rfl, hx⟩
        rw [List.length_map] at hj
        have hx' : (nats r.2)[j]? = some x := hx
        rw [nats_get hj] at hx'
        cases hx'
        have hs : r.2.getD j 0 < cls.length := by rw [hcl]; exact Rr.2 _ (getD_mem hj)
        have hjn : j < (nxC rows cls cc).length := by rw [hnxc, List.length_map]; exact hj
        have hgn : (nxC rows cls cc).getD j 0 = cls.getD (r.2.getD j 0) 0 := by rw [hnxc]; exact getD_map hj
        rw [take_getD hjn, addNew_snoc, hgn]
        have hbd : (addNew (ordC rows cls i) ((nxC rows cls cc).take j)).length ≤ 3000 := by
          have h1 : (addNew (ordC rows cls i) ((nxC rows cls cc).take j)).Nodup := addNew_nodup _ _ (ordAt_nodup _ _ i)
          have h2 : addNew (ordC rows cls i) ((nxC rows cls cc).take j) ⊆ cls := fun d hd => by
            obtain ⟨r', e, _, m'⟩ := addNew_pre ((nxC rows cls cc).take j) (ordC rows cls i)
            rw [e] at hd
            rcases List.mem_append.mp hd with hd | hd
            · exact hOc d hd
            · have := List.mem_of_mem_take (m' d hd)
              rw [hnxc] at this
              obtain ⟨s, hs, rfl⟩ := List.mem_map.mp this
              exact getD_mem (by rw [hcl]; exact Rr.2 _ hs)
          have := h1.length_le_of_subset h2
          omega
        generalize addNew (ordC rows cls i) ((nxC rows cls cc).take j) = Oj at o7 ip7 hbd
        have hgv : (nats cls)[r.2.getD j 0]? = some (.int (cls.getD (r.2.getD j 0) 0 : Nat)) := nats_get hs
        generalize cls.getD (r.2.getD j 0) 0 = cd at hgn hgv
        have sq7 := e7 _ _ hca
        refine ⟨_, rfl, _, rfl, ca, _, _, _, rfl, rfl, SqL.of sq7, atI_nat hgv, _, rfl, nd, _, rfl, DGet.k (k := ik cd) n7, _, rfl, ?_⟩
        rw [ip7.val cd]
        by_cases hm : cd ∈ Oj
        · rw [if_pos hm, if_pos hm]
          refine iteF ?_
          exact ⟨nvs, _, rfl, e7, t7, f7, u7, o7, n7, ip7⟩
        · rw [if_neg hm, if_neg hm]
          refine iteT ?_
          refine ⟨_, rfl, _, _, rfl, .inl ⟨_, SqL.of o7, rfl⟩, _, rfl, _, rfl, _, rfl, ca, _, _, _, rfl, rfl, SqL.of sq7, atI_nat hgv, nd, _, rfl, DPut.k (k := ik cd) n7 (szlt (by have := ip7.len; omega)), ?_⟩
          rw [List.length_map]
          have non : ol ≠ nd := ne_of o7 n7 (by intro z; cases z)
          have nun : ul ≠ nd := ne_of u7 n7 (by intro z; cases z)
          have nfn : fd ≠ nd := nfn
          have nca : ca ≠ nd := ne_of sq7 n7 (by intro z; cases z)
          have o8 : (upd H8 nd (.dK (putK nvs (ik cd) (.int (Oj.length : Nat))))) ol = some (.lst (nats Oj)) := by rw [upd_ne non]; exact o7
          refine ⟨_, rfl, .inl ⟨rfl, _, SqL.of o8⟩, _, rfl, _, rfl, ca, _, _, _, rfl, rfl, SqL.of (by rw [upd_ne nca]; exact sq7), atI_nat hgv, ol, _, _, rfl, rfl, o8, szlt (by rw [List.length_map]; omega), ?_⟩
          have nof : fd ≠ ol := ne_of f7 o7 (by intro z; cases z)
          refine ⟨_, _, rfl, Ex.put (Ex.put e7 hnd0) hol0, ?_, ?_, ?_, ?_, ?_, ip7.put hm⟩
          · exact t7.trans ((TK.put n7 (by intro xs z; cases z)).trans (TK.put o8 (by intro xs z; cases z)))
          · rw [upd_ne nof, upd_ne nfn]; exact f7
          · rw [upd_ne nuo, upd_ne nun]; exact u7
          · rw [upd_same]
            unfold nats
            rw [List.map_append]
            rfl
          · rw [upd_ne (Ne.symm non), upd_same]
      · rintro σ H7 ⟨nvs, w10, rfl, e7, t7, f7, u7, o7, n7, ip7⟩
        have hfull : (nxC rows cls cc).take (nats r.2).length = nxC rows cls cc := List.take_of_length_le (by rw [hnxc]; simp)
        have hO : addNew (ordC rows cls i) (nxC rows cls cc) = ordC rows cls (i + 1) := hsucc.symm
        rw [hfull, hO] at o7 ip7
        have b7 := t7 _ _ (e6 _ _ hb)
        have c7 := t7 _ _ (e6 _ _ hc)
        refine ⟨_, rfl, .inl ⟨rfl, _, SqL.of u7⟩, _, rfl, _, rfl, c, rfl, ⟨_, SqT.of c7⟩, fun Dl hD => lc_it walk_tup (fun j H' => Ex H7 H' ∧ H' Dl = some (.lst (nats (((nxC rows cls cc).take j).map fun d => (ordC rows cls (i + 1)).idxOf d)))) ⟨Ex.new hD, upd_same⟩ (fun _ H' _ p => SqT.of (p.1 _ _ c7)) ?_ ?_⟩
        · rintro j x H8 H9 hj ⟨e8, l8⟩ ⟨rfl, hx⟩
          rw [List.length_map] at hj
          have hx' : (nats r.2)[j]? = some x := hx
          rw [nats_get hj] at hx'
          cases hx'
          have hs : r.2.getD j 0 < cls.length := by rw [hcl]; exact Rr.2 _ (getD_mem hj)
          have hjn : j < (nxC rows cls cc).length := by rw [hnxc, List.length_map]; exact hj
          have hgn : (nxC rows cls cc).getD j 0 = cls.getD (r.2.getD j 0) 0 := by rw [hnxc]; exact getD_map hj
          refine lc_yes rfl ?_
          refine ⟨_, rfl, _, rfl, _, rfl, ca, _, _, _, rfl, rfl, SqL.of (e8 _ _ (e7 _ _ hca)), atI_nat (nats_get hs), nd, .int (((ordC rows cls (i + 1)).idxOf (cls.getD (r.2.getD j 0) 0) : Nat) : Int), rfl, ?_, ?_⟩
          · have hg := DGet.k (k := ik (cls.getD (r.2.getD j 0) 0)) (e8 _ _ n7)
            rw [ip7.val, if_pos (by rw [← hgn]; exact hmem _ (getD_mem hjn))] at hg
            exact hg
          · refine ⟨_, l8, ?_, Ex.put e8 hD, ?_⟩
            · have := Rr.1
              rw [List.length_map, List.length_map, List.length_take]
              exact szlt (by omega)
            · rw [upd_same, take_getD hjn, List.map_append, hgn]
              unfold nats
              rw [List.map_append]
              rfl
        · rintro H8 ⟨e8, l8⟩
          rw [hfull] at l8
          refine ⟨Dl, _, rfl, .inl ⟨SqL.of l8, fun t ht => ⟨(by show 2 ≤ sizeLine; decide), fun t2 ht2 => ?_⟩⟩⟩
          have e9 : Ex H8 (upd H8 t (.tup (nats ((nxC rows cls cc).map fun d => (ordC rows cls (i + 1)).idxOf d)))) := Ex.new ht
          have t9 : (upd H8 t (.tup (nats ((nxC rows cls cc).map fun d => (ordC rows cls (i + 1)).idxOf d)))) t = some (.tup (nats ((nxC rows cls cc).map fun d => (ordC rows cls (i + 1)).idxOf d))) := upd_same
          generalize upd H8 t (.tup (nats ((nxC rows cls cc).map fun d => (ordC rows cls (i + 1)).idxOf d))) = H9 at e9 t9 ht2
          have e10 : Ex H9 (upd H9 t2 (.tup [V.ref b, V.ref t])) := Ex.new ht2
          have t10 : (upd H9 t2 (.tup [V.ref b, V.ref t])) t2 = some (.tup [V.ref b, V.ref t]) := upd_same
          generalize upd H9 t2 (.tup [V.ref b, V.ref t]) = H10 at e10 t10
          have e7_10 : Ex H7 H10 := e8.trans (e9.trans e10)
          have u10 := e7_10 _ _ u7
          refine ⟨ul, _, _, rfl, rfl, u10, szlt (by omega), ?_⟩
          have tkk : TK H10 (upd H10 ul (.lst (uvs ++ [.ref t2]))) := TK.put u10 (by intro xs z; cases z)
          have nfu : fd ≠ ul := ne_of f7 u7 (by intro z; cases z)
          have nnu : nd ≠ ul := ne_of n7 u7 (by intro z; cases z)
          refine ⟨rows.length - (i + 1), by omega, i + 1, nvs, _, _, _, _, _, _, rfl, rfl, Ex.put (e7.trans e7_10) hul0, ?_, ?_, ?_, upd_same, ip7, ?_, hji', hpre, hob'⟩
          · rw [upd_ne nfu]; exact e7_10 _ _ f7
          · rw [upd_ne (Ne.symm nuo)]; exact e7_10 _ _ o7
          · rw [upd_ne nnu]; exact e7_10 _ _ n7
          · rw [hnx, List.map_append]
            refine NAll.snoc (NAll.mono ((t7.trans (.of e7_10)).trans tkk) _ _ hnu) ?_
            refine NIs.mono tkk _ _ (rowD_nis t10 (dg_nis ?_) (dg_nis (e10 _ _ t9)))
            show H10 b = some (.tup ((dgC rows cls cc).map fun d => V.int (d : Nat)))
            rw [hdgc]
            exact e7_10 _ _ b7
    · have hi : (ordC rows cls i).length ≤ i := by omega
      refine ⟨_, rfl, ul, _, rfl, .inl ⟨SqL.of u6, fun t ht => ?_⟩⟩
      refine q _ t _ (e6.trans (Ex.new ht)) (nis_tup.mpr ⟨t, _, rfl, upd_same, NAll.mono (.of (Ex.new ht)) _ _ hnu⟩) (isNum_done hji hil hi)
end
end Lw
set_option Elab.async false
set_option linter.all false
set_option maxRecDepth 100000
set_option maxHeartbeats 4000000
namespace Lw
open PySem L2 Evl Lf
theorem tiny {k : Nat} {rows : Rows} (M : MOk k rows) : (allRed (2 * rows.length) 3).length ≤ 187 := by
  refine allRed_tiny ⟨?_, Nat.le_refl _⟩
  have := M.n1
  have := M.n3
  omega
theorem KnownOk.bound {H : Hp} {k : Nat} {rows : Rows} {kvs : List (L2.Key × V)} {Wl : List (List Nat)} (M : MOk k rows) (h : KnownOk H k rows kvs Wl) : kvs.length ≤ 187 := by
  rw [h.len]
  exact Nat.le_trans (bound_of h.nodup fun u hu => let ⟨a, b, c⟩ := h.good u hu; ⟨b, a, c⟩) (tiny M)
theorem KnownOk.put {H : Hp} {k : Nat} {rows : Rows} {kvs : List (L2.Key × V)} {Wl : List (List Nat)} (h : KnownOk H k rows kvs Wl) (hL : 2 * rows.length ≤ 16) {u : List Nat} {v : V} {F : List Row} (hn : u ∉ Wl) (g : Wd (2 * rows.length) u ∧ Red u ∧ u.length ≤ 3) (hF : IsForm k (2 * rows.length) (lsOf rows) u F) (hv : NIs H (formK F) v) :
    KnownOk H k rows (putK kvs (tk u) v) (Wl ++ [u]) := by
  have g16 := g.1.mono hL
  have hno := h.no u g16 hn
  refine ⟨?_, fun w hw => ?_, ?_, fun w hw hm => ?_, fun w hw => ?_⟩
  · refine List.nodup_append.mpr ⟨h.nodup, by simp, fun a ha b hb e => ?_⟩
    simp at hb
    rw [e, hb] at ha
    exact hn ha
  · rcases List.mem_append.mp hw with q | q
    · exact h.good w q
    · simp at q; rw [q]; exact g
  · rw [putK_new _ hno, List.length_append, List.length_append, h.len]; rfl
  · rw [valV_put, if_neg]
    · exact h.no w hw fun z => hm (List.mem_append_left _ z)
    · intro z
      have := tk_inj hw g16 z
      exact hm (by simp [this])
  · by_cases e : w = u
    · subst e
      exact ⟨v, F, by rw [valV_put, if_pos rfl], hF, hv⟩
    · have hw' : w ∈ Wl := by
        rcases List.mem_append.mp hw with q | q
        · exact q
        · simp at q; exact absurd q e
      obtain ⟨v', F', q1, q2, q3⟩ := h.yes w hw'
      refine ⟨v', F', ?_, q2, q3⟩
      rw [valV_put, if_neg]
      · exact q1
      · intro z
        exact e (tk_inj ((h.good w hw').1.mono hL) g16 z)
section
variable {P : Program} {w : World} {K : PySem.W.Frag} {mg : Str → Option Value} {base : Heap} {C : Addr}
def spForm (CA CF : Addr) : Sp := fun vs H Q _ => ∃ HB p kd k rows wd, vs = [.ref p, .str (txt wd)] ∧ FormsAt CA CF HB H p kd k rows ∧ MOk k rows ∧ Wd (2 * rows.length) wd ∧ wd.length ≤ 3 ∧
  ∀ H' a F, Frm [kd] H H' → FormsAt CA CF HB H' p kd k rows → IsForm k (2 * rows.length) (lsOf rows) wd F → NIs H' (formK F) (.ref a) → Q (.ref a) H'
abbrev nForm : List Str := ["self", "word", "rows"]
theorem scForm : FnScope nForm ["self", "word"] (defScope sFForm) := ⟨rfl, rfl, rfl, by decide +kernel, rfl, by decide +kernel, by decide +kernel⟩
theorem ok_form {f fO fC fP fN CF : Addr} {fd fdO fdC fdP fdN : FuncData} (D : Fun K "form" "Forms.form" sFForm f fd) (F0 : TF K mg CF) (mO : Meth K CF "rows_of" fO) (bO : Binds K fdO ["self", "word"] []) (GO : FnOk P w K mg base CX0 4 fO fdO ["self", "word"] (spFRows C CF))
    (CD : Df K mg "cut" sCut ["word"] fC fdC) (GC : FnOk P w K mg base CX0 2 fC fdC ["word"] spCut) (PD : Df K mg "parted" sParted ["rows"] fP fdP) (ND : Df K mg "numbered" sNumbered ["rows", "classes"] fN fdN) (T : TWords mg) : FnOk P w K mg base CX0 5 f fd ["self", "word"] (spForm C CF) := by
  have GP : FnOk P w K mg base CX0 1 fP fdP ["rows"] spParted := ok_parted PD T
  have GN : FnOk P w K mg base CX0 1 fN fdN ["rows", "classes"] spNumbered := ok_numbered ND T
  refine D.ok scForm (fun vs H Q E h => ?_) (fun cdv Ar outer s H vs Q E hr h => ?_)
  · obtain ⟨_, _, _, _, _, _, rfl, _⟩ := h; rfl
  · obtain ⟨HB, p, kd, k, rows, wd, rfl, hFA, M, hw, hwl, q⟩ := h
    have hL := M.le6
    have hk3 := M.k3
    have hcw := cut_wd hw
    have hcr := cut_red wd
    have hcl : (Lf.cut wd).length ≤ 3 := Nat.le_trans (cut_len wd) hwl
    have hc16 : Wd 16 (Lf.cut wd) := hcw.mono (by omega)
    have ht := tiny M
    refine ⟨_, pss_cons (ps_set (i := 1) scForm.nd rfl (Or.inl rfl) (pe_call GC (hr.mono (by decide)) rfl CD.g CD.F.kp CD.b .nil pass0 (pa_cons (pv 1) pa_nil)))
      (pss_cons (ps_if (pt_cmp (pc_dnotin (hu_of hr) (pv 1) (pe_fld (pv 0) rfl)))
        (pss_cons (ps_set (i := 2) scForm.nd rfl (Or.inl rfl) (pe_meth (pv 0) F0.cl mO GO hr bO .nil pass0 (pa_cons (pv 1) pa_nil)))
        (pss_one (ps_dput (hu_of hr) (pe_fld (pv 0) rfl) (pv 1) (pe_call GN (hr.mono (by decide)) rfl ND.g ND.F.kp ND.b .nil pass0 (pa_cons (pv 2) (pa_cons (pe_call GP (hr.mono (by decide)) rfl PD.g PD.F.kp PD.b .nil pass0 (pa_cons (pv 2) pa_nil)) pa_nil))) rfl))) pss_nil)
      (pss_one (ps_ret (pe_dget (hu_of hr) (pe_fld (pv 0) rfl) (pv 1) (fun _ _ => rfl))))), ?_⟩
    refine ⟨_, rfl, wd, rfl, hw.mono (by omega), by omega, fun H1 e1 => ?_⟩
    have hFA1 := hFA.mono e1
    obtain ⟨dx, a, kvs, Wl, h1, h2, h3, h4, h5, h6⟩ := id hFA1
    refine ⟨_, rfl, _, rfl, p, CF, dx, _, _, rfl, h4, F0.cl, F0.nK, fF_known _ _, kd, _, rfl, DGet.k (k := tk (Lf.cut wd)) h5, _, rfl, ?_⟩
    have fin : ∀ H2 kvs2 Wl2 (s2 : Option V), Frm [kd] H H2 → Ex HB H2 → H2 p = some (.ins CF dx (fF a kd)) → H2 kd = some (.dK kvs2) → KnownOk H2 k rows kvs2 Wl2 → Lf.cut wd ∈ Wl2 →
        tRet (tDGet (tFld K (tVar 0) "known") (tVar 1)) { nx := fun _ H' => Q .non H', rt := Q } [some (.ref p), some (.str (txt (Lf.cut wd))), s2] H2 := by
      intro H2 kvs2 Wl2 s2 fr eB hp2 hk2 ko hm
      obtain ⟨v, F, q1, q2, q3⟩ := ko.yes _ hm
      obtain ⟨b, bvs, rfl, hb, hbv⟩ := nis_tup.mp q3
      refine ⟨_, rfl, p, CF, dx, _, _, rfl, hp2, F0.cl, F0.nK, fF_known _ _, _, rfl, kd, .ref b, rfl, ?_, ?_⟩
      · have hg := DGet.k (k := tk (Lf.cut wd)) hk2
        rw [q1] at hg
        exact hg
      · exact q H2 b F fr ⟨dx, a, kvs2, Wl2, eB, h2, h3, hp2, hk2, ko⟩ q2.of_cut q3
    by_cases hm : Lf.cut wd ∈ Wl
    · obtain ⟨v, F, q1, q2, q3⟩ := h6.yes _ hm
      rw [q1]
      refine iteF ?_
      exact fin H1 kvs Wl _ (.of e1) h1 h4 h5 h6 hm
    · rw [h6.no _ hc16 hm]
      refine iteT ?_
      refine ⟨_, rfl, p, dx, _, rfl, h4, fF_no _ _ (by decide +kernel) (by decide +kernel), _, rfl, HB, p, kd, k, rows, Lf.cut wd, 3, rfl, hFA1, M, hcw, hcl, by omega, by omega, fun H2 rl rvs Wr e2 hrl hrn G hWr => ?_⟩
      have hlen : (rowsOf k (lsOf rows) Wr).length = Wr.length := rowsOf_len Wr
      have hpos : 0 < (rowsOf k (lsOf rows) Wr).length := by rw [hlen]; exact lt_of_get G.first
      refine ⟨_, rfl, _, rfl, rl, rvs, k, rowsOf k (lsOf rows) Wr, rfl, hrl, hrn, G.rowsOk, hpos, by omega, hk3, fun H3 ca cls e3 hca IC => ?_⟩
      refine ⟨rl, rvs, ca, k, rowsOf k (lsOf rows) Wr, cls, rfl, e3 _ _ hrl, NAll.mono (.of e3) _ _ hrn, G.rowsOk, hpos, by omega, hk3, hca, IC.len, fun H4 b F e4 hF IN => ?_⟩
      have e14 := e2.trans (e3.trans e4)
      have h54 := e14 _ _ h5
      have h44 := e14 _ _ h4
      refine ⟨_, rfl, p, CF, dx, _, _, rfl, h44, F0.cl, F0.nK, fF_known _ _, _, rfl, kd, _, rfl, DPut.k (k := tk (Lf.cut wd)) h54 (szlt (by have := h6.bound M; omega)), ?_⟩
      have ko := (h6.mono (.of e14)).put (by omega) hm ⟨hcw, hcr, hcl⟩ ⟨Wr, cls, G, IC, IN⟩ hF
      have hB0 : HB kd = none := h2
      have npk : p ≠ kd := ne_of h44 h54 (by intro z; cases z)
      refine fin _ _ _ _ (((Frm.of e1).trans (.of e14)).trans (Frm.upd (by simp))) (Ex.put (h1.trans e14) hB0) ?_ upd_same (ko.mono (TK.put h54 (by intro xs z; cases z))) (by simp)
      rw [upd_ne npk]
      exact h44
/-! ### Ball -/
structure TBl (K : PySem.W.Frag) (mg : Str → Option Value) (C : Addr) : Prop where
  cl : Cls K C
  nL : NoAttr K C "letters"
  nF : NoAttr K C "forms"
  nW : NoAttr K C "words"
  nN : NoAttr K C "numbers"
  nR : NoAttr K C "rings"
  g : mg "Ball" = some (.ref C)
/-- the numbers of words by their forms -/
structure BNum (k : Nat) (rows : Rows) (kvs : List (NestedKey × V)) (ws : List (List Nat)) (Fs : List (List Row)) : Prop where
  len : Fs.length = ws.length
  form : ∀ (i : Nat) (u : List Nat), ws[i]? = some u → ∃ F, Fs[i]? = some F ∧ IsForm k (2 * rows.length) (lsOf rows) u F
  wd : ∀ u ∈ ws, Wd (2 * rows.length) u
  klen : kvs.length = Fs.length
  val : ∀ F, valV kvs (formK F) = if F ∈ Fs then some (.int (Fs.idxOf F : Nat)) else none
theorem BNum.zero (k : Nat) (rows : Rows) : BNum k rows [] [] [] := ⟨rfl, fun i u h => by simp at h, (fun u h => nomatch h), rfl, fun F => rfl⟩
theorem BNum.mem {k : Nat} {rows : Rows} {kvs : List (NestedKey × V)} {ws : List (List Nat)} {Fs : List (List Row)} (M : MOk k rows) (B : BNum k rows kvs ws Fs) {wd : List Nat} {F : List Row} (hw : Wd (2 * rows.length) wd) (hF : IsForm k (2 * rows.length) (lsOf rows) wd F) :
    (F ∉ Fs ∧ ∀ v ∈ ws, ¬ Eq' k (lsOf rows) v wd) ∨ (F ∈ Fs ∧ ∃ v, ws[Fs.idxOf F]? = some v ∧ Eq' k (lsOf rows) v wd) := by
  by_cases hm : F ∈ Fs
  · refine .inr ⟨hm, ?_⟩
    have hl := List.idxOf_lt_length_of_mem hm
    have hl' : Fs.idxOf F < ws.length := by rw [← B.len]; exact hl
    obtain ⟨G, h1, h2⟩ := B.form _ _ (List.getElem?_eq_getElem hl')
    rw [List.getElem?_eq_getElem hl, List.getElem_idxOf] at h1
    cases h1
    refine ⟨_, List.getElem?_eq_getElem hl', ?_⟩
    exact (h2.iff M.ls (B.wd _ (List.getElem_mem hl')) hw hF).mp rfl
  · refine .inl ⟨hm, fun v hv e => hm ?_⟩
    obtain ⟨j, hj, rfl⟩ := List.getElem_of_mem hv
    obtain ⟨G, h1, h2⟩ := B.form _ _ (List.getElem?_eq_getElem hj)
    have := (h2.iff M.ls (B.wd _ hv) hw hF).mpr e
    rw [← this]
    exact List.mem_of_getElem? h1
theorem BNum.put {k : Nat} {rows : Rows} {kvs : List (NestedKey × V)} {ws : List (List Nat)} {Fs : List (List Row)} (B : BNum k rows kvs ws Fs) {wd : List Nat} {F : List Row} (hw : Wd (2 * rows.length) wd) (hF : IsForm k (2 * rows.length) (lsOf rows) wd F) (hn : F ∉ Fs) :
    BNum k rows (putK kvs (formK F) (.int (ws.length : Nat))) (ws ++ [wd]) (Fs ++ [F]) := by
  have hv := B.val F
  rw [if_neg hn] at hv
  refine ⟨by rw [List.length_append, List.length_append, B.len]; rfl, fun i u hu => ?_, fun u hu => ?_, ?_, fun G => ?_⟩
  · rcases Nat.lt_or_ge i ws.length with q | q
    · rw [List.getElem?_append_left q] at hu
      obtain ⟨G, h1, h2⟩ := B.form i u hu
      exact ⟨G, by rw [List.getElem?_append_left (by rw [B.len]; exact q)]; exact h1, h2⟩
    · have hi := (List.getElem?_eq_some_iff.mp hu).1
      rw [List.length_append, List.length_singleton] at hi
      have : i = ws.length := by omega
      subst this
      rw [List.getElem?_append_right (Nat.le_refl _)] at hu
      simp at hu
      subst hu
      refine ⟨F, ?_, hF⟩
      rw [List.getElem?_append_right (by rw [B.len]; exact Nat.le_refl _), B.len]
      simp
  · rcases List.mem_append.mp hu with q | q
    · exact B.wd u q
    · simp at q; rw [q]; exact hw
  · rw [putK_new _ hv, List.length_append, List.length_append, B.klen]; rfl
  · rw [valV_put]
    by_cases e : G = F
    · subst e
      rw [if_pos rfl, if_pos (by simp), List.idxOf_append, if_neg hn, ← B.len]
      simp
    · rw [if_neg (fun z => e (formK_inj z)), B.val G]
      by_cases hm : G ∈ Fs
      · rw [if_pos hm, if_pos (List.mem_append_left _ hm), List.idxOf_append, if_pos hm]
      · rw [if_neg hm, if_neg (by simp [hm, e])]
/-- where a ball's parts stand -/
structure BA where
  p : Addr
  fo : Addr
  kd : Addr
  wl : Addr
  nd : Addr
structure BallAt (P : Program) (w : World) (CA CF CB : Addr) (HB H : Hp) (B : BA) (fs : List (Str × V)) (k : Nat) (rows : Rows) (ws : List (List Nat)) : Prop where
  ins : ∃ dx, H B.p = some (.ins CB dx fs)
  lF : fs.lookup ("forms" : Str) = some (.ref B.fo)
  lW : fs.lookup ("words" : Str) = some (.ref B.wl)
  lN : fs.lookup ("numbers" : Str) = some (.ref B.nd)
  nA : fs.lookup ("add" : Str) = none
  nM : fs.lookup ("number_of" : Str) = none
  forms : FormsAt CA CF HB H B.fo B.kd k rows
  bW : HB B.wl = none
  bN : HB B.nd = none
  words : H B.wl = some (.lst (ws.map wdV))
  nums : ∃ kvs Fs, DN P w H B.nd kvs ∧ BNum k rows kvs ws Fs
abbrev BA.S (B : BA) : List Addr := [B.kd, B.nd, B.wl]
theorem BallAt.mono {CA CF CB : Addr} {HB H H' : Hp} {B : BA} {fs : List (Str × V)} {k : Nat} {rows : Rows} {ws : List (List Nat)} (h : BallAt P w CA CF CB HB H B fs k rows ws) (e : Ex H H') : BallAt P w CA CF CB HB H' B fs k rows ws := by
  obtain ⟨dx, hp⟩ := h.ins
  obtain ⟨kvs, Fs, h1, h2⟩ := h.nums
  exact ⟨⟨dx, e _ _ hp⟩, h.lF, h.lW, h.lN, h.nA, h.nM, h.forms.mono e, h.bW, h.bN, e _ _ h.words, kvs, Fs, h1.ex e, h2⟩
/-- behind a call of form: the dict of forms alone has changed -/
theorem BallAt.formed {CA CF CB : Addr} {HB H H' : Hp} {B : BA} {fs : List (Str × V)} {k : Nat} {rows : Rows} {ws : List (List Nat)} (h : BallAt P w CA CF CB HB H B fs k rows ws) (f : Frm [B.kd] H H') (g : FormsAt CA CF HB H' B.fo B.kd k rows) : BallAt P w CA CF CB HB H' B fs k rows ws := by
  obtain ⟨dx, hp⟩ := h.ins
  obtain ⟨kvs, Fs, h1, h2⟩ := h.nums
  obtain ⟨_, _, kk, _, _, _, _, _, hk, _⟩ := id h.forms
  have n1 : B.p ≠ B.kd := ne_of hp hk (by intro z; cases z)
  have n2 : B.wl ≠ B.kd := ne_of h.words hk (by intro z; cases z)
  have n3 : B.kd ≠ B.nd := h1.ne hk (by intro φ z; cases z)
  have t : TK H H' := fun a xs ha => f a _ (by simpa using ne_of ha hk (by intro z; cases z)) ha
  refine ⟨⟨dx, f _ _ (by simpa using n1) hp⟩, h.lF, h.lW, h.lN, h.nA, h.nM, g, h.bW, h.bN, f _ _ (by simpa using n2) h.words, kvs, Fs, h1.mono t fun φ q => f _ _ (by simpa using Ne.symm n3) q, h2⟩
def spAdd (P : Program) (w : World) (CA CF CB : Addr) : Sp := fun vs H Q _ => ∃ HB B fs k rows ws wd, vs = [.ref B.p, .str (txt wd)] ∧ BallAt P w CA CF CB HB H B fs k rows ws ∧ MOk k rows ∧ Wd (2 * rows.length) wd ∧ wd.length ≤ 3 ∧ ws.length ≤ 1000 ∧ (∀ v ∈ ws, ¬ Eq' k (lsOf rows) v wd) ∧
  ∀ H', Frm B.S H H' → BallAt P w CA CF CB HB H' B fs k rows (ws ++ [wd]) → Q .non H'
theorem scAdd : FnScope ["self", "word"] ["self", "word"] (defScope sBAdd) := ⟨rfl, rfl, rfl, by decide +kernel, rfl, by decide +kernel, by decide +kernel⟩
theorem ok_add {f fM CF CB : Addr} {fd fdM : FuncData} (D : Fun K "add" "Ball.add" sBAdd f fd) (F0 : TF K mg CF) (B0 : TBl K mg CB) (mM : Meth K CF "form" fM) (bM : Binds K fdM ["self", "word"] []) (GM : FnOk P w K mg base CX0 5 fM fdM ["self", "word"] (spForm C CF)) (T : TWords mg) : FnOk P w K mg base CX0 6 f fd ["self", "word"] (spAdd P w C CF CB) := by
  refine D.ok scAdd (fun vs H Q E h => ?_) (fun cdv Ar outer s H vs Q E hr h => ?_)
  · obtain ⟨_, _, _, _, _, _, _, rfl, _⟩ := h; rfl
  · obtain ⟨HB, B, fs, k, rows, ws, wd, rfl, BB, M, hw, hwl, hws, hnew, q⟩ := h
    refine ⟨_, pss_cons (ps_dnput hr.units (pe_fld (pv 0) rfl) (pe_meth (pe_fld (pv 0) rfl) F0.cl mM GM hr bM .nil pass0 (pa_cons (pv 1) pa_nil)) (pe_callB call_len (by rfl) T.len PySem.boot_len (pa_cons (pe_fld (pv 0) rfl) pa_nil)) rfl)
      (pss_one (ps_expr (pe_bm PySem.F.plainAttrs_list PySem.F.slot_list_append PySem.F.type_list_append mt_append (pe_fld (pv 0) rfl) (pa_cons (pv 1) pa_nil)))), ?_⟩
    obtain ⟨dx, hp⟩ := BB.ins
    obtain ⟨fdx, fa, fk, fW, _, _, _, hfo, _, _⟩ := id BB.forms
    refine ⟨_, rfl, B.p, CB, dx, _, _, rfl, hp, B0.cl, B0.nW, BB.lW, _, _, rfl, .inl ⟨_, SqL.of BB.words, rfl⟩, _, rfl, B.p, CB, dx, _, _, rfl, hp, B0.cl, B0.nN, BB.lN, _, rfl, B.p, CB, dx, _, _, rfl, hp, B0.cl, B0.nF, BB.lF, B.fo, fdx, _, rfl, hfo, fF_no _ _ (by decide +kernel) (by decide +kernel), _, rfl, HB, B.fo, B.kd, k, rows, wd, rfl, BB.forms, M, hw, hwl, fun H1 a F fr FA hF hnis => ?_⟩
    have BB1 := BB.formed fr FA
    obtain ⟨kvs, Fs, dn, bn⟩ := BB1.nums
    have hnF : F ∉ Fs := by
      rcases bn.mem M hw hF with h | ⟨_, v, h1, h2⟩
      · exact h.1
      · exact absurd h2 (hnew v (List.mem_of_getElem? h1))
    refine ⟨B.nd, kvs, formK F, a, rfl, rfl, dn, hnis, depth_form F, szlt (by rw [bn.klen, bn.len]; omega), fun H2 hs2 dn2 => ?_⟩
    have nwn : B.wl ≠ B.nd := dn.ne BB1.words (by intro φ z; cases z)
    have hnt : ∀ xs, H1 B.nd ≠ some (.tup xs) := fun xs z => by
      obtain ⟨φ, h⟩ := dn.ext
      rw [h] at z
      cases z
    obtain ⟨dx1, hp1⟩ := BB1.ins
    have npn : B.p ≠ B.nd := dn.ne hp1 (by intro φ z; cases z)
    have w2 : H2 B.wl = some (.lst (ws.map wdV)) := by rw [hs2 _ nwn]; exact BB1.words
    have p2 : H2 B.p = some (.ins CB dx1 fs) := by rw [hs2 _ npn]; exact hp1
    have FA2 : FormsAt C CF HB H2 B.fo B.kd k rows := by
      obtain ⟨x1, x2, x3, x4, y1, y2, y3, y4, y5, y6⟩ := FA
      refine ⟨x1, x2, x3, x4, same_ex y1 hs2 BB.bN, y2, y3, ?_, ?_, y6.mono (same_tk hs2 hnt)⟩
      · rw [hs2 _ (dn.ne y4 (by intro φ z; cases z))]; exact y4
      · rw [hs2 _ (dn.ne y5 (by intro φ z; cases z))]; exact y5
    rw [List.length_map] at dn2
    refine ⟨_, rfl, B.p, CB, dx1, _, _, rfl, p2, B0.cl, B0.nW, BB.lW, .inl ⟨rfl, _, SqL.of w2⟩, _, rfl, B.wl, _, _, rfl, rfl, w2, szlt (by rw [List.length_map]; omega), ?_⟩
    have npw : B.p ≠ B.wl := ne_of p2 w2 (by intro z; cases z)
    have ntw : ∀ xs, H2 B.wl ≠ some (.tup xs) := fun xs z => by rw [w2] at z; cases z
    have nfw : B.wl ≠ B.fo := by
      obtain ⟨x1, x2, x3, x4, y1, y2, y3, y4, y5, y6⟩ := FA2
      exact ne_of w2 y4 (by intro z; cases z)
    have nkw : B.wl ≠ B.kd := by
      obtain ⟨x1, x2, x3, x4, y1, y2, y3, y4, y5, y6⟩ := FA2
      exact ne_of w2 y5 (by intro z; cases z)
    refine q _ ?_ ⟨⟨dx1, by rw [upd_ne npw]; exact p2⟩, BB.lF, BB.lW, BB.lN, BB.nA, BB.nM, FA2.other BB.bW nfw nkw ntw, BB.bW, BB.bN, ?_, _, _, dn2.put nwn ntw, bn.put hw hF hnF⟩
    · exact ((fr.mono (by simp)).trans (Frm.same hs2 (by simp))).trans (Frm.upd (by simp))
    · rw [upd_same, List.map_append]; rfl
def spNumOf (P : Program) (w : World) (CA CF CB : Addr) : Sp := fun vs H Q _ => ∃ HB B fs k rows ws wd, vs = [.ref B.p, .str (txt wd)] ∧ BallAt P w CA CF CB HB H B fs k rows ws ∧ MOk k rows ∧ Wd (2 * rows.length) wd ∧ wd.length ≤ 3 ∧
  ∀ H' (r : Int), Frm B.S H H' → BallAt P w CA CF CB HB H' B fs k rows ws → ((r = -1 ∧ ∀ v ∈ ws, ¬ Eq' k (lsOf rows) v wd) ∨ ∃ (j : Nat) (v : List Nat), r = j ∧ ws[j]? = some v ∧ Eq' k (lsOf rows) v wd) → Q (.int r) H'
theorem scNumOf : FnScope ["self", "word"] ["self", "word"] (defScope sBNum) := ⟨rfl, rfl, rfl, by decide +kernel, rfl, by decide +kernel, by decide +kernel⟩
theorem ok_numOf {f fM CF CB : Addr} {fd fdM : FuncData} (D : Fun K "number_of" "Ball.number_of" sBNum f fd) (F0 : TF K mg CF) (B0 : TBl K mg CB) (mM : Meth K CF "form" fM) (bM : Binds K fdM ["self", "word"] []) (GM : FnOk P w K mg base CX0 5 fM fdM ["self", "word"] (spForm C CF)) : FnOk P w K mg base CX0 6 f fd ["self", "word"] (spNumOf P w C CF CB) := by
  refine D.ok scNumOf (fun vs H Q E h => ?_) (fun cdv Ar outer s H vs Q E hr h => ?_)
  · obtain ⟨_, _, _, _, _, _, _, rfl, _⟩ := h; rfl
  · obtain ⟨HB, B, fs, k, rows, ws, wd, rfl, BB, M, hw, hwl, q⟩ := h
    refine ⟨_, pss_one (ps_ret (pe_dnget hr.units (pe_fld (pv 0) rfl) (pe_meth (pe_fld (pv 0) rfl) F0.cl mM GM hr bM .nil pass0 (pa_cons (pv 1) pa_nil)) (pe_un un_neg pe_int) ⟨rfl, rfl, rfl, rfl⟩)), ?_⟩
    obtain ⟨dx, hp⟩ := BB.ins
    obtain ⟨fdx, fa, fk, fW, _, _, _, hfo, _, _⟩ := id BB.forms
    obtain ⟨kvs, Fs, dn, bn⟩ := BB.nums
    refine ⟨_, rfl, B.p, CB, dx, _, _, rfl, hp, B0.cl, B0.nN, BB.lN, B.nd, rfl, ⟨_, dn⟩, _, rfl, B.p, CB, dx, _, _, rfl, hp, B0.cl, B0.nF, BB.lF, B.fo, fdx, _, rfl, hfo, fF_no _ _ (by decide +kernel) (by decide +kernel), _, rfl, HB, B.fo, B.kd, k, rows, wd, rfl, BB.forms, M, hw, hwl, fun H1 a F fr FA hF hnis => ?_⟩
    have BB1 := BB.formed fr FA
    obtain ⟨kvs, Fs, dn, bn⟩ := BB1.nums
    refine ⟨1, rfl, kvs, formK F, a, rfl, dn, hnis, depth_form F, ?_⟩
    rw [bn.val]
    have frm : Frm B.S H H1 := fr.mono (by simp)
    rcases bn.mem M hw hF with ⟨h1, h2⟩ | ⟨h1, v, h2, h3⟩
    · rw [if_neg h1]
      exact q H1 (-1) frm BB1 (.inl ⟨rfl, h2⟩)
    · rw [if_pos h1]
      exact q H1 _ frm BB1 (.inr ⟨_, v, rfl, h2, h3⟩)
end
end Lw
set_option Elab.async false
set_option linter.all false
set_option maxRecDepth 100000
set_option maxHeartbeats 4000000
namespace Lw
open PySem L2 Evl Lf
section
variable {P : Program} {w : World} {K : PySem.W.Frag} {mg : Str → Option Value} {base : Heap} {C : Addr}
theorem BallAt.dne {CA CF CB : Addr} {HB H : Hp} {B : BA} {fs : List (Str × V)} {k : Nat} {rows : Rows} {ws : List (List Nat)} (h : BallAt P w CA CF CB HB H B fs k rows ws) {z : Addr} {o : HO} (hz : H z = some o) (ho : ∀ φ, o ≠ .ext φ) : z ≠ B.nd := by
  obtain ⟨kvs, Fs, h1, h2⟩ := h.nums
  exact h1.ne hz ho
/-- another list is changed -/
theorem BallAt.other {CA CF CB : Addr} {HB H : Hp} {B : BA} {fs : List (Str × V)} {k : Nat} {rows : Rows} {ws : List (List Nat)} (h : BallAt P w CA CF CB HB H B fs k rows ws) {z : Addr} {xs : List V} (hz : H z = some (.lst xs)) (hB : HB z = none) (hw : z ≠ B.wl) (o : HO) : BallAt P w CA CF CB HB (upd H z o) B fs k rows ws := by
  obtain ⟨dx, hp⟩ := h.ins
  obtain ⟨kvs, Fs, h1, h2⟩ := h.nums
  have ht : ∀ ys, H z ≠ some (.tup ys) := fun ys q => by rw [hz] at q; cases q
  have n1 : z ≠ B.p := ne_of hz hp (by intro q; cases q)
  have n2 : z ≠ B.nd := h.dne hz (by intro φ q; cases q)
  obtain ⟨x1, x2, x3, x4, y1, y2, y3, y4, y5, y6⟩ := id h.forms
  have n3 : z ≠ B.fo := ne_of hz y4 (by intro q; cases q)
  have n4 : z ≠ B.kd := ne_of hz y5 (by intro q; cases q)
  exact ⟨⟨dx, by rw [upd_ne (Ne.symm n1)]; exact hp⟩, h.lF, h.lW, h.lN, h.nA, h.nM, h.forms.other hB n3 n4 ht, h.bW, h.bN, by rw [upd_ne (Ne.symm hw)]; exact h.words, kvs, Fs, h1.put n2 ht, h2⟩
/-- the rings' lists -/
def RingsAt (H : Hp) (rl wl : Addr) (k : Nat) (rows : Rows) (n : Nat) : Prop :=
  ∃ rvs, H rl = some (.lst rvs) ∧ rl ≠ wl ∧ rvs.length = n + 1 ∧ ∀ i, i ≤ n → ∃ ri, rvs[i]? = some (.ref ri) ∧ H ri = some (.lst ((rg k (2 * rows.length) (lsOf rows) i).map wdV)) ∧ ri ≠ wl ∧ ri ≠ rl
theorem BallAt.keep {CA CF CB : Addr} {HB H H' : Hp} {B : BA} {fs : List (Str × V)} {k : Nat} {rows : Rows} {ws : List (List Nat)} (h : BallAt P w CA CF CB HB H B fs k rows ws) (f : Frm B.S H H') {z : Addr} {xs : List V} (hz : H z = some (.lst xs)) (hw : z ≠ B.wl) : H' z = some (.lst xs) := by
  obtain ⟨x1, x2, x3, x4, y1, y2, y3, y4, y5, y6⟩ := id h.forms
  refine f _ _ ?_ hz
  simp only [List.mem_cons, List.not_mem_nil, or_false, not_or]
  exact ⟨ne_of hz y5 (by intro q; cases q), h.dne hz (by intro φ q; cases q), hw⟩
theorem BallAt.keepI {CA CF CB : Addr} {HB H H' : Hp} {B : BA} {fs : List (Str × V)} {k : Nat} {rows : Rows} {ws : List (List Nat)} (h : BallAt P w CA CF CB HB H B fs k rows ws) (f : Frm B.S H H') {z c dx : Addr} {xs : List (Str × V)} (hz : H z = some (.ins c dx xs)) : H' z = some (.ins c dx xs) := by
  obtain ⟨x1, x2, x3, x4, y1, y2, y3, y4, y5, y6⟩ := id h.forms
  refine f _ _ ?_ hz
  simp only [List.mem_cons, List.not_mem_nil, or_false, not_or]
  exact ⟨ne_of hz y5 (by intro q; cases q), h.dne hz (by intro φ q; cases q), ne_of hz h.words (by intro q; cases q)⟩
theorem RingsAt.keep {CA CF CB : Addr} {HB H H' : Hp} {B : BA} {fs : List (Str × V)} {k : Nat} {rows : Rows} {ws : List (List Nat)} (h : BallAt P w CA CF CB HB H B fs k rows ws) (f : Frm B.S H H') {rl : Addr} {n : Nat} (r : RingsAt H rl B.wl k rows n) : RingsAt H' rl B.wl k rows n := by
  obtain ⟨rvs, h1, h2, h3, h4⟩ := r
  refine ⟨rvs, h.keep f h1 h2, h2, h3, fun i hi => ?_⟩
  obtain ⟨ri, q1, q2, q3, q4⟩ := h4 i hi
  exact ⟨ri, q1, h.keep f q2 q3, q3, q4⟩
def bF4 (n : Nat) (B : BA) : List (Str × V) := putF "numbers" (.ref B.nd) (putF "words" (.ref B.wl) (putF "forms" (.ref B.fo) (putF "letters" (.str (txt (List.range n))) [])))
def bF (n : Nat) (B : BA) (rl : Addr) : List (Str × V) := putF "rings" (.ref rl) (bF4 n B)
structure Full (P : Program) (w : World) (CA CF CB : Addr) (HB H : Hp) (B : BA) (rl : Addr) (k : Nat) (rows : Rows) (n : Nat) : Prop where
  ball : BallAt P w CA CF CB HB H B (bF (2 * rows.length) B rl) k rows (bl k (2 * rows.length) (lsOf rows) n)
  bR : HB rl = none
  rings : RingsAt H rl B.wl k rows n
theorem bF4_forms (n : Nat) (B : BA) : (bF4 n B).lookup ("forms" : Str) = some (.ref B.fo) := by
  unfold bF4; rw [lookup_putF, if_neg (by decide +kernel), lookup_putF, if_neg (by decide +kernel), lookup_putF, if_pos rfl]
theorem bF4_words (n : Nat) (B : BA) : (bF4 n B).lookup ("words" : Str) = some (.ref B.wl) := by
  unfold bF4; rw [lookup_putF, if_neg (by decide +kernel), lookup_putF, if_pos rfl]
theorem bF4_numbers (n : Nat) (B : BA) : (bF4 n B).lookup ("numbers" : Str) = some (.ref B.nd) := by
  unfold bF4; rw [lookup_putF, if_pos rfl]
theorem bF4_letters (n : Nat) (B : BA) : (bF4 n B).lookup ("letters" : Str) = some (.str (txt (List.range n))) := by
  unfold bF4; rw [lookup_putF, if_neg (by decide +kernel), lookup_putF, if_neg (by decide +kernel), lookup_putF, if_neg (by decide +kernel), lookup_putF, if_pos rfl]
theorem bF4_no (n : Nat) (B : BA) {m : Str} (h1 : ¬ m = "letters") (h2 : ¬ m = "forms") (h3 : ¬ m = "words") (h4 : ¬ m = "numbers") : (bF4 n B).lookup m = none := by
  unfold bF4; rw [lookup_putF, if_neg h4, lookup_putF, if_neg h3, lookup_putF, if_neg h2, lookup_putF, if_neg h1]; rfl
theorem bF_old (n : Nat) (B : BA) (rl : Addr) {m : Str} (h : ¬ m = "rings") : (bF n B rl).lookup m = (bF4 n B).lookup m := by
  unfold bF; rw [lookup_putF, if_neg h]
theorem bF_rings (n : Nat) (B : BA) (rl : Addr) : (bF n B rl).lookup ("rings" : Str) = some (.ref rl) := by
  unfold bF; rw [lookup_putF, if_pos rfl]
theorem bF_no (n : Nat) (B : BA) (rl : Addr) {m : Str} (h1 : ¬ m = "letters") (h2 : ¬ m = "forms") (h3 : ¬ m = "words") (h4 : ¬ m = "numbers") (h5 : ¬ m = "rings") : (bF n B rl).lookup m = none := by
  rw [bF_old _ _ _ h5, bF4_no _ _ h1 h2 h3 h4]
theorem Frm.new {S : List Addr} {H H' : Hp} {z : Addr} {o : HO} (f : Frm S H H') (h : H z = none) : Frm S H (L2.upd H' z o) := fun b u hb q => by
  rw [upd_ne (ne_of_none q h)]; exact f b u hb q
theorem atI_back {xs : List V} {n : Nat} {v : V} (h : xs.length = n + 1) (g : xs[n]? = some v) : atI xs (-1) = some v := by
  rcases snoc_cases xs with rfl | ⟨m, a, rfl⟩
  · simp at h
  · have : m.length = n := by simpa using h
    subst this
    simp at g
    subst g
    exact atI_last _ _
def spGrow (P : Program) (w : World) (CA CF CB : Addr) : Sp := fun vs H Q _ => ∃ HB B rl k rows n, vs = [.ref B.p] ∧ Full P w CA CF CB HB H B rl k rows n ∧ MOk k rows ∧ n + 1 ≤ 3 ∧
  ∀ H', Frm (rl :: B.S) H H' → Full P w CA CF CB HB H' B rl k rows (n + 1) → Q .non H'
abbrev nGrow : List Str := ["self", "ring", "word", "letter", "longer"]
theorem scGrow : FnScope nGrow ["self"] (defScope sBGrow) := ⟨rfl, rfl, rfl, by decide +kernel, rfl, by decide +kernel, by decide +kernel⟩
theorem ok_grow {f fC fN fA CF CB : Addr} {fd fdC fdN fdA : FuncData} (D : Fun K "grow" "Ball.grow" sBGrow f fd) (B0 : TBl K mg CB) (CD : Df K mg "cut" sCut ["word"] fC fdC) (GC : FnOk P w K mg base CX0 2 fC fdC ["word"] spCut)
    (mN : Meth K CB "number_of" fN) (bN : Binds K fdN ["self", "word"] []) (GN : FnOk P w K mg base CX0 6 fN fdN ["self", "word"] (spNumOf P w C CF CB))
    (mA : Meth K CB "add" fA) (bA : Binds K fdA ["self", "word"] []) (GA : FnOk P w K mg base CX0 6 fA fdA ["self", "word"] (spAdd P w C CF CB)) (T : TWords mg) : FnOk P w K mg base CX0 7 f fd ["self"] (spGrow P w C CF CB) := by
  refine D.ok scGrow (fun vs H Q E h => ?_) (fun cdv Ar outer s H vs Q E hr h => ?_)
  · obtain ⟨_, _, _, _, _, _, rfl, _⟩ := h; rfl
  · obtain ⟨HB, B, rl, k, rows, n, rfl, FU, M, hn, q⟩ := h
    obtain ⟨t1, m1⟩ := T.mostG
    have S := M.ls
    have hL := M.le6
    have hbd : (bl k (2 * rows.length) (lsOf rows) (n + 1)).length ≤ 187 := Nat.le_trans (bl_bound S (n + 1)) (allRed_tiny ⟨by have := M.n1; have := M.n3; omega, hn⟩)
    refine ⟨_, pss_cons (ps_set (i := 1) scGrow.nd rfl (Or.inl rfl) (pe_lst pa_nil))
      (pss_cons (ps_for PassesOwn.never rfl (pi_list (pe_ix ix_list (pe_fld (pv 0) rfl) (pe_un un_neg pe_int) (fun _ _ => rfl))) (pg_name (i := 2) scGrow.nd rfl (Or.inl rfl))
        (pss_one (ps_for PassesOwn.never rfl (pi_str (pe_fld (pv 0) rfl)) (pg_name (i := 3) scGrow.nd rfl (Or.inl rfl))
          (pss_cons (ps_set (i := 4) scGrow.nd rfl (Or.inl rfl) (pe_op op_add_str (pv 2) (pv 3)))
          (pss_one (ps_if (PW.pt (pw_and (pt_cmpR op_eq (pe_callB call_len (by rfl) T.len PySem.boot_len (pa_cons (pe_call GC (hr.mono (by decide)) rfl CD.g CD.F.kp CD.b .nil pass0 (pa_cons (pv 4) pa_nil)) pa_nil)) (pe_callB call_len (by rfl) T.len PySem.boot_len (pa_cons (pv 4) pa_nil)) (nomark _))
              (pw_and1 (pt_cmpR op_lt (pe_meth (pv 0) B0.cl mN GN hr bN .nil pass0 (pa_cons (pv 4) pa_nil)) pe_int (nomark _)))))
            (pss_cons (ps_expr (pe_meth (pv 0) B0.cl mA GA hr bA .nil pass0 (pa_cons (pv 4) pa_nil)))
            (pss_cons (ps_expr (pe_bm PySem.F.plainAttrs_list PySem.F.slot_list_append PySem.F.type_list_append mt_append (pv 1) (pa_cons (pv 4) pa_nil)))
            (pss_one (ps_if (pt_cmpR op_gt (pe_callB call_len (by rfl) T.len PySem.boot_len (pa_cons (pe_fld (pv 0) rfl) pa_nil)) (pe_glob (v := .int 600) rfl m1 ⟨_, rfl⟩) (nomark _)) pss_never pss_nil)))) pss_nil))))))
      (pss_one (ps_expr (pe_bm PySem.F.plainAttrs_list PySem.F.slot_list_append PySem.F.type_list_append mt_append (pe_fld (pv 0) rfl) (pa_cons (pv 1) pa_nil))))), ?_⟩
    obtain ⟨dx, hp⟩ := FU.ball.ins
    obtain ⟨rvs, hrl, hrw, hrn, hri⟩ := id FU.rings
    obtain ⟨r0, g1, g2, g3, g4⟩ := hri n (Nat.le_refl _)
    refine ⟨Nat.zero_le _, fun ra hra => ?_⟩
    have e1 : Ex H (upd H ra (.lst [])) := Ex.new hra
    have nrr : ∀ {z o}, H z = some o → ra ≠ z := fun hz => Ne.symm (ne_of_none hz hra)
    obtain ⟨fdx, fa, fk, fW, eB, _, _, _, _, _⟩ := id FU.ball.forms
    have hBr : HB ra = none := fresh_back eB hra
    refine ⟨_, rfl, B.p, CB, dx, _, _, rfl, e1 _ _ hp, B0.cl, B0.nR, bF_rings _ _ _, 1, rfl, rl, _, -1, .ref r0, rfl, rfl, SqL.of (e1 _ _ hrl), ?_, r0, rfl, ⟨_, SqL.of (e1 _ _ g2)⟩, ?_⟩
    · exact atI_back hrn g1
    refine for_it walk_list (fun i σ H' => ∃ v2 v3 v4, σ = [some (.ref B.p), some (.ref ra), v2, v3, v4] ∧ Frm B.S H H' ∧ BallAt P w C CF CB HB H' B (bF (2 * rows.length) B rl) k rows (bl k (2 * rows.length) (lsOf rows) n ++ ((rg k (2 * rows.length) (lsOf rows) n).take i).flatMap (kids k (2 * rows.length) (lsOf rows))) ∧ H' ra = some (.lst ((((rg k (2 * rows.length) (lsOf rows) n).take i).flatMap (kids k (2 * rows.length) (lsOf rows))).map wdV)))
      ⟨none, none, none, rfl, .of e1, by simpa using FU.ball.mono e1, by rw [upd_same]; rfl⟩ (fun _ _ H' _ ⟨_, _, _, _, fr, _, _⟩ => SqL.of (FU.ball.keep fr g2 g3)) ?_ ?_
    · rintro i x σ H1 H2 hi ⟨v2, v3, v4, rfl, fr, BB, hR⟩ ⟨rfl, hx⟩
      rw [List.getElem?_map] at hx
      obtain ⟨wd, hwd, rfl⟩ : ∃ wd, (rg k (2 * rows.length) (lsOf rows) n)[i]? = some wd ∧ x = wdV wd := by
        cases q : (rg k (2 * rows.length) (lsOf rows) n)[i]? with
        | none => rw [q] at hx; cases hx
        | some cs => rw [q] at hx; exact ⟨cs, rfl, (Option.some.inj hx).symm⟩
      obtain ⟨w1, w2, w3⟩ := (mem_rg S).mp (List.mem_of_getElem? hwd)
      refine ⟨_, rfl, B.p, CB, dx, _, _, rfl, FU.ball.keepI fr hp, B0.cl, B0.nL, (by rw [bF_old _ _ _ (by decide +kernel)]; exact bF4_letters _ _), _, rfl, ?_⟩
      refine for_it (walk_txt _) (fun c σ H' => ∃ v3 v4, σ = [some (.ref B.p), some (.ref ra), some (wdV wd), v3, v4] ∧ Frm B.S H H' ∧ BallAt P w C CF CB HB H' B (bF (2 * rows.length) B rl) k rows (ahead k (2 * rows.length) (lsOf rows) n i wd c) ∧ H' ra = some (.lst ((((rg k (2 * rows.length) (lsOf rows) n).take i).flatMap (kids k (2 * rows.length) (lsOf rows)) ++ kidsTo k (2 * rows.length) (lsOf rows) wd c).map wdV)))
        ⟨v3, v4, rfl, fr, by rw [ahead_zero]; exact BB, by rw [kidsTo_zero, List.append_nil]; exact hR⟩ (fun _ _ _ _ _ => True.intro) ?_ ?_
      · rintro c x σ H3 H4 hc ⟨v3, v4, rfl, fr3, B3, h3⟩ ⟨rfl, c', hc', rfl⟩
        have hcL : c < 2 * rows.length := by simpa using hc
        obtain rfl : c = c' := by
          rw [List.getElem?_range hcL] at hc'
          exact Option.some.inj hc'
        have hlw : Wd (2 * rows.length) (wd ++ [c]) := w1.append (Wd.one hcL)
        have hll : (wd ++ [c]).length ≤ 3 := by simp; omega
        have hc16 : Wd 16 (wd ++ [c]) := hlw.mono (by omega)
        refine ⟨_, rfl, _, rfl, _, _, rfl, rfl, ?_, ?_⟩
        · rw [txt_len, txt_len]; exact sz100 (by simp; omega)
        rw [← txt_append]
        refine ⟨_, rfl, wd ++ [c], rfl, hc16, by omega, fun H5 e5 => ?_⟩
        have hcut := cut_len (wd ++ [c])
        have fr5 : Frm B.S H H5 := fr3.trans (.of e5)
        have B5 := B3.mono e5
        have h5 := e5 _ _ h3
        have hLI := least_iff S hwd hcL
        have hno : ∀ H6 v4, ¬ Least k (2 * rows.length) (lsOf rows) (wd ++ [c]) → Frm B.S H5 H6 → BallAt P w C CF CB HB H6 B (bF (2 * rows.length) B rl) k rows (ahead k (2 * rows.length) (lsOf rows) n i wd c) → ∃ v3 v4', [some (V.ref B.p), some (V.ref ra), some (wdV wd), some (V.str (txt [c])), v4] = [some (.ref B.p), some (.ref ra), some (wdV wd), v3, v4'] ∧ Frm B.S H H6 ∧ BallAt P w C CF CB HB H6 B (bF (2 * rows.length) B rl) k rows (ahead k (2 * rows.length) (lsOf rows) n i wd (c + 1)) ∧ H6 ra = some (.lst ((((rg k (2 * rows.length) (lsOf rows) n).take i).flatMap (kids k (2 * rows.length) (lsOf rows)) ++ kidsTo k (2 * rows.length) (lsOf rows) wd (c + 1)).map wdV)) :=
          fun H6 v4 hl f6 b6 => ⟨_, _, rfl, fr5.trans f6, by rw [ahead_no hl]; exact b6, by rw [kidsTo_no hl]; exact B5.keep f6 h5 (nrr FU.ball.words)⟩
        refine ⟨_, _, rfl, ⟨by rw [txt_len]; exact sz100 (by omega), rfl⟩, _, rfl, _, _, rfl, ⟨by rw [txt_len]; exact sz100 (by omega), rfl⟩, rfl, _, rfl, ?_⟩
        rw [dec_nat, txt_len, txt_len]
        refine iteD (fun hq => ?_) (fun hq => ?_)
        · refine ⟨_, rfl, B.p, dx, _, rfl, FU.ball.keepI fr5 hp, bF_no _ _ _ (by decide +kernel) (by decide +kernel) (by decide +kernel) (by decide +kernel) (by decide +kernel), _, rfl, HB, B, _, k, rows, _, wd ++ [c], rfl, B5, M, hlw, hll, fun H6 r fr6 B6 hr6 => ?_⟩
          refine ⟨_, _, rfl, rfl, _, rfl, ?_⟩
          rcases hr6 with ⟨rfl, hnew⟩ | ⟨j, v, rfl, hv, he⟩
          · have hL' : Least k (2 * rows.length) (lsOf rows) (wd ++ [c]) := hLI.mpr ⟨hq, hnew⟩
            refine iteT ?_
            have hal := ahead_len hwd (Nat.le_of_lt hcL)
            have fr06 := fr5.trans fr6
            have h6 := B5.keep fr6 h5 (nrr FU.ball.words)
            refine ⟨_, rfl, B.p, dx, _, rfl, FU.ball.keepI fr06 hp, bF_no _ _ _ (by decide +kernel) (by decide +kernel) (by decide +kernel) (by decide +kernel) (by decide +kernel), _, rfl, HB, B, _, k, rows, _, wd ++ [c], rfl, B6, M, hlw, hll, by omega, hnew, fun H7 fr7 B7 => ?_⟩
            have h7 := B6.keep fr7 h6 (nrr FU.ball.words)
            have fr07 := fr06.trans fr7
            rw [← ahead_yes hL'] at B7
            have hal' := ahead_len hwd (show c + 1 ≤ 2 * rows.length from hcL)
            have hrl : (((rg k (2 * rows.length) (lsOf rows) n).take i).flatMap (kids k (2 * rows.length) (lsOf rows)) ++ kidsTo k (2 * rows.length) (lsOf rows) wd c).length ≤ 187 := by
              have : ahead k (2 * rows.length) (lsOf rows) n i wd c = bl k (2 * rows.length) (lsOf rows) n ++ (((rg k (2 * rows.length) (lsOf rows) n).take i).flatMap (kids k (2 * rows.length) (lsOf rows)) ++ kidsTo k (2 * rows.length) (lsOf rows) wd c) := rfl
              rw [this, List.length_append] at hal
              omega
            refine ⟨_, rfl, .inl ⟨rfl, _, SqL.of h7⟩, _, rfl, ra, _, _, rfl, rfl, h7, szlt (by rw [List.length_map]; omega), ?_⟩
            have B8 := B7.other h7 hBr (nrr FU.ball.words) (.lst (((((rg k (2 * rows.length) (lsOf rows) n).take i).flatMap (kids k (2 * rows.length) (lsOf rows)) ++ kidsTo k (2 * rows.length) (lsOf rows) wd c).map wdV) ++ [.str (txt (wd ++ [c]))]))
            have fr8 := fr07.new (o := .lst (((((rg k (2 * rows.length) (lsOf rows) n).take i).flatMap (kids k (2 * rows.length) (lsOf rows)) ++ kidsTo k (2 * rows.length) (lsOf rows) wd c).map wdV) ++ [.str (txt (wd ++ [c]))])) hra
            refine ⟨_, rfl, B.p, CB, dx, _, _, rfl, FU.ball.keepI fr8 hp, B0.cl, B0.nW, B8.lW, _, _, rfl, .inl ⟨_, SqL.of B8.words, rfl⟩, _, _, rfl, rfl, _, rfl, ?_⟩
            rw [decide_eq_false (show ¬ ((600 : Int) < _) by rw [List.length_map]; omega)]
            refine iteF ?_
            refine ⟨_, _, rfl, fr8, B8, ?_⟩
            rw [upd_same, kidsTo_yes hL', List.map_append, List.map_append, List.map_append, List.append_assoc]
            rfl
          · have hL' : ¬ Least k (2 * rows.length) (lsOf rows) (wd ++ [c]) := fun z => (hLI.mp z).2 v (List.mem_of_getElem? hv) he
            rw [decide_eq_false (show ¬ ((j : Int) < 0) by omega)]
            refine iteF ?_
            exact hno H6 _ hL' fr6 B6
        · exact hno H5 _ (fun z => hq (hLI.mp z).1) (.of (Ex.refl _)) B5
      · rintro σ H3 ⟨v3, v4, rfl, fr3, B3, h3⟩
        rw [List.length_range, ahead_full hwd] at B3
        rw [List.length_range] at h3
        rw [← take_kids hwd] at h3
        exact ⟨_, _, _, rfl, fr3, B3, h3⟩
    · rintro σ H1 ⟨v2, v3, v4, rfl, fr, BB, hR⟩
      rw [List.length_map, kids_all] at BB hR
      rw [← bl_succ] at BB
      have hr1 := FU.ball.keep fr hrl hrw
      have nra : rl ≠ ra := Ne.symm (nrr hrl)
      have nbl : B.p ≠ rl := ne_of hp hrl (by intro z; cases z)
      refine ⟨_, rfl, B.p, CB, dx, _, _, rfl, FU.ball.keepI fr hp, B0.cl, B0.nR, bF_rings _ _ _, .inl ⟨rfl, _, SqL.of hr1⟩, _, rfl, rl, _, _, rfl, rfl, hr1, szlt (by omega), ?_⟩
      refine q _ ((fr.mono (fun b hb => List.mem_cons_of_mem _ hb)).trans (Frm.upd List.mem_cons_self)) ⟨BB.other hr1 FU.bR hrw _, FU.bR, _, upd_same, hrw, by simp; omega, fun j hj => ?_⟩
      by_cases e : j = n + 1
      · subst e
        refine ⟨ra, ?_, ?_, nrr FU.ball.words, Ne.symm nra⟩
        · rw [List.getElem?_append_right (by omega), hrn, Nat.sub_self]; rfl
        · rw [upd_ne (Ne.symm nra)]; exact hR
      · obtain ⟨ri, q1, q2, q3, q4⟩ := hri j (by omega)
        refine ⟨ri, ?_, ?_, q3, q4⟩
        · rw [List.getElem?_append_left (by omega)]; exact q1
        · rw [upd_ne q4]; exact FU.ball.keep fr q2 q3
end
end Lw
set_option Elab.async false
set_option linter.all false
set_option maxRecDepth 100000
set_option maxHeartbeats 4000000
namespace Lw
open PySem L2 Evl Lf
section
variable {P : Program} {w : World} {K : PySem.W.Frag} {mg : Str → Option Value} {base : Heap} {C : Addr}
/-- all but p -/
def wo (H : Hp) (p : Addr) : Hp := fun b => if b = p then none else H b
theorem wo_ex (H : Hp) (p : Addr) : Ex (wo H p) H := fun a o h => by
  unfold wo at h
  by_cases e : a = p
  · rw [if_pos e] at h; cases h
  · rw [if_neg e] at h; exact h
theorem wo_self (H : Hp) (p : Addr) : wo H p p = none := by unfold wo; rw [if_pos rfl]
theorem wo_ne {H : Hp} {p b : Addr} (e : b ≠ p) : wo H p b = H b := by unfold wo; rw [if_neg e]
theorem ex_wo {H0 H : Hp} {p : Addr} (e : Ex H0 H) (h : H0 p = none) : Ex H0 (wo H p) := fun a o ha => by
  rw [wo_ne (fun z => by rw [z, h] at ha; cases ha)]; exact e a o ha
/-- a field more -/
theorem BallAt.more {CA CF CB : Addr} {HB H : Hp} {B : BA} {fs : List (Str × V)} {k : Nat} {rows : Rows} {ws : List (List Nat)} (h : BallAt P w CA CF CB HB H B fs k rows ws) (hB : HB B.p = none) (dx : Addr) {m : Str} {v : V} (n1 : ¬ ("forms" : Str) = m) (n2 : ¬ ("words" : Str) = m) (n3 : ¬ ("numbers" : Str) = m) (n4 : ¬ ("add" : Str) = m) (n5 : ¬ ("number_of" : Str) = m) :
    BallAt P w CA CF CB HB (upd H B.p (.ins CB dx (putF m v fs))) B (putF m v fs) k rows ws := by
  obtain ⟨dx', hp⟩ := h.ins
  obtain ⟨kvs, Fs, h1, h2⟩ := h.nums
  have ht : ∀ ys, H B.p ≠ some (.tup ys) := fun ys q => by rw [hp] at q; cases q
  obtain ⟨x1, x2, x3, x4, y1, y2, y3, y4, y5, y6⟩ := id h.forms
  have npw : B.p ≠ B.wl := ne_of hp h.words (by intro q; cases q)
  have npk : B.p ≠ B.kd := ne_of hp y5 (by intro q; cases q)
  have npn : B.p ≠ B.nd := h.dne hp (by intro φ q; cases q)
  have npf : B.p ≠ B.fo := fun e => by
    have h1 := h.lF
    rw [e, y4] at hp
    cases hp
    have := h.lW
    rw [fF_no _ _ (by decide +kernel) (by decide +kernel)] at this
    cases this
  refine ⟨⟨dx, upd_same⟩, ?_, ?_, ?_, ?_, ?_, h.forms.other hB npf npk ht, h.bW, h.bN, by rw [upd_ne (Ne.symm npw)]; exact h.words, kvs, Fs, h1.put npn ht, h2⟩
  · rw [lookup_putF, if_neg n1]; exact h.lF
  · rw [lookup_putF, if_neg n2]; exact h.lW
  · rw [lookup_putF, if_neg n3]; exact h.lN
  · rw [lookup_putF, if_neg n4]; exact h.nA
  · rw [lookup_putF, if_neg n5]; exact h.nM
def spBInit (P : Program) (w : World) (CA CF CB : Addr) : Sp := fun vs H Q _ => ∃ H0 p dx v k rows, vs = [.ref p, v] ∧ Ex H0 H ∧ H0 p = none ∧ H p = some (.ins CB dx []) ∧ NIs H0 (machK k rows) v ∧ MOk k rows ∧
  ∀ HB H' B rl, B.p = p → Ex H0 HB → Ex H0 H' → Full P w CA CF CB HB H' B rl k rows 0 → Q .non H'
theorem scBInit : FnScope ["self", "machine"] ["self", "machine"] (defScope sBInit) := ⟨rfl, rfl, rfl, by decide +kernel, rfl, by decide +kernel, by decide +kernel⟩
theorem ok_bInit {f fL fI fA CF CB : Addr} {fd fdL fdI fdA : FuncData} (D : Fun K "__init__" "Ball.__init__" sBInit f fd) (F0 : TF K mg CF) (B0 : TBl K mg CB) (LD : Df K mg "letters_of" sLettersOf ["machine"] fL fdL)
    (MI : Mk K CF fI) (bI : Binds K fdI ["self", "machine"] []) (GI : FnOk P w K mg base CX0 3 fI fdI ["self", "machine"] (spFInit C CF))
    (mA : Meth K CB "add" fA) (bA : Binds K fdA ["self", "word"] []) (GA : FnOk P w K mg base CX0 6 fA fdA ["self", "word"] (spAdd P w C CF CB)) (T : TWords mg) : FnOk P w K mg base CX0 7 f fd ["self", "machine"] (spBInit P w C CF CB) := by
  have GL : FnOk P w K mg base CX0 1 fL fdL ["machine"] spLettersOf := ok_lettersOf LD T
  refine D.ok scBInit (fun vs H Q E h => ?_) (fun cdv Ar outer s H vs Q E hr h => ?_)
  · obtain ⟨_, _, _, _, _, _, rfl, _⟩ := h; rfl
  · obtain ⟨H0, p, dx, v, k, rows, rfl, e0, hp0, hp, hm, M, q⟩ := h
    have hL := M.le6
    refine ⟨_, pss_cons (ps_fld (pv 0) (pe_call GL (hr.mono (by decide)) rfl LD.g LD.F.kp LD.b .nil pass0 (pa_cons (pv 1) pa_nil)) rfl)
      (pss_cons (ps_fld (pv 0) (pe_make MI GI (hr.mono (by decide)) rfl F0.g bI .nil pass0 (pa_cons (pv 1) pa_nil)) rfl)
      (pss_cons (ps_fld (pv 0) (pe_lst pa_nil) rfl)
      (pss_cons (ps_fld (pv 0) pe_dnnew rfl)
      (pss_cons (ps_expr (pe_meth (pv 0) B0.cl mA GA hr bA .nil pass0 (pa_cons pe_str pa_nil)))
      (pss_one (ps_fld (pv 0) (pe_lst (pa_cons (pe_lst (pa_cons pe_str pa_nil)) pa_nil)) rfl)))))), ?_⟩
    refine ⟨_, rfl, v, k, rows, rfl, NIs.mono (.of e0) _ _ hm, by omega, ?_⟩
    refine ⟨_, rfl, p, CB, dx, _, rfl, hp, B0.cl, B0.nL, (by show 0 < 1000; decide), ?_⟩
    have e1 : Ex H0 (upd H p (.ins CB dx (putF "letters" (.str (txt (List.range (2 * rows.length)))) []))) := Ex.put e0 hp0
    have p1 : (upd H p (.ins CB dx (putF "letters" (.str (txt (List.range (2 * rows.length)))) []))) p = some (.ins CB dx (putF "letters" (.str (txt (List.range (2 * rows.length)))) [])) := upd_same
    generalize upd H p (.ins CB dx (putF "letters" (.str (txt (List.range (2 * rows.length)))) [])) = H1 at e1 p1
    have ew : Ex H0 (wo H1 p) := ex_wo e1 hp0
    refine ⟨_, rfl, fun x xdx hx hxdx nxdx => ?_⟩
    have npx : p ≠ x := ne_of_none p1 hx
    have npd : p ≠ xdx := ne_of_none p1 hxdx
    refine ⟨wo H1 p, x, xdx, v, k, rows, rfl, (wo_ex _ _).trans (made_ex hx hxdx), by rw [wo_ne (Ne.symm npx)]; exact hx, ?_, upd_same, NIs.mono (.of ew) _ _ hm, M, fun HB H2 kd eB hno frm hkd FA => ⟨rfl, ?_⟩⟩
    · intro b o h1 h2
      by_cases eb : b = p
      · subst eb
        rw [upd_ne npx, upd_ne npd, p1] at h2
        cases h2
        exact True.intro
      · rw [wo_ne eb] at h1
        by_cases ex : b = x
        · subst ex; rw [upd_same] at h2; cases h2; exact True.intro
        · rw [upd_ne ex] at h2
          by_cases ed : b = xdx
          · subst ed; rw [upd_same] at h2; cases h2; exact True.intro
          · rw [upd_ne ed, h1] at h2; cases h2
    have HBp : HB p = none := hno p (wo_self _ _) (by rw [upd_ne npx, upd_ne npd, p1]; intro z; cases z)
    have p2 : H2 p = some (.ins CB dx (putF "letters" (.str (txt (List.range (2 * rows.length)))) [])) := frm p _ (by simpa using npx) (by rw [upd_ne npx, upd_ne npd]; exact p1)
    have e0B : Ex H0 HB := ew.trans eB
    have nopt : ∀ {H' : Hp} {fs}, H' p = some (.ins CB dx fs) → ∀ xs, H' p ≠ some (.tup xs) := fun h xs z => by rw [h] at z; cases z
    have npk : p ≠ kd := by
      obtain ⟨x1, x2, x3, x4, y1, y2, y3, y4, y5, y6⟩ := id FA
      exact ne_of p2 y5 (by intro z; cases z)
    refine ⟨_, rfl, p, CB, dx, _, rfl, p2, B0.cl, B0.nF, (by show 1 < 1000; decide), ?_⟩
    have FA3 := FA.other (o := .ins CB dx (putF "forms" (.ref x) (putF "letters" (.str (txt (List.range (2 * rows.length)))) []))) HBp npx npk (nopt p2)
    have p3 : (upd H2 p (.ins CB dx (putF "forms" (.ref x) (putF "letters" (.str (txt (List.range (2 * rows.length)))) [])))) p = some (.ins CB dx (putF "forms" (.ref x) (putF "letters" (.str (txt (List.range (2 * rows.length)))) []))) := upd_same
    generalize upd H2 p (.ins CB dx (putF "forms" (.ref x) (putF "letters" (.str (txt (List.range (2 * rows.length)))) []))) = H3 at FA3 p3
    refine ⟨Nat.zero_le _, fun wl hwl => ?_⟩
    have eB3 : Ex HB H3 := by obtain ⟨x1, x2, x3, x4, y1, _⟩ := id FA3; exact y1
    have HBw : HB wl = none := fresh_back eB3 hwl
    have npw : p ≠ wl := ne_of_none p3 hwl
    have e34 : Ex H3 (upd H3 wl (.lst [])) := Ex.new hwl
    have w4 : (upd H3 wl (.lst [])) wl = some (.lst []) := upd_same
    generalize upd H3 wl (.lst []) = H4 at e34 w4
    have p4 := e34 _ _ p3
    refine ⟨_, rfl, p, CB, dx, _, rfl, p4, B0.cl, B0.nW, (by show 2 < 1000; decide), ?_⟩
    have FA5 := (FA3.mono e34).other (o := .ins CB dx (putF "words" (.ref wl) (putF "forms" (.ref x) (putF "letters" (.str (txt (List.range (2 * rows.length)))) [])))) HBp npx npk (nopt p4)
    have p5 : (upd H4 p (.ins CB dx (putF "words" (.ref wl) (putF "forms" (.ref x) (putF "letters" (.str (txt (List.range (2 * rows.length)))) []))))) p = some (.ins CB dx (putF "words" (.ref wl) (putF "forms" (.ref x) (putF "letters" (.str (txt (List.range (2 * rows.length)))) [])))) := upd_same
    have w5 : (upd H4 p (.ins CB dx (putF "words" (.ref wl) (putF "forms" (.ref x) (putF "letters" (.str (txt (List.range (2 * rows.length)))) []))))) wl = some (.lst []) := by rw [upd_ne (Ne.symm npw)]; exact w4
    generalize upd H4 p (.ins CB dx (putF "words" (.ref wl) (putF "forms" (.ref x) (putF "letters" (.str (txt (List.range (2 * rows.length)))) [])))) = H5 at FA5 p5 w5
    intro nd hnd H6 hs6 dn6
    have e56 : Ex H5 H6 := fun b o hb => by rw [hs6 b (ne_of_none hb hnd)]; exact hb
    have eB5 : Ex HB H5 := by obtain ⟨x1, x2, x3, x4, y1, _⟩ := id FA5; exact y1
    have HBn : HB nd = none := fresh_back eB5 hnd
    have p6 := e56 _ _ p5
    have w6 := e56 _ _ w5
    have npn : p ≠ nd := dn6.ne p6 (by intro φ z; cases z)
    refine ⟨_, rfl, p, CB, dx, _, rfl, p6, B0.cl, B0.nN, (by show 3 < 1000; decide), ?_⟩
    have hF : putF "numbers" (.ref nd) (putF "words" (.ref wl) (putF "forms" (.ref x) (putF "letters" (.str (txt (List.range (2 * rows.length)))) []))) = bF4 (2 * rows.length) ⟨p, x, kd, wl, nd⟩ := rfl
    rw [hF]
    have FA7 := (FA5.mono e56).other (o := .ins CB dx (bF4 (2 * rows.length) ⟨p, x, kd, wl, nd⟩)) HBp npx npk (nopt p6)
    have dn7 := dn6.put (o := .ins CB dx (bF4 (2 * rows.length) ⟨p, x, kd, wl, nd⟩)) npn (nopt p6)
    have p7 : (upd H6 p (.ins CB dx (bF4 (2 * rows.length) ⟨p, x, kd, wl, nd⟩))) p = some (.ins CB dx (bF4 (2 * rows.length) ⟨p, x, kd, wl, nd⟩)) := upd_same
    have w7 : (upd H6 p (.ins CB dx (bF4 (2 * rows.length) ⟨p, x, kd, wl, nd⟩))) wl = some (.lst []) := by rw [upd_ne (Ne.symm npw)]; exact w6
    generalize upd H6 p (.ins CB dx (bF4 (2 * rows.length) ⟨p, x, kd, wl, nd⟩)) = H7 at FA7 dn7 p7 w7
    have BB : BallAt P w C CF CB HB H7 ⟨p, x, kd, wl, nd⟩ (bF4 (2 * rows.length) ⟨p, x, kd, wl, nd⟩) k rows [] :=
      ⟨⟨dx, p7⟩, bF4_forms _ _, bF4_words _ _, bF4_numbers _ _, bF4_no _ _ (by decide +kernel) (by decide +kernel) (by decide +kernel) (by decide +kernel), bF4_no _ _ (by decide +kernel) (by decide +kernel) (by decide +kernel) (by decide +kernel), FA7, HBw, HBn, w7, [], [], dn7, BNum.zero k rows⟩
    refine ⟨_, rfl, p, dx, _, rfl, p7, bF4_no _ _ (by decide +kernel) (by decide +kernel) (by decide +kernel) (by decide +kernel), HB, ⟨p, x, kd, wl, nd⟩, _, k, rows, [], [], rfl, BB, M, Wd.nil, Nat.zero_le _, Nat.zero_le _, (fun v hv => nomatch hv), fun H8 fr8 B8 => ?_⟩
    have eB7 : Ex HB H7 := by obtain ⟨x1, x2, x3, x4, y1, _⟩ := id FA7; exact y1
    have eB8 : Ex HB H8 := by obtain ⟨x1, x2, x3, x4, y1, _⟩ := id B8.forms; exact y1
    have p8 := BB.keepI fr8 p7
    refine ⟨(by show 1 ≤ sizeLine; decide), fun ri hri => ⟨(by show 1 ≤ sizeLine; decide), fun rl hrl => ?_⟩⟩
    have e9 : Ex H8 (upd H8 ri (.lst [.str ""])) := Ex.new hri
    have r9 : (upd H8 ri (.lst [V.str ""])) ri = some (.lst [.str ""]) := upd_same
    have nwi : wl ≠ ri := ne_of_none B8.words hri
    generalize upd H8 ri (.lst [V.str ""]) = H9 at e9 r9 hrl
    have nil' : ri ≠ rl := ne_of_none r9 hrl
    have nwl : wl ≠ rl := ne_of_none (e9 _ _ B8.words) hrl
    have e10 : Ex H9 (upd H9 rl (.lst [.ref ri])) := Ex.new hrl
    have l10 : (upd H9 rl (.lst [V.ref ri])) rl = some (.lst [.ref ri]) := upd_same
    have HBrl : HB rl = none := fresh_back (eB8.trans e9) hrl
    generalize upd H9 rl (.lst [V.ref ri]) = H10 at e10 l10
    have e8_10 := e9.trans e10
    have p10 := e8_10 _ _ p8
    have r10 := e10 _ _ r9
    refine ⟨_, rfl, p, CB, dx, _, rfl, p10, B0.cl, B0.nR, (by show 4 < 1000; decide), ?_⟩
    have B11 := (B8.mono e8_10).more HBp dx (m := "rings") (v := .ref rl) (by decide +kernel) (by decide +kernel) (by decide +kernel) (by decide +kernel) (by decide +kernel)
    have npr : p ≠ rl := ne_of p10 l10 (by intro z; cases z)
    have npi : p ≠ ri := ne_of p10 r10 (by intro z; cases z)
    refine q HB _ ⟨p, x, kd, wl, nd⟩ rl rfl e0B ?_ ⟨?_, HBrl, [.ref ri], ?_, Ne.symm nwl, rfl, fun i hi => ⟨ri, ?_, ?_, Ne.symm nwi, nil'⟩⟩
    · exact Ex.put (e0B.trans (eB8.trans e8_10)) hp0
    · rw [bl_zero]; exact B11
    · rw [upd_ne (Ne.symm npr)]; exact l10
    · have : i = 0 := by omega
      subst this
      rfl
    · have : i = 0 := by omega
      subst this
      rw [upd_ne (Ne.symm npi)]
      exact r10
end
end Lw
set_option Elab.async false
set_option linter.all false
set_option maxRecDepth 100000
set_option maxHeartbeats 4000000
namespace Lw
open PySem L2 Evl Lf
section
variable {P : Program} {w : World} {K : PySem.W.Frag} {mg : Str → Option Value} {base : Heap} {C : Addr}
def spGrown (P : Program) (w : World) (CA CF CB : Addr) : Sp := fun vs H Q _ => ∃ v k rows, ∃ n : Nat, vs = [v, .int n] ∧ NIs H (machK k rows) v ∧ MOk k rows ∧ n ≤ 3 ∧
  ∀ HB H' B rl, Ex H HB → Ex H H' → Full P w CA CF CB HB H' B rl k rows n → Q (.ref B.p) H'
theorem Frm.known {S : List Addr} {H0 HB H H' : Hp} (e0 : Ex H0 H) (f : Frm S H H') (eB : Ex H0 HB) (h : ∀ b ∈ S, HB b = none) : Ex H0 H' := f.ex e0 fun b hb => fresh_back eB (h b hb)
theorem Full.bS {CA CF CB : Addr} {HB H : Hp} {B : BA} {rl : Addr} {k : Nat} {rows : Rows} {n : Nat} (h : Full P w CA CF CB HB H B rl k rows n) : ∀ b ∈ rl :: B.S, HB b = none := fun b hb => by
  obtain ⟨x1, x2, x3, x4, y1, y2, y3, y4, y5, y6⟩ := id h.ball.forms
  simp only [List.mem_cons, List.not_mem_nil, or_false] at hb
  rcases hb with rfl | rfl | rfl | rfl
  · exact h.bR
  · exact y2
  · exact h.ball.bN
  · exact h.ball.bW
abbrev nGrown : List Str := ["machine", "length", "found", "_"]
theorem scGrown : FnScope nGrown ["machine", "length"] (defScope sGrown) := ⟨rfl, rfl, rfl, by decide +kernel, rfl, by decide +kernel, by decide +kernel⟩
theorem ok_grown {f fI fG CF CB : Addr} {fd fdI fdG : FuncData} (D : Df K mg "grown" sGrown ["machine", "length"] f fd) (B0 : TBl K mg CB)
    (MI : Mk K CB fI) (bI : Binds K fdI ["self", "machine"] []) (GI : FnOk P w K mg base CX0 7 fI fdI ["self", "machine"] (spBInit P w C CF CB))
    (mG : Meth K CB "grow" fG) (bG : Binds K fdG ["self"] []) (GG : FnOk P w K mg base CX0 7 fG fdG ["self"] (spGrow P w C CF CB)) (T : TWords mg) : FnOk P w K mg base CX0 9 f fd ["machine", "length"] (spGrown P w C CF CB) := by
  refine D.F.ok scGrown (fun vs H Q E h => ?_) (fun cdv Ar outer s H vs Q E hr h => ?_)
  · obtain ⟨_, _, _, _, rfl, _⟩ := h; rfl
  · obtain ⟨v, k, rows, n, rfl, hm, M, hn, q⟩ := h
    refine ⟨_, pss_cons (ps_set (i := 2) scGrown.nd rfl (Or.inl rfl) (pe_make MI GI hr rfl B0.g bI .nil pass0 (pa_cons (pv 0) pa_nil)))
      (pss_cons (ps_for PassesOwn.never rfl (pi_range1 (by rfl) T.range (pa_cons (pv 1) pa_nil)) (pg_name (i := 3) scGrown.nd rfl (Or.inl rfl))
        (pss_one (ps_expr (pe_meth0 (pv 2) B0.cl mG GG (hr.mono (by decide)) bG .nil pass0))))
      (pss_one (ps_ret (pv 2)))), ?_⟩
    refine ⟨_, rfl, fun p dx hp hdx ndx => ?_⟩
    refine ⟨H, p, dx, v, k, rows, rfl, made_ex hp hdx, hp, upd_same, hm, M, fun HB H1 B rl eBp eHB eH1 FU => ⟨rfl, ?_⟩⟩
    subst eBp
    refine ⟨_, rfl, _, rfl, by omega, by omega, for_it walk_rg (fun i σ H' => ∃ v3, σ = [some v, some (.int (n : Nat)), some (.ref B.p), v3] ∧ Ex H H' ∧ Full P w C CF CB HB H' B rl k rows i) ⟨none, rfl, eH1, FU⟩ (fun _ _ _ _ _ => True.intro) ?_ ?_⟩
    · rintro i x σ H2 H3 hi ⟨v3, rfl, e2, F2⟩ ⟨rfl, rfl⟩
      have hin : i < n := by simpa using hi
      obtain ⟨bdx, hb⟩ := F2.ball.ins
      refine ⟨_, rfl, B.p, bdx, _, rfl, hb, bF_no _ _ _ (by decide +kernel) (by decide +kernel) (by decide +kernel) (by decide +kernel) (by decide +kernel), HB, B, rl, k, rows, i, rfl, F2, M, by omega, fun H4 fr4 F4 => ?_⟩
      exact ⟨_, rfl, fr4.known e2 eHB F2.bS, F4⟩
    · rintro σ H2 ⟨v3, rfl, e2, F2⟩
      have : ((n : Int).toNat) = n := by simp
      simp only [Int.sub_zero, this] at F2
      exact ⟨_, rfl, q HB H2 B rl eHB e2 F2⟩
def spBall : Sp := fun vs H Q _ => ∃ v k rows, ∃ n : Nat, vs = [v, .int n] ∧ NIs H (machK k rows) v ∧ MOk k rows ∧ n ≤ 3 ∧
  ∀ H' a, Ex H H' → H a = none → H' a = some (.lst ((bl k (2 * rows.length) (lsOf rows) n).map wdV)) → Q (.ref a) H'
theorem scBall : FnScope ["machine", "length"] ["machine", "length"] (defScope sBall) := ⟨rfl, rfl, rfl, by decide +kernel, rfl, by decide +kernel, by decide +kernel⟩
theorem ok_ball {f fM fL fG CF CB : Addr} {fd fdM fdL fdG : FuncData} (D : Df K mg "ball" sBall ["machine", "length"] f fd) (B0 : TBl K mg CB)
    (MD : Df K mg "check_machine" sCheckMachine ["machine"] fM fdM) (GM : FnOk P w K mg base CX0 4 fM fdM ["machine"] spCheckMachine) (LD : Df K mg "check_length" sCheckLength ["length"] fL fdL)
    (GD : Df K mg "grown" sGrown ["machine", "length"] fG fdG) (GG : FnOk P w K mg base CX0 9 fG fdG ["machine", "length"] (spGrown P w C CF CB)) (T : TWords mg) : FnOk P w K mg base CX0 10 f fd ["machine", "length"] spBall := by
  have GL : FnOk P w K mg base CX0 1 fL fdL ["length"] spCheckLength := ok_checkLength LD T
  refine D.F.ok scBall (fun vs H Q E h => ?_) (fun cdv Ar outer s H vs Q E hr h => ?_)
  · obtain ⟨_, _, _, _, rfl, _⟩ := h; rfl
  · obtain ⟨v, k, rows, n, rfl, hm, M, hn, q⟩ := h
    refine ⟨_, pss_cons (ps_expr (pe_call GM (hr.mono (by decide)) rfl MD.g MD.F.kp MD.b .nil pass0 (pa_cons (pv 0) pa_nil))) (pss_cons (ps_expr (pe_call GL (hr.mono (by decide)) rfl LD.g LD.F.kp LD.b .nil pass0 (pa_cons (pv 1) pa_nil)))
      (pss_one (ps_ret (pe_fld (pe_call GG hr rfl GD.g GD.F.kp GD.b .nil pass0 (pa_cons (pv 0) (pa_cons (pv 1) pa_nil))) rfl)))), ?_⟩
    refine ⟨_, rfl, v, k, rows, rfl, hm, M, fun H1 e1 => ⟨_, rfl, n, rfl, by omega, ?_⟩⟩
    refine ⟨_, rfl, _, rfl, v, k, rows, n, rfl, NIs.mono (.of e1) _ _ hm, M, hn, fun HB H2 B rl eB e2 FU => ?_⟩
    obtain ⟨dx, hp⟩ := FU.ball.ins
    exact ⟨B.p, CB, dx, _, _, rfl, hp, B0.cl, B0.nW, FU.ball.lW, q H2 _ (e1.trans e2) (fresh_back (e1.trans eB) FU.ball.bW) FU.ball.words⟩
def spGrowth : Sp := fun vs H Q _ => ∃ v k rows, ∃ n : Nat, vs = [v, .int n] ∧ NIs H (machK k rows) v ∧ MOk k rows ∧ n ≤ 3 ∧
  ∀ H' a, Ex H H' → H' a = some (.lst (((List.range (n + 1)).map fun i => (rg k (2 * rows.length) (lsOf rows) i).length).map fun i => .int (i : Nat))) → Q (.ref a) H'
abbrev nGrowth : List Str := ["machine", "length", "ring"]
theorem scGrowth : FnScope nGrowth ["machine", "length"] (defScope sGrowth) := ⟨rfl, rfl, rfl, by decide +kernel, rfl, by decide +kernel, by decide +kernel⟩
theorem ok_growth {f fM fL fG CF CB : Addr} {fd fdM fdL fdG : FuncData} (D : Df K mg "growth" sGrowth ["machine", "length"] f fd) (B0 : TBl K mg CB)
    (MD : Df K mg "check_machine" sCheckMachine ["machine"] fM fdM) (GM : FnOk P w K mg base CX0 4 fM fdM ["machine"] spCheckMachine) (LD : Df K mg "check_length" sCheckLength ["length"] fL fdL)
    (GD : Df K mg "grown" sGrown ["machine", "length"] fG fdG) (GG : FnOk P w K mg base CX0 9 fG fdG ["machine", "length"] (spGrown P w C CF CB)) (T : TWords mg) : FnOk P w K mg base CX0 10 f fd ["machine", "length"] spGrowth := by
  have GL : FnOk P w K mg base CX0 1 fL fdL ["length"] spCheckLength := ok_checkLength LD T
  refine D.F.ok scGrowth (fun vs H Q E h => ?_) (fun cdv Ar outer s H vs Q E hr h => ?_)
  · obtain ⟨_, _, _, _, rfl, _⟩ := h; rfl
  · obtain ⟨v, k, rows, n, rfl, hm, M, hn, q⟩ := h
    refine ⟨_, pss_cons (ps_expr (pe_call GM (hr.mono (by decide)) rfl MD.g MD.F.kp MD.b .nil pass0 (pa_cons (pv 0) pa_nil))) (pss_cons (ps_expr (pe_call GL (hr.mono (by decide)) rfl LD.g LD.F.kp LD.b .nil pass0 (pa_cons (pv 1) pa_nil)))
      (pss_one (ps_ret (pe_lc (own := [("ring", 2)]) (g := gName 2) (tt := tYes) rfl scGrowth.nd (pi_list (pe_fld (pe_call GG hr rfl GD.g GD.F.kp GD.b .nil pass0 (pa_cons (pv 0) (pa_cons (pv 1) pa_nil))) rfl)) (blkOk_by (N := nGrowth) (sc := defScope sGrowth) (by decide +kernel))
          (fun _ _ _ _ _ => pg_name (i := 2) scGrowth.nd rfl (Or.inl rfl)) (fun _ _ _ _ _ => pts_nil)
          (fun _ _ _ _ _ => pe_callB (r := rLenK K) call_len (by rfl) T.len PySem.boot_len (pa_cons (pv 2) pa_nil)))))), ?_⟩
    refine ⟨_, rfl, v, k, rows, rfl, hm, M, fun H1 e1 => ⟨_, rfl, n, rfl, by omega, ?_⟩⟩
    refine ⟨_, rfl, _, rfl, v, k, rows, n, rfl, NIs.mono (.of e1) _ _ hm, M, hn, fun HB H2 B rl eB e2 FU => ?_⟩
    obtain ⟨dx, hp⟩ := FU.ball.ins
    obtain ⟨rvs, hrl, hrw, hrn, hri⟩ := id FU.rings
    refine ⟨B.p, CB, dx, _, _, rfl, hp, B0.cl, B0.nR, bF_rings _ _ _, rl, rfl, ⟨_, SqL.of hrl⟩, fun Dl hD => lc_it walk_list (fun i H' => Ex H2 H' ∧ H' Dl = some (.lst (((List.range i).map fun i => (rg k (2 * rows.length) (lsOf rows) i).length).map fun i => .int (i : Nat)))) ⟨Ex.new hD, upd_same⟩ (fun _ H' _ p => SqL.of (p.1 _ _ hrl)) ?_ ?_⟩
    · rintro i x H3 H4 hi ⟨e3, l3⟩ ⟨rfl, hx⟩
      obtain ⟨ri, q1, q2, q3, q4⟩ := hri i (by omega)
      rw [q1] at hx
      cases hx
      refine lc_yes rfl ?_
      refine ⟨_, rfl, _, _, rfl, .inl ⟨_, SqL.of (e3 _ _ q2), rfl⟩, _, l3, by rw [List.length_map, List.length_map, List.length_range]; exact szlt (by omega), Ex.put e3 hD, ?_⟩
      rw [upd_same, List.range_succ, List.map_append, List.map_append]
      rw [List.length_map]
      rfl
    · rintro H3 ⟨e3, l3⟩
      rw [hrn] at l3
      exact q H3 Dl (e1.trans (e2.trans e3)) l3
def spLeast : Sp := fun vs H Q _ => ∃ v k rows wd, vs = [v, .str (txt wd)] ∧ NIs H (machK k rows) v ∧ MOk k rows ∧ Wd (2 * rows.length) wd ∧ wd.length ≤ 3 ∧
  ∀ H' u, Ex H H' → u ∈ bl k (2 * rows.length) (lsOf rows) (Lf.cut wd).length → Eq' k (lsOf rows) u wd → Q (.str (txt u)) H'
abbrev nLeast : List Str := ["machine", "word", "short", "found"]
theorem scLeast : FnScope nLeast ["machine", "word"] (defScope sLeast) := ⟨rfl, rfl, rfl, by decide +kernel, rfl, by decide +kernel, by decide +kernel⟩
theorem ok_least {f fM fW fC fG fN CF CB : Addr} {fd fdM fdW fdC fdG fdN : FuncData} (D : Df K mg "least" sLeast ["machine", "word"] f fd) (B0 : TBl K mg CB)
    (MD : Df K mg "check_machine" sCheckMachine ["machine"] fM fdM) (GM : FnOk P w K mg base CX0 4 fM fdM ["machine"] spCheckMachine)
    (WD : Df K mg "check_word" sCheckWord ["machine", "word"] fW fdW) (GW : FnOk P w K mg base CX0 5 fW fdW ["machine", "word"] spCheckWord)
    (CD : Df K mg "cut" sCut ["word"] fC fdC) (GC : FnOk P w K mg base CX0 2 fC fdC ["word"] spCut)
    (GD : Df K mg "grown" sGrown ["machine", "length"] fG fdG) (GG : FnOk P w K mg base CX0 9 fG fdG ["machine", "length"] (spGrown P w C CF CB))
    (mN : Meth K CB "number_of" fN) (bN : Binds K fdN ["self", "word"] []) (GN : FnOk P w K mg base CX0 6 fN fdN ["self", "word"] (spNumOf P w C CF CB)) (T : TWords mg) : FnOk P w K mg base CX0 10 f fd ["machine", "word"] spLeast := by
  refine D.F.ok scLeast (fun vs H Q E h => ?_) (fun cdv Ar outer s H vs Q E hr h => ?_)
  · obtain ⟨_, _, _, _, rfl, _⟩ := h; rfl
  · obtain ⟨v, k, rows, wd, rfl, hm, M, hw, hwl, q⟩ := h
    have hL := M.le6
    have hcl := cut_len wd
    have hcw := cut_wd hw
    refine ⟨_, pss_cons (ps_expr (pe_call GM (hr.mono (by decide)) rfl MD.g MD.F.kp MD.b .nil pass0 (pa_cons (pv 0) pa_nil))) (pss_cons (ps_expr (pe_call GW (hr.mono (by decide)) rfl WD.g WD.F.kp WD.b .nil pass0 (pa_cons (pv 0) (pa_cons (pv 1) pa_nil))))
      (pss_cons (ps_set (i := 2) scLeast.nd rfl (Or.inl rfl) (pe_call GC (hr.mono (by decide)) rfl CD.g CD.F.kp CD.b .nil pass0 (pa_cons (pv 1) pa_nil)))
      (pss_cons (ps_set (i := 3) scLeast.nd rfl (Or.inl rfl) (pe_call GG hr rfl GD.g GD.F.kp GD.b .nil pass0 (pa_cons (pv 0) (pa_cons (pe_callB call_len (by rfl) T.len PySem.boot_len (pa_cons (pv 2) pa_nil)) pa_nil))))
      (pss_one (ps_ret (pe_ix ix_list (pe_fld (pv 3) rfl) (pe_meth (pv 3) B0.cl mN GN (hr.mono (by decide)) bN .nil pass0 (pa_cons (pv 2) pa_nil)) (fun _ _ => rfl))))))), ?_⟩
    refine ⟨_, rfl, v, k, rows, rfl, hm, M, fun H1 e1 => ?_⟩
    refine ⟨_, rfl, _, rfl, v, k, rows, wd, rfl, NIs.mono (.of e1) _ _ hm, M, hw, by omega, fun H2 e2 => ?_⟩
    have e12 := e1.trans e2
    refine ⟨_, rfl, wd, rfl, hw.mono (by omega), by omega, fun H3 e3 => ?_⟩
    have e13 := e12.trans e3
    refine ⟨_, rfl, _, rfl, _, _, rfl, ⟨by rw [txt_len]; exact sz100 (by omega), rfl⟩, v, k, rows, (Lf.cut wd).length, by rw [txt_len]; rfl, NIs.mono (.of e13) _ _ hm, M, by omega, fun HB H4 B rl eB e4 FU => ?_⟩
    obtain ⟨dx, hp⟩ := FU.ball.ins
    refine ⟨_, rfl, B.p, CB, dx, _, _, rfl, hp, B0.cl, B0.nW, FU.ball.lW, _, rfl, B.p, dx, _, rfl, hp, bF_no _ _ _ (by decide +kernel) (by decide +kernel) (by decide +kernel) (by decide +kernel) (by decide +kernel), _, rfl, HB, B, _, k, rows, _, Lf.cut wd, rfl, FU.ball, M, hcw, by omega, fun H5 r fr5 B5 hr5 => ?_⟩
    obtain ⟨u, hu, he⟩ := bl_least M.ls M.pos hcw (Nat.le_refl _)
    rcases hr5 with ⟨rfl, hno⟩ | ⟨j, u', rfl, hj, he'⟩
    · exact absurd he (hno u hu)
    · refine ⟨B.wl, _, _, .str (txt u'), rfl, rfl, SqL.of B5.words, atI_nat (by rw [List.getElem?_map, hj]; rfl), ?_⟩
      exact q H5 u' (e13.trans (fr5.known e4 eB fun b hb => FU.bS b (List.mem_cons_of_mem _ hb))) (List.mem_of_getElem? hj) (he'.trans (cut_eq M.ls hw))
end
end Lw
set_option Elab.async false
set_option linter.all false
set_option maxRecDepth 100000
set_option maxHeartbeats 4000000
namespace Lw
open PySem L2 Evl Lf
theorem cut_txt (w : List Nat) (lo hi : Option Int) : cutS (txt w) lo hi = txt ((w.drop (HT.sIx w.length 0 lo)).take (HT.sIx w.length w.length hi - HT.sIx w.length 0 lo)) := by
  unfold cutS
  rw [txt_len]
  unfold txt
  simp only [List.map_drop, List.map_take]
theorem cut_last (w : List Nat) : cutS (txt w) (some (-1)) none = txt w.getLast?.toList := by
  rw [cut_txt, ← drop_last]
  congr 1
  have : HT.sIx w.length 0 (some (-1)) = w.length - 1 := by
    show (if (-1 : Int) < 0 then ((-1 : Int) + (w.length : Int)).toNat else min (-1 : Int).toNat w.length) = _
    rw [if_pos (by decide)]
    omega
  rw [this, HT.sIx_none]
  exact List.take_of_length_le (by simp)
theorem cut_init (w : List Nat) : cutS (txt w) none (some (-1)) = txt w.dropLast := by
  rw [cut_txt]
  congr 1
  have : HT.sIx w.length w.length (some (-1)) = w.length - 1 := by
    show (if (-1 : Int) < 0 then ((-1 : Int) + (w.length : Int)).toNat else min (-1 : Int).toNat w.length) = _
    rw [if_pos (by decide)]
    omega
  rw [this, HT.sIx_none, List.drop_zero, List.dropLast_eq_take, Nat.sub_zero]
theorem cut_tail (w : List Nat) : cutS (txt w) (some 1) none = txt w.tail := by
  rw [cut_txt]
  congr 1
  have : HT.sIx w.length 0 (some 1) = min 1 w.length := HT.sIx_nat _ _ 1
  rw [this, HT.sIx_none, List.take_of_length_le (by simp)]
  cases w with
  | nil => rfl
  | cons a w => simp
theorem dec_last {w : List Nat} {c : Nat} (hw : Wd 16 w) (hc : c < 16) : decide (V.str (cutS (txt w) (some (-1)) none) = V.str (txt (Lf.undone [c]))) = decide (w.getLast? = some (oth c)) := by
  rw [cut_last]
  have e : Lf.undone [c] = [oth c] := rfl
  rw [e]
  by_cases h : w.getLast? = some (oth c)
  · rw [h]
    simp
  · rw [decide_eq_false h]
    refine decide_eq_false fun z => h ?_
    have hg : Wd 16 w.getLast?.toList := fun d hd => hw d (by
      rw [Option.mem_toList] at hd
      exact List.mem_of_getLast? hd)
    have := txt_inj hg (Wd.one (oth_lt (by decide) hc)) (V.str.inj z)
    cases q : w.getLast? with
    | none => rw [q] at this; cases this
    | some d => rw [q] at this; simp at this; rw [this]
section
variable {P : Program} {w : World} {K : PySem.W.Frag} {mg : Str → Option Value} {base : Heap} {C : Addr}
structure TLk (K : PySem.W.Frag) (mg : Str → Option Value) (C : Addr) : Prop where
  cl : Cls K C
  nM : NoAttr K C "machine"
  nO : NoAttr K C "once"
  nC : NoAttr K C "count"
  nR : NoAttr K C "ring"
  g : mg "Look" = some (.ref C)
structure LkF (fs : List (Str × V)) (v : V) (c : Nat) (rl : Addr) : Prop where
  lM : fs.lookup ("machine" : Str) = some v
  lO : fs.lookup ("once" : Str) = some (.bl true)
  lC : fs.lookup ("count" : Str) = some (.int c)
  lR : fs.lookup ("ring" : Str) = some (.ref rl)
  nN : fs.lookup ("next_ring" : Str) = none
  nS : fs.lookup ("rests" : Str) = none
theorem LkF.count {fs : List (Str × V)} {v : V} {c : Nat} {rl : Addr} (h : LkF fs v c rl) (c' : Nat) : LkF (putF "count" (.int c') fs) v c' rl := by
  refine ⟨?_, ?_, ?_, ?_, ?_, ?_⟩
  · rw [lookup_putF, if_neg (by decide +kernel)]; exact h.lM
  · rw [lookup_putF, if_neg (by decide +kernel)]; exact h.lO
  · rw [lookup_putF, if_pos rfl]
  · rw [lookup_putF, if_neg (by decide +kernel)]; exact h.lR
  · rw [lookup_putF, if_neg (by decide +kernel)]; exact h.nN
  · rw [lookup_putF, if_neg (by decide +kernel)]; exact h.nS
theorem LkF.ring {fs : List (Str × V)} {v : V} {c : Nat} {rl : Addr} (h : LkF fs v c rl) (rl' : Addr) : LkF (putF "ring" (.ref rl') fs) v c rl' := by
  refine ⟨?_, ?_, ?_, ?_, ?_, ?_⟩
  · rw [lookup_putF, if_neg (by decide +kernel)]; exact h.lM
  · rw [lookup_putF, if_neg (by decide +kernel)]; exact h.lO
  · rw [lookup_putF, if_neg (by decide +kernel)]; exact h.lC
  · rw [lookup_putF, if_pos rfl]
  · rw [lookup_putF, if_neg (by decide +kernel)]; exact h.nN
  · rw [lookup_putF, if_neg (by decide +kernel)]; exact h.nS
def lk0 (v : V) (rl : Addr) : List (Str × V) := putF "ring" (.ref rl) (putF "count" (.int 0) (putF "once" (.bl true) (putF "machine" v [])))
theorem lk0_ok (v : V) (rl : Addr) : LkF (lk0 v rl) v 0 rl := by
  unfold lk0
  refine ⟨?_, ?_, ?_, ?_, ?_, ?_⟩
  · rw [lookup_putF, if_neg (by decide +kernel), lookup_putF, if_neg (by decide +kernel), lookup_putF, if_neg (by decide +kernel), lookup_putF, if_pos rfl]
  · rw [lookup_putF, if_neg (by decide +kernel), lookup_putF, if_neg (by decide +kernel), lookup_putF, if_pos rfl]
  · rw [lookup_putF, if_neg (by decide +kernel), lookup_putF, if_pos rfl]; rfl
  · rw [lookup_putF, if_pos rfl]
  · rw [lookup_putF, if_neg (by decide +kernel), lookup_putF, if_neg (by decide +kernel), lookup_putF, if_neg (by decide +kernel), lookup_putF, if_neg (by decide +kernel)]; rfl
  · rw [lookup_putF, if_neg (by decide +kernel), lookup_putF, if_neg (by decide +kernel), lookup_putF, if_neg (by decide +kernel), lookup_putF, if_neg (by decide +kernel)]; rfl
def spLInit (CL : Addr) : Sp := fun vs H Q _ => ∃ H0 p dx v, vs = [.ref p, v, .bl true] ∧ Ex H0 H ∧ H0 p = none ∧ H p = some (.ins CL dx []) ∧
  ∀ H' rl, Ex H0 H' → H' p = some (.ins CL dx (lk0 v rl)) → H' rl = some (.lst [wdV []]) → Q .non H'
theorem scLInit : FnScope ["self", "machine", "once"] ["self", "machine", "once"] (defScope sLInit) := ⟨rfl, rfl, rfl, by decide +kernel, rfl, by decide +kernel, by decide +kernel⟩
theorem ok_lInit {f CL : Addr} {fd : FuncData} (D : Fun K "__init__" "Look.__init__" sLInit f fd) (L0 : TLk K mg CL) : FnOk P w K mg base CX0 1 f fd ["self", "machine", "once"] (spLInit CL) := by
  refine D.ok scLInit (fun vs H Q E h => ?_) (fun cdv Ar outer s H vs Q E hr h => ?_)
  · obtain ⟨_, _, _, _, rfl, _⟩ := h; rfl
  · obtain ⟨H0, p, dx, v, rfl, e0, hp0, hp, q⟩ := h
    refine ⟨_, pss_cons (ps_fld (pv 0) (pv 1) rfl) (pss_cons (ps_fld (pv 0) (pv 2) rfl) (pss_cons (ps_fld (pv 0) pe_int rfl) (pss_one (ps_fld (pv 0) (pe_lst (pa_cons pe_str pa_nil)) rfl)))), ?_⟩
    refine ⟨_, rfl, _, rfl, p, CL, dx, _, rfl, hp, L0.cl, L0.nM, (by show 0 < 1000; decide), ?_⟩
    refine ⟨_, rfl, _, rfl, p, CL, dx, _, rfl, upd_same, L0.cl, L0.nO, (by show 1 < 1000; decide), ?_⟩
    rw [upd_upd]
    refine ⟨_, rfl, p, CL, dx, _, rfl, upd_same, L0.cl, L0.nC, (by show 2 < 1000; decide), ?_⟩
    rw [upd_upd]
    have p1 : (upd H p (.ins CL dx (putF "count" (.int 0) (putF "once" (.bl true) (putF "machine" v []))))) p = some (.ins CL dx (putF "count" (.int 0) (putF "once" (.bl true) (putF "machine" v [])))) := upd_same
    have e1 : Ex H0 (upd H p (.ins CL dx (putF "count" (.int 0) (putF "once" (.bl true) (putF "machine" v []))))) := Ex.put e0 hp0
    generalize upd H p (.ins CL dx (putF "count" (.int 0) (putF "once" (.bl true) (putF "machine" v [])))) = H1 at p1 e1
    refine ⟨(by show 1 ≤ sizeLine; decide), fun rl hrl => ?_⟩
    have npr : p ≠ rl := ne_of_none p1 hrl
    refine ⟨_, rfl, p, CL, dx, _, rfl, by rw [upd_ne npr]; exact p1, L0.cl, L0.nR, (by show 3 < 1000; decide), ?_⟩
    exact q _ rl (Ex.put (e1.trans (Ex.new hrl)) hp0) upd_same (by rw [upd_ne (Ne.symm npr), upd_same]; rfl)
def spLRests (CL : Addr) : Sp := fun vs H Q _ => ∃ p dx fs v k rows wd, ∃ c : Nat, vs = [.ref p, .str (txt wd)] ∧ H p = some (.ins CL dx fs) ∧ fs.lookup ("machine" : Str) = some v ∧ fs.lookup ("count" : Str) = some (.int c) ∧ c ≤ 1000 ∧ fs.length < 1000 ∧ NIs H (machK k rows) v ∧ MOk k rows ∧ Wd (2 * rows.length) wd ∧ wd.length ≤ 3 ∧
  (Rests k (lsOf rows) wd → ∀ H', Ex (upd H p (.ins CL dx (putF "count" (.int (c + 1 : Nat)) fs))) H' → Q (.bl true) H') ∧ (¬ Rests k (lsOf rows) wd → ∀ H', Ex (upd H p (.ins CL dx (putF "count" (.int (c + 1 : Nat)) fs))) H' → Q (.bl false) H')
theorem scLRests : FnScope ["self", "word"] ["self", "word"] (defScope sLRests) := ⟨rfl, rfl, rfl, by decide +kernel, rfl, by decide +kernel, by decide +kernel⟩
theorem ok_lRests {f fR CL : Addr} {fd fdR : FuncData} (D : Fun K "rests" "Look.rests" sLRests f fd) (L0 : TLk K mg CL) (RD : Df K mg "rests" sRests ["machine", "word"] fR fdR) (gR : mg "rests_closed" = some (.ref fR)) (GR : FnOk P w K mg base CX0 5 fR fdR ["machine", "word"] spRests) (T : TWords mg) : FnOk P w K mg base CX0 6 f fd ["self", "word"] (spLRests CL) := by
  refine D.ok scLRests (fun vs H Q E h => ?_) (fun cdv Ar outer s H vs Q E hr h => ?_)
  · obtain ⟨_, _, _, _, _, _, _, _, rfl, _⟩ := h; rfl
  · obtain ⟨p, dx, fs, v, k, rows, wd, c, rfl, hp, lM, lC, hc, hfs, hm, M, hw, hwl, qy, qn⟩ := h
    obtain ⟨t1, m1⟩ := T.mostL
    refine ⟨_, pss_cons (ps_fldaug (pv 0) pe_int in_add) (pss_cons (ps_if (pt_cmpR op_gt (pe_fld (pv 0) rfl) (pe_glob (v := .int 5000) rfl m1 ⟨_, rfl⟩) (nomark _)) pss_never pss_nil)
      (pss_one (ps_ret (pe_call GR hr rfl gR RD.F.kp RD.b .nil pass0 (pa_cons (pe_fld (pv 0) rfl) (pa_cons (pv 1) pa_nil)))))), ?_⟩
    refine ⟨_, rfl, p, CL, dx, fs, _, rfl, hp, L0.cl, L0.nC, lC, _, _, rfl, rfl, dx, fs, hp, hfs, ?_⟩
    have e : ((c : Int) + 1) = ((c + 1 : Nat) : Int) := by omega
    rw [e]
    have tkk : TK H (upd H p (.ins CL dx (putF "count" (.int (c + 1 : Nat)) fs))) := TK.put hp (by intro xs z; cases z)
    have p1 : (upd H p (.ins CL dx (putF "count" (.int (c + 1 : Nat)) fs))) p = some (.ins CL dx (putF "count" (.int (c + 1 : Nat)) fs)) := upd_same
    generalize upd H p (.ins CL dx (putF "count" (.int (c + 1 : Nat)) fs)) = H1 at tkk p1 qy qn
    refine ⟨_, rfl, p, CL, dx, _, _, rfl, p1, L0.cl, L0.nC, (by rw [lookup_putF, if_pos rfl]), _, _, rfl, rfl, _, rfl, ?_⟩
    rw [decide_eq_false (show ¬ ((5000 : Int) < ((c + 1 : Nat) : Int)) by omega)]
    refine iteF ?_
    exact ⟨_, rfl, p, CL, dx, _, _, rfl, p1, L0.cl, L0.nM, (by rw [lookup_putF, if_neg (by decide +kernel)]; exact lM), _, rfl, v, k, rows, wd, 3, rfl, NIs.mono tkk _ _ hm, M, hw, hwl, by omega, Nat.le_trans (tiny M) (by omega), fun h H2 e2 => qy h H2 e2, fun h H2 e2 => qn h H2 e2⟩
end
end Lw
set_option Elab.async false
set_option linter.all false
set_option maxRecDepth 100000
set_option maxHeartbeats 4000000
namespace Lw
open PySem L2 Evl Lf
section
variable {P : Program} {w : World} {K : PySem.W.Frag} {mg : Str → Option Value} {base : Heap} {C : Addr}
def spNext (CL : Addr) : Sp := fun vs H Q _ => ∃ p dx fs v k rows rl, ∃ c n : Nat, vs = [.ref p] ∧ H p = some (.ins CL dx fs) ∧ LkF fs v c rl ∧ fs.length ≤ c + n + 4 ∧ NIs H (machK k rows) v ∧ MOk k rows ∧ H rl = some (.lst ((redW (2 * rows.length) n).map wdV)) ∧ n + 1 ≤ 3 ∧ c ≤ 187 * n ∧
  (∀ H' a u, Frm [p] H H' → H' a = some (.lst [wdV u]) → u ∈ redW (2 * rows.length) (n + 1) → Rests k (lsOf rows) u → Q (.ref a) H') ∧
  (∀ H' a c' fs' rl', Frm [p] H H' → H' a = some (.lst []) → (∀ u ∈ redW (2 * rows.length) (n + 1), ¬ Rests k (lsOf rows) u) → H' p = some (.ins CL dx fs') → LkF fs' v c' rl' → fs'.length ≤ c' + (n + 1) + 4 → c' ≤ 187 * (n + 1) → H' rl' = some (.lst ((redW (2 * rows.length) (n + 1)).map wdV)) → Q (.ref a) H')
abbrev nNext : List Str := ["self", "longer", "found", "word", "letter"]
theorem scNext : FnScope nNext ["self"] (defScope sLNext) := ⟨rfl, rfl, rfl, by decide +kernel, rfl, by decide +kernel, by decide +kernel⟩
theorem ok_next {f fL fU fR CL : Addr} {fd fdL fdU fdR : FuncData} (D : Fun K "next_ring" "Look.next_ring" sLNext f fd) (L0 : TLk K mg CL) (LD : Df K mg "letters_of" sLettersOf ["machine"] fL fdL)
    (UD : Df K mg "undone" sUndone ["word"] fU fdU) (GU : FnOk P w K mg base CX0 2 fU fdU ["word"] spUndone)
    (mR : Meth K CL "rests" fR) (bR : Binds K fdR ["self", "word"] []) (GR : FnOk P w K mg base CX0 6 fR fdR ["self", "word"] (spLRests CL)) (T : TWords mg) : FnOk P w K mg base CX0 7 f fd ["self"] (spNext CL) := by
  have GL : FnOk P w K mg base CX0 1 fL fdL ["machine"] spLettersOf := ok_lettersOf LD T
  refine D.ok scNext (fun vs H Q E h => ?_) (fun cdv Ar outer s H vs Q E hr h => ?_)
  · obtain ⟨_, _, _, _, _, _, _, _, _, rfl, _⟩ := h; rfl
  · obtain ⟨p, dx, fs, v, k, rows, rl, c, n, rfl, hp, LF, hfs, hm, M, hrl, hn, hc, qy, qn⟩ := h
    have hL := M.le6
    have hnx : (redW (2 * rows.length) (n + 1)).length ≤ 187 := Nat.le_trans (redW_le _ _) (allRed_tiny ⟨by have := M.n1; have := M.n3; omega, hn⟩)
    refine ⟨_, pss_cons (ps_set (i := 1) scNext.nd rfl (Or.inl rfl) (pe_lst pa_nil)) (pss_cons (ps_set (i := 2) scNext.nd rfl (Or.inl rfl) (pe_lst pa_nil))
      (pss_cons (ps_for PassesOwn.never rfl (pi_list (pe_fld (pv 0) rfl)) (pg_name (i := 3) scNext.nd rfl (Or.inl rfl))
        (pss_one (ps_for PassesOwn.never rfl (pi_str (pe_call GL (hr.mono (by decide)) rfl LD.g LD.F.kp LD.b .nil pass0 (pa_cons (pe_fld (pv 0) rfl) pa_nil))) (pg_name (i := 4) scNext.nd rfl (Or.inl rfl))
          (pss_one (ps_if (pt_cmpR op_ne (pe_slice sl_str (pv 3) (po_some (pe_un un_neg pe_int)) po_none) (pe_call GU (hr.mono (by decide)) rfl UD.g UD.F.kp UD.b .nil pass0 (pa_cons (pv 4) pa_nil)) (nomark _))
            (pss_cons (ps_expr (pe_bm PySem.F.plainAttrs_list PySem.F.slot_list_append PySem.F.type_list_append mt_append (pv 1) (pa_cons (pe_op op_add_str (pv 3) (pv 4)) pa_nil)))
            (pss_one (ps_if (pt_val (pe_meth (pv 0) L0.cl mR GR hr bR .nil pass0 (pa_cons (pe_op op_add_str (pv 3) (pv 4)) pa_nil)))
              (pss_cons (ps_expr (pe_bm PySem.F.plainAttrs_list PySem.F.slot_list_append PySem.F.type_list_append mt_append (pv 2) (pa_cons (pe_op op_add_str (pv 3) (pv 4)) pa_nil)))
              (pss_one (ps_if (pt_val (pe_fld (pv 0) rfl)) (pss_one (ps_ret (pv 2))) pss_nil))) pss_nil))) pss_nil)))))
      (pss_cons (ps_fld (pv 0) (pv 1) rfl)
      (pss_one (ps_ret (pv 2)))))), ?_⟩
    refine ⟨Nat.zero_le _, fun lo hlo => ?_⟩
    have e1 : Ex H (upd H lo (.lst [])) := Ex.new hlo
    have l1 : (upd H lo (.lst [])) lo = some (.lst []) := upd_same
    generalize upd H lo (.lst []) = H1 at e1 l1
    refine ⟨Nat.zero_le _, fun fo hfo => ?_⟩
    have hfo0 : H fo = none := fresh_back e1 hfo
    have nlf : lo ≠ fo := ne_of_none l1 hfo
    have e2 : Ex H1 (upd H1 fo (.lst [])) := Ex.new hfo
    have f2 : (upd H1 fo (.lst [])) fo = some (.lst []) := upd_same
    generalize upd H1 fo (.lst []) = H2 at e2 f2
    have l2 := e2 _ _ l1
    have e02 := e1.trans e2
    have nplo : p ≠ lo := ne_of_none hp hlo
    have npfo : p ≠ fo := ne_of_none hp hfo0
    have nprl : p ≠ rl := ne_of hp hrl (by intro z; cases z)
    have tkf : ∀ {H'}, Frm [p] H H' → TK H H' := fun f a xs ha => f a _ (by simpa using ne_of ha hp (by intro z; cases z)) ha
    refine ⟨_, rfl, p, CL, dx, _, _, rfl, e02 _ _ hp, L0.cl, L0.nR, LF.lR, rl, rfl, ⟨_, SqL.of (e02 _ _ hrl)⟩, ?_⟩
    refine for_it walk_list (fun i σ H' => ∃ v3 v4 fs', σ = [some (.ref p), some (.ref lo), some (.ref fo), v3, v4] ∧ Frm [p] H H' ∧ H' lo = some (.lst ((lgTo (2 * rows.length) n i).map wdV)) ∧ H' fo = some (.lst []) ∧ H' p = some (.ins CL dx fs') ∧ LkF fs' v (c + (lgTo (2 * rows.length) n i).length) rl ∧ fs'.length ≤ c + (lgTo (2 * rows.length) n i).length + n + 4 ∧ ∀ u ∈ lgTo (2 * rows.length) n i, ¬ Rests k (lsOf rows) u)
      ⟨none, none, fs, rfl, .of e02, l2, f2, e02 _ _ hp, LF, hfs, (fun u hu => nomatch hu)⟩ (fun _ _ H' _ ⟨_, _, _, _, fr, _⟩ => SqL.of (fr rl _ (by simpa using Ne.symm nprl) hrl)) ?_ ?_
    · rintro i x σ H3 H4 hi ⟨v3, v4, fs3, rfl, fr3, l3, f3, p3, LF3, hfs3, no3⟩ ⟨rfl, hx⟩
      rw [List.getElem?_map] at hx
      obtain ⟨wd, hwd, rfl⟩ : ∃ wd, (redW (2 * rows.length) n)[i]? = some wd ∧ x = wdV wd := by
        cases q : (redW (2 * rows.length) n)[i]? with
        | none => rw [q] at hx; cases hx
        | some cs => rw [q] at hx; exact ⟨cs, rfl, (Option.some.inj hx).symm⟩
      obtain ⟨w1, w2, w3⟩ := mem_redW.mp (List.mem_of_getElem? hwd)
      have w16 : Wd 16 wd := w2.mono (by omega)
      refine ⟨_, rfl, p, CL, dx, _, _, rfl, p3, L0.cl, L0.nM, LF3.lM, v, k, rows, rfl, NIs.mono (tkf fr3) _ _ hm, by omega, _, rfl, ?_⟩
      refine for_it (walk_txt _) (fun d σ H' => ∃ v4 fs', σ = [some (.ref p), some (.ref lo), some (.ref fo), some (wdV wd), v4] ∧ Frm [p] H H' ∧ H' lo = some (.lst ((lgTo (2 * rows.length) n i ++ rdTo wd d).map wdV)) ∧ H' fo = some (.lst []) ∧ H' p = some (.ins CL dx fs') ∧ LkF fs' v (c + (lgTo (2 * rows.length) n i ++ rdTo wd d).length) rl ∧ fs'.length ≤ c + (lgTo (2 * rows.length) n i ++ rdTo wd d).length + n + 4 ∧ ∀ u ∈ lgTo (2 * rows.length) n i ++ rdTo wd d, ¬ Rests k (lsOf rows) u)
        ⟨v4, fs3, rfl, fr3, by rw [rdTo_zero, List.append_nil]; exact l3, f3, p3, by rw [rdTo_zero, List.append_nil]; exact LF3, by rw [rdTo_zero, List.append_nil]; exact hfs3, by rw [rdTo_zero, List.append_nil]; exact no3⟩ (fun _ _ _ _ _ => True.intro) ?_ ?_
      · rintro d x σ H5 H6 hd ⟨v4, fs5, rfl, fr5, l5, f5, p5, LF5, hfs5, no5⟩ ⟨rfl, d', hd', rfl⟩
        have hdL : d < 2 * rows.length := by simpa using hd
        obtain rfl : d = d' := by
          rw [List.getElem?_range hdL] at hd'
          exact Option.some.inj hd'
        have hlw : Wd (2 * rows.length) (wd ++ [d]) := w2.append (Wd.one hdL)
        have hll : (wd ++ [d]).length ≤ 3 := by simp; omega
        have hbd := lgTo_len hwd (Nat.le_of_lt hdL)
        refine ⟨_, rfl, 1, rfl, _, rfl, _, rfl, by rw [txt_len]; exact sz100 (by omega), _, rfl, [d], rfl, Wd.one (by omega), by simp, fun H7 e7 => ?_⟩
        refine ⟨rfl, _, rfl, ?_⟩
        have hdl := dec_last w16 (show d < 16 by omega)
        rw [show (-(1 : Int)) = -1 from rfl, hdl]
        have fr7 : Frm [p] H H7 := fr5.trans (.of e7)
        have l7 := e7 _ _ l5
        have f7 := e7 _ _ f5
        have p7 := e7 _ _ p5
        refine iteND (fun hne => ?_) (fun heq => ?_)
        · have happ : txt wd ++ txt [d] = txt (wd ++ [d]) := (txt_append _ _).symm
          have hsz : (txt wd).length + (txt [d]).length ≤ sizeLine := by rw [txt_len, txt_len]; exact sz100 (by simp; omega)
          refine ⟨_, rfl, .inl ⟨rfl, _, SqL.of l7⟩, _, rfl, _, rfl, _, _, rfl, rfl, hsz, ?_⟩
          rw [happ]
          refine ⟨lo, _, _, rfl, rfl, l7, szlt (by rw [List.length_map]; omega), ?_⟩
          have nlp : lo ≠ p := Ne.symm nplo
          have fr8 := fr7.new (o := .lst (((lgTo (2 * rows.length) n i ++ rdTo wd d).map wdV) ++ [.str (txt (wd ++ [d]))])) hlo
          have l8 : (upd H7 lo (.lst (((lgTo (2 * rows.length) n i ++ rdTo wd d).map wdV) ++ [.str (txt (wd ++ [d]))]))) lo = some (.lst (((lgTo (2 * rows.length) n i ++ rdTo wd d).map wdV) ++ [.str (txt (wd ++ [d]))])) := upd_same
          have f8 : (upd H7 lo (.lst (((lgTo (2 * rows.length) n i ++ rdTo wd d).map wdV) ++ [.str (txt (wd ++ [d]))]))) fo = some (.lst []) := by rw [upd_ne (Ne.symm nlf)]; exact f7
          have p8 : (upd H7 lo (.lst (((lgTo (2 * rows.length) n i ++ rdTo wd d).map wdV) ++ [.str (txt (wd ++ [d]))]))) p = some (.ins CL dx fs5) := by rw [upd_ne nplo]; exact p7
          generalize upd H7 lo (.lst (((lgTo (2 * rows.length) n i ++ rdTo wd d).map wdV) ++ [V.str (txt (wd ++ [d]))])) = H8 at fr8 l8 f8 p8
          have el : lgTo (2 * rows.length) n i ++ rdTo wd (d + 1) = lgTo (2 * rows.length) n i ++ rdTo wd d ++ [wd ++ [d]] := by rw [rdTo_yes hne, List.append_assoc]
          have hmem : wd ++ [d] ∈ redW (2 * rows.length) (n + 1) := by
            refine mem_redW.mpr ⟨.snoc w1 hne, hlw, by simp; omega⟩
          refine ⟨_, rfl, p, dx, _, rfl, p8, LF5.nS, _, rfl, _, rfl, _, _, rfl, rfl, hsz, ?_⟩
          rw [happ]
          have hfs9 : (putF "count" (.int ((c + (lgTo (2 * rows.length) n i ++ rdTo wd d).length + 1 : Nat) : Int)) fs5).length ≤ c + (lgTo (2 * rows.length) n i ++ rdTo wd d).length + n + 4 + 1 := putF_len hfs5
          have fin : ∀ H9, Ex (upd H8 p (.ins CL dx (putF "count" (.int ((c + (lgTo (2 * rows.length) n i ++ rdTo wd d).length + 1 : Nat) : Int)) fs5))) H9 → Frm [p] H H9 ∧ H9 lo = some (.lst ((lgTo (2 * rows.length) n i ++ rdTo wd (d + 1)).map wdV)) ∧ H9 fo = some (.lst []) ∧ H9 p = some (.ins CL dx (putF "count" (.int ((c + (lgTo (2 * rows.length) n i ++ rdTo wd d).length + 1 : Nat) : Int)) fs5)) := by
            intro H9 e9
            refine ⟨(fr8.trans (Frm.upd (List.mem_singleton.mpr rfl))).trans (.of e9), e9 _ _ ?_, e9 _ _ ?_, e9 _ _ upd_same⟩
            · rw [upd_ne nlp, l8, el, List.map_append (l₂ := [wd ++ [d]])]; rfl
            · rw [upd_ne (Ne.symm npfo)]; exact f8
          refine ⟨p, dx, fs5, v, k, rows, wd ++ [d], _, rfl, p8, LF5.lM, LF5.lC, by omega, by omega, NIs.mono (tkf fr8) _ _ hm, M, hlw, hll, fun hR H9 e9 => ?_, fun hR H9 e9 => ?_⟩
          · obtain ⟨g1, g2, g3, g4⟩ := fin H9 e9
            refine ⟨true, rfl, iteT ?_⟩
            refine ⟨_, rfl, .inl ⟨rfl, _, SqL.of g3⟩, _, rfl, _, rfl, _, _, rfl, rfl, hsz, ?_⟩
            rw [happ]
            refine ⟨fo, _, _, rfl, rfl, g3, (by show 0 < sizeLine; decide), ?_⟩
            refine ⟨_, rfl, p, CL, dx, _, _, rfl, (by rw [upd_ne npfo]; exact g4), L0.cl, L0.nO, (LF5.count _).lO, true, rfl, iteT ?_⟩
            exact ⟨_, rfl, qy _ fo (wd ++ [d]) (g1.new hfo0) upd_same hmem hR⟩
          · obtain ⟨g1, g2, g3, g4⟩ := fin H9 e9
            refine ⟨false, rfl, iteF ?_⟩
            refine ⟨_, _, rfl, g1, g2, g3, g4, ?_, ?_, ?_⟩
            · rw [el, List.length_append (bs := [wd ++ [d]]), ← Nat.add_assoc]
              exact LF5.count _
            · rw [el, List.length_append (bs := [wd ++ [d]])]
              simp only [List.length_singleton]
              omega
            · rw [el]
              intro u hu
              rcases List.mem_append.mp hu with z | z
              · exact no5 u z
              · rw [List.mem_singleton.mp z]; exact hR
        · have el : rdTo wd (d + 1) = rdTo wd d := rdTo_no heq
          refine ⟨_, fs5, rfl, fr7, ?_, f7, p7, ?_, ?_, ?_⟩
          · rw [el]; exact l7
          · rw [el]; exact LF5
          · rw [el]; exact hfs5
          · rw [el]; exact no5
      · rintro σ H5 ⟨v4, fs5, rfl, fr5, l5, f5, p5, LF5, hfs5, no5⟩
        rw [List.length_range, ← lgTo_next hwd] at l5 LF5 hfs5 no5
        exact ⟨_, _, _, rfl, fr5, l5, f5, p5, LF5, hfs5, no5⟩
    · rintro σ H3 ⟨v3, v4, fs3, rfl, fr3, l3, f3, p3, LF3, hfs3, no3⟩
      rw [List.length_map, lgTo_all] at l3 LF3 hfs3 no3
      refine ⟨_, rfl, _, rfl, p, CL, dx, _, rfl, p3, L0.cl, L0.nR, by omega, ?_⟩
      refine ⟨_, rfl, qn _ fo _ _ lo (fr3.trans (Frm.upd (List.mem_singleton.mpr rfl))) ?_ no3 upd_same (LF3.ring lo) ?_ (by omega) ?_⟩
      · rw [upd_ne (Ne.symm npfo)]; exact f3
      · have := putF_len (f := "ring") (v := .ref lo) hfs3
        omega
      · rw [upd_ne (Ne.symm nplo)]; exact l3
end
end Lw
set_option Elab.async false
set_option linter.all false
set_option maxRecDepth 100000
set_option maxHeartbeats 4000000
namespace Lw
open PySem L2 Evl Lf
section
variable {P : Program} {w : World} {K : PySem.W.Frag} {mg : Str → Option Value} {base : Heap} {C : Addr}
/-- what first_relation tells -/
def FirstOk (k : Nat) (rows : Rows) (n : Nat) (x : V) : Prop :=
  (x = .non ∧ ∀ i, 1 ≤ i → i ≤ n → ∀ u ∈ redW (2 * rows.length) i, ¬ Rests k (lsOf rows) u) ∨
  ∃ u j, x = .str (txt u) ∧ u ∈ redW (2 * rows.length) j ∧ 1 ≤ j ∧ j ≤ n ∧ ∀ i, 1 ≤ i → i < j → ∀ u ∈ redW (2 * rows.length) i, ¬ Rests k (lsOf rows) u
def spFirst : Sp := fun vs H Q _ => ∃ v k rows, ∃ n : Nat, vs = [v, .int n] ∧ NIs H (machK k rows) v ∧ MOk k rows ∧ 1 ≤ n ∧ n ≤ 3 ∧ ∀ H' x, Ex H H' → FirstOk k rows n x → Q x H'
abbrev nFirst : List Str := ["machine", "length", "look", "_", "found"]
theorem scFirst : FnScope nFirst ["machine", "length"] (defScope sFirstRel) := ⟨rfl, rfl, rfl, by decide +kernel, rfl, by decide +kernel, by decide +kernel⟩
theorem ok_first {f fC fI fN CL : Addr} {fd fdC fdI fdN : FuncData} (D : Df K mg "first_relation" sFirstRel ["machine", "length"] f fd) (L0 : TLk K mg CL)
    (CD : Df K mg "check_call" sCheckCall ["machine", "length"] fC fdC) (GC : FnOk P w K mg base CX0 5 fC fdC ["machine", "length"] spCheckCall)
    (MI : Mk K CL fI) (bI : Binds K fdI ["self", "machine", "once"] []) (GI : FnOk P w K mg base CX0 1 fI fdI ["self", "machine", "once"] (spLInit CL))
    (mN : Meth K CL "next_ring" fN) (bN : Binds K fdN ["self"] []) (GN : FnOk P w K mg base CX0 7 fN fdN ["self"] (spNext CL)) (T : TWords mg) : FnOk P w K mg base CX0 8 f fd ["machine", "length"] spFirst := by
  refine D.F.ok scFirst (fun vs H Q E h => ?_) (fun cdv Ar outer s H vs Q E hr h => ?_)
  · obtain ⟨_, _, _, _, rfl, _⟩ := h; rfl
  · obtain ⟨v, k, rows, n, rfl, hm, M, hn1, hn, q⟩ := h
    refine ⟨_, pss_cons (ps_expr (pe_call GC (hr.mono (by decide)) rfl CD.g CD.F.kp CD.b .nil pass0 (pa_cons (pv 0) (pa_cons (pv 1) pa_nil))))
      (pss_cons (ps_set (i := 2) scFirst.nd rfl (Or.inl rfl) (pe_make MI GI (hr.mono (by decide)) rfl L0.g bI .nil pass0 (pa_cons (pv 0) (pa_cons pe_bl pa_nil))))
      (pss_cons (ps_for PassesOwn.never rfl (pi_range1 (by rfl) T.range (pa_cons (pv 1) pa_nil)) (pg_name (i := 3) scFirst.nd rfl (Or.inl rfl))
        (pss_cons (ps_set (i := 4) scFirst.nd rfl (Or.inl rfl) (pe_meth0 (pv 2) L0.cl mN GN hr bN .nil pass0))
        (pss_one (ps_if (pt_truth (pv 4) (by intro _; rfl)) (pss_one (ps_ret (pe_ix ix_list (pv 4) pe_int (fun _ _ => rfl)))) pss_nil))))
      (pss_one (ps_ret pe_non)))), ?_⟩
    refine ⟨_, rfl, _, rfl, v, k, rows, n, rfl, hm, M, hn1, by omega, fun H1 e1 => ?_⟩
    refine ⟨_, rfl, fun p dx hp hdx ndx => ?_⟩
    have hp0 : H p = none := fresh_back e1 hp
    refine ⟨H1, p, dx, v, rfl, made_ex hp hdx, hp, upd_same, fun H2 rl e2 p2 r2 => ⟨rfl, ?_⟩⟩
    have e02 := e1.trans e2
    refine ⟨_, rfl, _, rfl, by omega, by omega, for_it walk_rg (fun i σ H' => ∃ v3 v4 fs c rl, σ = [some v, some (.int (n : Nat)), some (.ref p), v3, v4] ∧ Ex H H' ∧ H' p = some (.ins CL dx fs) ∧ LkF fs v c rl ∧ fs.length ≤ c + i + 4 ∧ c ≤ 187 * i ∧ H' rl = some (.lst ((redW (2 * rows.length) i).map wdV)) ∧ ∀ j, 1 ≤ j → j ≤ i → ∀ u ∈ redW (2 * rows.length) j, ¬ Rests k (lsOf rows) u)
      ⟨none, none, _, 0, rl, rfl, e02, p2, lk0_ok v rl, ?_, Nat.zero_le _, r2, fun j h1 h2 => absurd h2 (by omega)⟩ (fun _ _ _ _ _ => True.intro) ?_ ?_⟩
    · exact putF_len (n := 3) (putF_len (n := 2) (putF_len (n := 1) (putF_len (n := 0) (by simp))))
    · rintro i x σ H3 H4 hi ⟨v3, v4, fs, c, rl, rfl, e3, p3, LF, hfs, hc, r3, no⟩ ⟨rfl, rfl⟩
      have hin : i < n := by simpa using hi
      refine ⟨_, rfl, p, dx, _, rfl, p3, LF.nN, p, dx, fs, v, k, rows, rl, c, i, rfl, p3, LF, hfs, NIs.mono (.of e3) _ _ hm, M, r3, by omega, hc, fun H5 a u f5 ha hu hR => ?_, fun H5 a c' fs' rl' f5 ha hno p5 LF5 hfs5 hc5 r5 => ?_⟩
      · refine ⟨_, rfl, true, .inl ⟨_, SqL.of ha, rfl⟩, ?_⟩
        refine iteT ⟨_, rfl, a, _, 0, _, rfl, rfl, SqL.of ha, rfl, ?_⟩
        exact q H5 _ (f5.ex e3 (by simpa using hp0)) (.inr ⟨u, i + 1, rfl, hu, by omega, hin, fun j h1 h2 => no j h1 (by omega)⟩)
      · refine ⟨_, rfl, false, .inl ⟨_, SqL.of ha, rfl⟩, ?_⟩
        refine iteF ?_
        refine ⟨_, _, fs', c', rl', rfl, f5.ex e3 (by simpa using hp0), p5, LF5, hfs5, hc5, r5, fun j h1 h2 => ?_⟩
        by_cases e : j = i + 1
        · subst e; exact hno
        · exact no j h1 (by omega)
    · rintro σ H3 ⟨v3, v4, fs, c, rl, rfl, e3, p3, LF, hfs, hc, r3, no⟩
      refine q H3 _ e3 (.inl ⟨rfl, fun i h1 h2 => no i h1 ?_⟩)
      simp
      exact h2
end
end Lw
set_option Elab.async false
set_option linter.all false
set_option maxRecDepth 100000
set_option maxHeartbeats 4000000
namespace Lw
open PySem L2 Evl Lf
/-- a list of numbers stands at d -/
def DrAt (H : Hp) (d : Addr) : Prop := ∃ ms : List Int, H d = some (.lst (ms.map V.int)) ∧ ms.length ≤ 3780
theorem DrAt.mono {H H' : Hp} {d : Addr} (h : DrAt H d) (e : Ex H H') : DrAt H' d := let ⟨ms, a, b⟩ := h; ⟨ms, e _ _ a, b⟩
section
variable {P : Program} {w : World} {K : PySem.W.Frag} {mg : Str → Option Value} {base : Heap} {C : Addr}
def spLwNumber : Sp := fun vs H Q _ => ∃ i, vs = [.int i] ∧ ∀ j : Int, Q (.int j) H
theorem scLwNumber : FnScope ["_law_cell"] ["_law_cell"] (defScope sLwNumber) := ⟨rfl, rfl, rfl, by decide +kernel, rfl, by decide +kernel, by decide +kernel⟩
theorem ok_lwNumber {f : Addr} {fd : FuncData} (D : Df K mg "_law_number" sLwNumber ["_law_cell"] f fd) : FnOk P w K mg base CX0 1 f fd ["_law_cell"] spLwNumber := by
  refine D.F.ok scLwNumber (fun vs H Q E h => ?_) (fun cdv Ar outer s H vs Q E hr h => ?_)
  · obtain ⟨_, rfl, _⟩ := h; rfl
  · obtain ⟨i, rfl, q⟩ := h
    refine ⟨_, pss_cons (ps_if (pt_cmpR op_lt (pv 0) pe_int (nomark _)) (pss_one (ps_ret (pe_op op_sub pe_int (pv 0)))) pss_nil) (pss_one (ps_ret (pv 0))), ?_⟩
    exact ⟨_, rfl, _, _, rfl, rfl, _, rfl, iteD (fun _ => ⟨_, rfl, _, _, rfl, rfl, q _⟩) (fun _ => ⟨_, rfl, q _⟩)⟩
def spLwDraws (K : PySem.W.Frag) : Sp := fun vs H Q _ => ∃ (a : Addr) (ns : List Int), vs = [.ref a] ∧ SqL K H a (ns.map V.int) ∧ ns.length ≤ 63 ∧ ∀ H' d, Ex H H' → DrAt H' d → Q (.ref d) H'
abbrev nDraws : List Str := ["_law_script", "_law_draws_here", "_law_cell", "_law_rest", "_law_k", "_law_once", "_law_twice"]
theorem scLwDraws : FnScope nDraws ["_law_script"] (defScope sLwDraws) := ⟨rfl, rfl, rfl, by decide +kernel, rfl, by decide +kernel, by decide +kernel⟩
theorem ok_lwDraws {f fN : Addr} {fd fdN : FuncData} (D : Df K mg "_law_draws" sLwDraws ["_law_script"] f fd) (ND : Df K mg "_law_number" sLwNumber ["_law_cell"] fN fdN) (T : TWords mg) : FnOk P w K mg base CX0 2 f fd ["_law_script"] (spLwDraws K) := by
  have GN : FnOk P w K mg base CX0 1 fN fdN ["_law_cell"] spLwNumber := ok_lwNumber ND
  refine D.F.ok scLwDraws (fun vs H Q E h => ?_) (fun cdv Ar outer s H vs Q E hr h => ?_)
  · obtain ⟨_, _, rfl, _⟩ := h; rfl
  · obtain ⟨a, ns, rfl, hS, hns, q⟩ := h
    refine ⟨_, pss_cons (ps_set (i := 1) scLwDraws.nd rfl (Or.inl rfl) (pe_lst pa_nil))
      (pss_cons (ps_for PassesOwn.never rfl (pi_list (pv 0)) (pg_name (i := 2) scLwDraws.nd rfl (Or.inl rfl))
        (pss_cons (ps_set (i := 3) scLwDraws.nd rfl (Or.inl rfl) (pe_call GN hr rfl ND.g ND.F.kp ND.b .nil pass0 (pa_cons (pv 2) pa_nil)))
        (pss_one (ps_if (pt_cmpR op_ge (pv 3) pe_int (nomark _))
          (pss_one (ps_for PassesOwn.never rfl (pi_range1 (by rfl) T.range (pa_cons pe_int pa_nil)) (pg_name (i := 4) scLwDraws.nd rfl (Or.inl rfl))
            (pss_cons (ps_if (pt_cmpR op_eq (pv 3) pe_int (nomark _)) (pss_one ps_break) pss_nil)
            (pss_cons (ps_expr (pe_bm PySem.F.plainAttrs_list PySem.F.slot_list_append PySem.F.type_list_append mt_append (pv 1) (pa_cons (pe_op op_mod (pe_callTy call_int1 (by rfl) T.int PyProof.Rows.boot_int (pa_cons (pv 3) pa_nil)) pe_int) pa_nil)))
            (pss_one (ps_set (i := 3) scLwDraws.nd rfl (Or.inl rfl) (pe_op op_fdiv (pv 3) pe_int)))))))
          (pss_cons (ps_set (i := 5) scLwDraws.nd rfl (Or.inl rfl) (pe_op op_mod (pe_callTy call_int1 (by rfl) T.int PyProof.Rows.boot_int (pa_cons (pe_op op_add (pe_op op_mul (pv 3) pe_int) pe_int) pa_nil)) pe_int))
          (pss_cons (ps_set (i := 6) scLwDraws.nd rfl (Or.inl rfl) (pe_op op_mod (pe_callTy call_int1 (by rfl) T.int PyProof.Rows.boot_int (pa_cons (pe_op op_add (pe_op op_mul (pv 5) pe_int) (pv 3)) pa_nil)) pe_int))
          (pss_one (ps_expr (pe_bm PySem.F.plainAttrs_list PySem.F.slot_list_extend PySem.F.type_list_extend mt_extend (pv 1) (pa_cons (pe_lst (pa_cons (pe_op op_mod (pe_callTy call_int1 (by rfl) T.int PyProof.Rows.boot_int (pa_cons (pv 3) pa_nil)) pe_int) (pa_cons (pe_op op_mod (pe_callTy call_int1 (by rfl) T.int PyProof.Rows.boot_int (pa_cons (pv 5) pa_nil)) pe_int) (pa_cons (pe_op op_mod (pe_callTy call_int1 (by rfl) T.int PyProof.Rows.boot_int (pa_cons (pv 6) pa_nil)) pe_int) pa_nil)))) pa_nil))))))))))
      (pss_one (ps_ret (pv 1)))), ?_⟩
    refine ⟨Nat.zero_le _, fun d hd => ?_⟩
    refine ⟨_, rfl, a, rfl, ⟨_, Same.seq (H := H) (Ex.new hd) hS⟩, for_it walk_list (fun i σ H' => ∃ v2 v3 v4 v5 v6, ∃ ms : List Int, σ = [some (.ref a), some (.ref d), v2, v3, v4, v5, v6] ∧ Ex H H' ∧ H' d = some (.lst (ms.map V.int)) ∧ ms.length ≤ 60 * i)
      ⟨none, none, none, none, none, [], rfl, Ex.new hd, upd_same, Nat.le_refl _⟩ (fun i σ H' _ ⟨_, _, _, _, _, _, _, e, _⟩ => Same.seq (H := H) e hS) ?_ ?_⟩
    · rintro i x σ H1 H2 hi ⟨v2, v3, v4, v5, v6, ms, rfl, e1, h1, hl⟩ ⟨rfl, hx⟩
      rw [List.getElem?_map] at hx
      obtain ⟨u, rfl⟩ : ∃ u, x = V.int u := by
        cases q : ns[i]? with
        | none => rw [q] at hx; cases hx
        | some u => rw [q] at hx; exact ⟨u, (Option.some.inj hx).symm⟩
      have hi : i < 63 := by
        rw [List.length_map] at hi
        omega
      refine ⟨_, rfl, u, rfl, fun r => ?_⟩
      refine ⟨_, rfl, _, _, rfl, rfl, _, rfl, iteD (fun _ => ?_) (fun _ => ?_)⟩
      · refine ⟨_, rfl, by decide, by decide, for_it walk_rg (fun j σ H' => ∃ v4, ∃ (r : Int) (ms : List Int), σ = [some (.ref a), some (.ref d), some (.int u), some (.int r), v4, v5, v6] ∧ Ex H H' ∧ H' d = some (.lst (ms.map V.int)) ∧ ms.length ≤ 60 * i + j)
          ⟨v4, r, ms, rfl, e1, h1, hl⟩ (fun _ _ _ _ _ => True.intro) ?_ ?_⟩
        · rintro j x σ H3 H4 hj ⟨v4, r, ms, rfl, e3, h3, hl3⟩ ⟨rfl, rfl⟩
          have hj : j < 60 := hj
          refine ⟨_, rfl, rfl, _, rfl, ite_b (fun _ => ?_) (fun _ => ?_)⟩
          · exact ⟨_, _, _, _, _, ms, rfl, e3, h3, by omega⟩
          · refine ⟨_, rfl, .inl ⟨rfl, _, SqL.of h3⟩, _, rfl, .inl ⟨_, rfl, _, _, rfl, rfl, (by show (0 : Int) < 1000; decide), d, _, _, rfl, rfl, h3, szlt (by rw [List.length_map]; omega), ?_⟩⟩
            refine ⟨_, rfl, _, _, rfl, rfl, ⟨by decide, by decide⟩, ?_⟩
            refine ⟨_, _, ms ++ [r % 1000], rfl, Ex.put e3 hd, ?_, by simp; omega⟩
            rw [upd_same, List.map_append]
            rfl
        · rintro σ H3 ⟨v4, r, ms, rfl, e3, h3, hl3⟩
          exact ⟨_, _, _, _, _, ms, rfl, e3, h3, hl3⟩
      · refine ⟨_, rfl, _, _, rfl, rfl, .inr ⟨by decide, by decide⟩, _, _, rfl, rfl, .inl ⟨_, rfl, _, _, rfl, rfl, (by show (0 : Int) < 2147483647; decide), ?_⟩⟩
        refine ⟨_, rfl, _, _, rfl, rfl, .inr ⟨by decide, by decide⟩, _, rfl, _, _, rfl, rfl, .inl ⟨_, rfl, _, _, rfl, rfl, (by show (0 : Int) < 2147483629; decide), ?_⟩⟩
        refine ⟨_, rfl, .inl ⟨rfl, _, SqL.of h1⟩, _, rfl, .inl ⟨_, rfl, _, _, rfl, rfl, (by show (0 : Int) < 1000; decide), _, rfl, .inl ⟨_, rfl, _, _, rfl, rfl, (by show (0 : Int) < 1000; decide), _, rfl, .inl ⟨_, rfl, _, _, rfl, rfl, (by show (0 : Int) < 1000; decide), (by show 3 ≤ sizeLine; decide), fun lb hlb => ?_⟩⟩⟩⟩
        have ndb : d ≠ lb := ne_of_none h1 hlb
        have hlb0 := fresh_back e1 hlb
        refine ⟨d, lb, _, _, rfl, rfl, by rw [upd_ne ndb]; exact h1, upd_same, sz100 (by rw [List.length_map]; simp; omega), ?_⟩
        refine ⟨_, _, _, _, _, ms ++ [r % 1000, (r * 48271 + 11) % 2147483647 % 1000, ((r * 48271 + 11) % 2147483647 * 69621 + r) % 2147483629 % 1000], rfl, Ex.put (e1.trans (Ex.new hlb)) hd, ?_, by rw [List.length_append]; show _ + 3 ≤ _; omega⟩
        rw [upd_same, List.map_append]
        rfl
    · rintro σ H1 ⟨v2, v3, v4, v5, v6, ms, rfl, e1, h1, hl⟩
      rw [List.length_map] at hl
      exact ⟨_, rfl, q H1 d e1 ⟨ms, h1, by omega⟩⟩
end
end Lw
set_option Elab.async false
set_option linter.all false
set_option maxRecDepth 100000
set_option maxHeartbeats 4000000
namespace Lw
open PySem L2 Evl Lf
section
variable {P : Program} {w : World} {K : PySem.W.Frag} {mg : Str → Option Value} {base : Heap} {C : Addr}
theorem nis_list {H H' : Hp} {d : Addr} {xs : List V} (hd : H d = some (.lst xs)) (f : Frm [d] H H') : TK H H' := fun a ys ha => f a _ (by simpa using ne_of ha hd (by intro z; cases z)) ha
theorem DrAt.tk {H H' : Hp} {d : Addr} (h : DrAt H d) (f : Frm [d] H H') : TK H H' := let ⟨_, a, _⟩ := h; nis_list a f
def spLwNext : Sp := fun vs H Q _ => ∃ d, vs = [.ref d] ∧ DrAt H d ∧ ∀ (i : Int) H', Frm [d] H H' → DrAt H' d → Q (.int i) H'
theorem scLwNext : FnScope ["_law_draws_here"] ["_law_draws_here"] (defScope sLwNext) := ⟨rfl, rfl, rfl, by decide +kernel, rfl, by decide +kernel, by decide +kernel⟩
theorem ok_lwNext {f : Addr} {fd : FuncData} (D : Df K mg "_law_next" sLwNext ["_law_draws_here"] f fd) : FnOk P w K mg base CX0 1 f fd ["_law_draws_here"] spLwNext := by
  refine D.F.ok scLwNext (fun vs H Q E h => ?_) (fun cdv Ar outer s H vs Q E hr h => ?_)
  · obtain ⟨_, rfl, _⟩ := h; rfl
  · obtain ⟨d, rfl, ⟨ms, hd, hl⟩, q⟩ := h
    refine ⟨_, pss_cons (ps_if (pt_truth (pv 0) (by intro _; rfl)) (pss_one (ps_ret (pe_bm0 PySem.F.plainAttrs_list PySem.F.slot_list_pop PySem.F.type_list_pop mt_pop (pv 0)))) pss_nil) (pss_one (ps_ret pe_int)), ?_⟩
    rcases List.eq_nil_or_concat ms with rfl | ⟨m, a, rfl⟩
    · refine ⟨_, rfl, false, .inl ⟨_, SqL.of hd, rfl⟩, iteF ?_⟩
      exact q 0 H (fun _ _ _ z => z) ⟨[], hd, hl⟩
    · rw [List.concat_eq_append] at hd hl
      refine ⟨_, rfl, true, .inl ⟨_, SqL.of hd, by simp⟩, iteT ?_⟩
      refine ⟨_, rfl, .inl ⟨rfl, _, SqL.of hd⟩, d, _, .int a, rfl, rfl, hd, ?_, ?_⟩
      · simp
      · refine q a _ (Frm.upd (List.mem_singleton.mpr rfl)) ⟨m, ?_, ?_⟩
        · rw [upd_same]; simp
        · rw [List.length_append] at hl; omega
def spLwWord : Sp := fun vs H Q _ => ∃ d v k rows, ∃ n : Nat, vs = [.ref d, v, .int n] ∧ DrAt H d ∧ NIs H (machK k rows) v ∧ MOk k rows ∧ n ≤ 3 ∧ ∀ H' wd, Frm [d] H H' → DrAt H' d → Wd (2 * rows.length) wd → wd.length ≤ n → Q (.str (txt wd)) H'
abbrev nLwWord : List Str := ["_law_draws_here", "_law_machine_here", "_law_most", "_law_word_here", "_law_letters_here", "_law_j"]
theorem scLwWord : FnScope nLwWord ["_law_draws_here", "_law_machine_here", "_law_most"] (defScope sLwWord) := ⟨rfl, rfl, rfl, by decide +kernel, rfl, by decide +kernel, by decide +kernel⟩
theorem mod_nat (i : Int) {n : Nat} (h : 0 < n) : ∃ m : Nat, i % (n : Int) = (m : Int) ∧ m < n := by
  have h1 := Int.emod_nonneg i (show (n : Int) ≠ 0 by omega)
  have h2 := Int.emod_lt_of_pos i (show (0 : Int) < (n : Int) by omega)
  exact ⟨(i % (n : Int)).toNat, by omega, by omega⟩
theorem at_range {n m : Nat} (h : m < n) : atI (txt (List.range n)).cps.toList (m : Int) = some (chr m) := by
  rw [txt_cps]
  exact atI_nat (by rw [List.getElem?_map, List.getElem?_range h]; rfl)
theorem ok_lwWord {f fN : Addr} {fd fdN : FuncData} (D : Df K mg "_law_word" sLwWord ["_law_draws_here", "_law_machine_here", "_law_most"] f fd) (ND : Df K mg "_law_next" sLwNext ["_law_draws_here"] fN fdN) (T : TWords mg) : FnOk P w K mg base CX0 2 f fd ["_law_draws_here", "_law_machine_here", "_law_most"] spLwWord := by
  have GN : FnOk P w K mg base CX0 1 fN fdN ["_law_draws_here"] spLwNext := ok_lwNext ND
  refine D.F.ok scLwWord (fun vs H Q E h => ?_) (fun cdv Ar outer s H vs Q E hr h => ?_)
  · obtain ⟨_, _, _, _, _, rfl, _⟩ := h; rfl
  · obtain ⟨d, v, k, rows, n, rfl, hD, hm, M, hn, q⟩ := h
    obtain ⟨a, b, vs, rfl, ha, hb, hv⟩ := mach_at hm
    have hL := M.le6
    have hL1 := M.pos
    refine ⟨_, pss_cons (ps_set (i := 3) scLwWord.nd rfl (Or.inl rfl) pe_str)
      (pss_cons (ps_set (i := 4) scLwWord.nd rfl (Or.inl rfl) (pe_slice sl_str pe_str po_none (po_some (pe_op op_mul pe_int (pe_callB call_len (by rfl) T.len PySem.boot_len (pa_cons (pe_ix ix_tup (pv 1) pe_int (fun _ _ => rfl)) pa_nil))))))
      (pss_cons (ps_for PassesOwn.never rfl (pi_range1 (by rfl) T.range (pa_cons (pe_op op_mod (pe_callTy call_int1 (by rfl) T.int PyProof.Rows.boot_int (pa_cons (pe_call GN hr rfl ND.g ND.F.kp ND.b .nil pass0 (pa_cons (pv 0) pa_nil)) pa_nil)) (pe_op op_add (pv 2) pe_int)) pa_nil)) (pg_name (i := 5) scLwWord.nd rfl (Or.inl rfl))
        (pss_one (ps_set (i := 3) scLwWord.nd rfl (Or.inl rfl) (pe_op op_add_str (pv 3) (pe_ix ix_str (pv 4) (pe_op op_mod (pe_callTy call_int1 (by rfl) T.int PyProof.Rows.boot_int (pa_cons (pe_call GN hr rfl ND.g ND.F.kp ND.b .nil pass0 (pa_cons (pv 0) pa_nil)) pa_nil)) (pe_callB call_len (by rfl) T.len PySem.boot_len (pa_cons (pv 4) pa_nil))) (fun _ _ => rfl))))))
      (pss_one (ps_ret (pv 3))))), ?_⟩
    refine ⟨_, rfl, a, _, 1, _, rfl, rfl, SqT.of ha, rfl, _, _, rfl, .inr ⟨_, SqT.of hb, rfl⟩, _, _, rfl, rfl, .inl (by decide), _, rfl, _, rfl, by decide, ?_⟩
    have e : (2 : Int) * (vs.length : Int) = ((2 * rows.length : Nat) : Int) := by rw [nall_len_map hv]; simp
    rw [e, cut_law _ (by omega)]
    refine ⟨_, rfl, d, rfl, hD, fun i H1 f1 D1 => ?_⟩
    obtain ⟨m, em, hmn⟩ := mod_nat i (show 0 < n + 1 by omega)
    refine .inl ⟨_, rfl, _, rfl, _, _, rfl, rfl, _, _, rfl, rfl, (by show (0 : Int) < (n : Int) + 1; omega), ?_⟩
    refine ⟨m, ?_, by omega, by omega, for_it walk_rg (fun j σ H' => ∃ wd v5, σ = [some (.ref d), some (.ref a), some (.int n), some (.str (txt wd)), some (.str (txt (List.range (2 * rows.length)))), v5] ∧ Frm [d] H H' ∧ DrAt H' d ∧ Wd (2 * rows.length) wd ∧ wd.length = j)
      ⟨[], none, rfl, f1, D1, Wd.nil, rfl⟩ (fun _ _ _ _ _ => True.intro) ?_ ?_⟩
    · rw [← em]; rfl
    · rintro j x σ H2 H3 hj ⟨wd, v5, rfl, f2, D2, hw, hwl⟩ ⟨rfl, rfl⟩
      have hjm : j < m := by simpa using hj
      refine ⟨_, rfl, _, rfl, _, rfl, d, rfl, D2, fun i H4 f4 D4 => .inl ⟨_, rfl, _, rfl, _, _, rfl, ⟨by rw [txt_len]; exact sz100 (by simp; omega), rfl⟩, _, _, rfl, rfl, ?_, ?_⟩⟩
      · show (0 : Int) < ((txt (List.range (2 * rows.length))).length : Int)
        rw [txt_len, List.length_range]
        omega
      · obtain ⟨c, ec, hc⟩ := mod_nat i hL1
        refine ⟨_, _, chr c, rfl, rfl, by rw [txt_len]; exact sz100 (by simp; omega), ?_, ?_⟩
        · show atI _ (i % ((txt (List.range (2 * rows.length))).length : Int)) = _
          rw [txt_len, List.length_range, ec]
          exact at_range hc
        · refine ⟨_, _, rfl, rfl, ?_, ?_⟩
          · show (txt wd).length + (txt [c]).length ≤ _
            rw [txt_len, txt_len]
            exact sz100 (by simp; omega)
          · refine ⟨wd ++ [c], some (.int j), ?_, f2.trans f4, D4, hw.append (Wd.one hc), by simp; omega⟩
            rw [txt_append]
            rfl
    · rintro σ H2 ⟨wd, v5, rfl, f2, D2, hw, hwl⟩
      refine ⟨_, rfl, q H2 wd f2 D2 hw ?_⟩
      simp at hwl
      omega
end
end Lw
set_option Elab.async false
set_option linter.all false
set_option maxRecDepth 100000
set_option maxHeartbeats 4000000
namespace Lw
open PySem L2 Evl Lf
section
variable {P : Program} {w : World} {K : PySem.W.Frag} {mg : Str → Option Value} {base : Heap} {C : Addr}
def rSIdx : V → List V → Hp → VK → Prop := fun x xs H Q => ∃ a b i rest, x = .str a ∧ xs = [.str b] ∧ Builtin.Str.occurrences a b 0 a.length 1 = i :: rest ∧ Q (.int (i : Nat)) H
def spLwUndone : Sp := fun vs H Q _ => ∃ wd, vs = [.str (txt wd)] ∧ Wd 8 wd ∧ wd.length ≤ 1000 ∧ RetV (.str (txt (Lf.undone wd))) H Q
abbrev nLwUndone : List Str := ["_law_word_here", "_law_letter"]
theorem scLwUndone : FnScope nLwUndone ["_law_word_here"] (defScope sLwUndone) := ⟨rfl, rfl, rfl, by decide +kernel, rfl, by decide +kernel, by decide +kernel⟩
theorem ok_lwUndone {f : Addr} {fd : FuncData} (D : Df K mg "_law_undone" sLwUndone ["_law_word_here"] f fd) : FnOk P w K mg base CX0 1 f fd ["_law_word_here"] spLwUndone := by
  refine D.F.ok scLwUndone (fun vs H Q E h => ?_) (fun cdv A outer s H vs Q E hr h => ?_)
  · obtain ⟨_, rfl, _⟩ := h; rfl
  · obtain ⟨wd, rfl, hw, hl, q⟩ := h
    refine ⟨_, pss_one (ps_ret (pe_join pe_str (pe_lc (own := [("_law_letter", 1)]) (g := gName 1) (tt := tYes) (te := tOp rIxS (tC (.str "AaBbCcDd")) (tBM K "str" rSIdx (tC (.str "aAbBcCdD")) (tCons (tVar 1) tNil))) rfl scLwUndone.nd (pi_str (pe_revS (pv 0))) (blkOk_by (N := nLwUndone) (sc := defScope sLwUndone) (by decide +kernel))
          (fun _ _ _ _ _ => pg_name (i := 1) scLwUndone.nd rfl (Or.inl rfl)) (fun _ _ _ _ _ => pts_nil)
          (fun _ _ _ _ _ => pe_ix (r := rIxS) ix_str pe_str (pe_bm (r := rSIdx) PySem.F.plainAttrs_str PySem.F.slot_str_index PySem.F.type_str_index mt_sindex pe_str (pa_cons (pv 1) pa_nil)) (fun _ _ => rfl))))), ?_⟩
    refine ⟨⟨_, rfl⟩, _, rfl, _, rfl, sz100 (by rw [txt_len]; omega), ?_⟩
    rw [txt_rev]
    refine ⟨_, rfl, fun Dl hD => lc_it (walk_txt wd.reverse) (fun i H' => Ex H H' ∧ H' Dl = some (.lst (((wd.reverse.map oth).take i).map one))) ⟨Ex.new hD, upd_same⟩ (fun _ _ _ _ => True.intro) ?_ ?_⟩
    · rintro i x H1 H2 hi ⟨e1, h1⟩ ⟨rfl, c, hc, rfl⟩
      rw [List.length_reverse] at hi
      refine lc_yes rfl ?_
      have hm := hw c (List.mem_reverse.mp (List.mem_of_getElem? hc))
      refine ⟨rfl, _, rfl, _, _, c, [], rfl, rfl, occ_law c hm, _, _, _, rfl, rfl, by decide, atI_nat (at_law c hm), _, h1, by rw [List.length_map, List.length_take]; exact szlt (by omega), Ex.put e1 hD, ?_⟩
      rw [upd_same, List.take_add_one, List.map_append, List.getElem?_map, hc]
      rfl
    · rintro H1 ⟨e1, h1⟩
      rw [List.take_of_length_le (by simp)] at h1
      refine ⟨⟨#[]⟩, Dl, (Lf.undone wd).map (fun c => txt [c]), rfl, rfl, .inl (SqL.of ?_), ?_, ?_⟩
      · rw [h1, List.map_map (f := fun c => txt [c])]; rfl
      · rw [join_sz, List.length_map, undone_len]
        show _ + wd.length * 0 ≤ _
        omega
      · rw [txt_join]
        exact q H1 e1
def spLwCut : Sp := fun vs H Q _ => ∃ w, vs = [.str (txt w)] ∧ Wd 8 w ∧ w.length ≤ 1000 ∧ RetV (.str (txt (Lf.cut w))) H Q
abbrev nLwCut : List Str := ["_law_word_here", "_law_kept", "_law_letter"]
theorem scLwCut : FnScope nLwCut ["_law_word_here"] (defScope sLwCut) := ⟨rfl, rfl, rfl, by decide +kernel, rfl, by decide +kernel, by decide +kernel⟩
theorem ok_lwCut {f fO : Addr} {fd fdO : FuncData} (D : Df K mg "_law_cut" sLwCut ["_law_word_here"] f fd) (O : Df K mg "_law_undone" sLwUndone ["_law_word_here"] fO fdO) : FnOk P w K mg base CX0 2 f fd ["_law_word_here"] spLwCut := by
  have G : FnOk P w K mg base CX0 1 fO fdO ["_law_word_here"] spLwUndone := ok_lwUndone O
  refine D.F.ok scLwCut (fun vs H Q E h => ?_) (fun cdv A outer s H vs Q E hr h => ?_)
  · obtain ⟨c, rfl, _⟩ := h; rfl
  · obtain ⟨w, rfl, hw, hl, q⟩ := h
    refine ⟨_, pss_cons (ps_set (i := 1) scLwCut.nd rfl (Or.inl rfl) (pe_lst pa_nil))
      (pss_cons (ps_for PassesOwn.never rfl (pi_str (pv 0)) (pg_name (i := 2) scLwCut.nd rfl (Or.inl rfl))
        (pss_one (ps_if (PW.pt (pw_and (pt_truth (pv 1) (by intro _; rfl)) (pw_and1 (pt_cmpR op_eq (pe_ix ix_list (pv 1) (pe_un un_neg pe_int) (fun _ _ => rfl)) (pe_call G hr rfl O.g O.F.kp O.b .nil pass0 (pa_cons (pv 2) pa_nil)) (nomark _)))))
          (pss_one (ps_expr (pe_bm0 PySem.F.plainAttrs_list PySem.F.slot_list_pop PySem.F.type_list_pop mt_pop (pv 1))))
          (pss_one (ps_expr (pe_bm PySem.F.plainAttrs_list PySem.F.slot_list_append PySem.F.type_list_append mt_append (pv 1) (pa_cons (pv 2) pa_nil)))))))
      (pss_one (ps_ret (pe_join pe_str (pv 1))))), ?_⟩
    refine ⟨Nat.zero_le _, fun l hl0 => ?_⟩
    refine ⟨_, rfl, _, rfl, for_it (walk_txt w) (fun i σ H' => ∃ v, σ = [some (.str (txt w)), some (.ref l), v] ∧ Ex H H' ∧ H' l = some (.lst (((w.take i).foldl cutStep []).map one)) ∧ Wd 8 ((w.take i).foldl cutStep []) ∧ ((w.take i).foldl cutStep []).length ≤ i)
      ⟨none, rfl, Ex.new hl0, upd_same, Wd.nil, Nat.le_refl _⟩ (fun _ _ _ _ _ => True.intro) ?_ ?_⟩
    · rintro i x σ H1 H2 hi ⟨v, rfl, e1, h1, h2, h3⟩ ⟨rfl, c, hc, rfl⟩
      have hc8 : c < 8 := hw c (List.mem_of_getElem? hc)
      have fin : ∀ (kept : List Nat), kept = (w.take i).foldl cutStep [] → ∀ H3, Ex H H3 → H3 l = some (.lst ((cutStep kept c).map one)) → ∃ v, [some (V.str (txt w)), some (V.ref l), some (one c)] = [some (.str (txt w)), some (.ref l), v] ∧ Ex H H3 ∧ H3 l = some (.lst (((w.take (i + 1)).foldl cutStep []).map one)) ∧ Wd 8 ((w.take (i + 1)).foldl cutStep []) ∧ ((w.take (i + 1)).foldl cutStep []).length ≤ i + 1 := by
        rintro kept rfl H3 e3 h4
        rw [cut_take w i hc]
        exact ⟨_, rfl, e3, h4, cutStep_wd h2 hc8, by have := cutStep_len ((w.take i).foldl cutStep []) c; omega⟩
      generalize hk : (w.take i).foldl cutStep [] = kept at h1 h2 h3
      have hs : kept.length < sizeLine := szlt (by omega)
      rcases snoc_cases kept with rfl | ⟨kp, d, rfl⟩
      · refine ⟨_, rfl, false, .inl ⟨_, SqL.of h1, rfl⟩, ?_⟩
        refine ⟨_, rfl, .inl ⟨rfl, _, SqL.of h1⟩, _, rfl, l, _, _, rfl, rfl, h1, by decide, ?_⟩
        refine fin [] hk.symm _ (Ex.put e1 hl0) ?_
        rw [upd_same]
        rfl
      · have hd8 : d < 8 := h2 d (by simp)
        have ho8 : oth c < 8 := oth_lt (by decide) hc8
        refine ⟨_, rfl, true, .inl ⟨_, SqL.of h1, by simp⟩, ?_⟩
        refine ⟨_, rfl, 1, rfl, l, _, _, one d, rfl, rfl, SqL.of h1, ?_, ?_⟩
        · rw [List.map_append]; exact atI_last _ _
        refine ⟨_, rfl, [c], rfl, Wd.one hc8, by simp, fun H4 e4 => ⟨rfl, _, rfl, ?_⟩⟩
        have h14 := e4 _ _ h1
        have e14 := e1.trans e4
        show if decide (V.str (txt [d]) = V.str (txt [oth c])) = true then _ else _
        rw [dec_txt1 (by omega) (by omega)]
        refine iteD (fun hq => ?_) (fun hq => ?_)
        · subst hq
          refine ⟨_, rfl, .inl ⟨rfl, _, SqL.of h14⟩, l, _, one (oth c), rfl, rfl, h14, ?_, ?_⟩
          · simp
          · refine fin _ hk.symm _ (Ex.put e14 hl0) ?_
            rw [upd_same]
            simp [cutStep]
        · refine ⟨_, rfl, .inl ⟨rfl, _, SqL.of h14⟩, _, rfl, l, _, _, rfl, rfl, h14, by rw [List.length_map]; exact hs, ?_⟩
          refine fin _ hk.symm _ (Ex.put e14 hl0) ?_
          rw [upd_same]
          simp [cutStep, hq]
    · rintro σ H1 ⟨v, rfl, e1, h1, h2, h3⟩
      rw [List.take_length] at h1 h3
      refine ⟨⟨_, rfl⟩, _, rfl, ⟨#[]⟩, l, (Lf.cut w).map (fun c => txt [c]), rfl, rfl, .inl (SqL.of ?_), ?_, ?_⟩
      · rw [h1, List.map_map]; rfl
      · rw [join_sz, List.length_map]
        have h4 : (Lf.cut w).length ≤ 1000 := by have := cut_len w; omega
        show _ + (Lf.cut w).length * 0 ≤ _
        omega
      · rw [txt_join]
        exact q H1 e1
end
end Lw
set_option Elab.async false
set_option linter.all false
set_option maxRecDepth 100000
set_option maxHeartbeats 4000000
namespace Lw
open PySem L2 Evl Lf
section
variable {P : Program} {w : World} {K : PySem.W.Frag} {mg : Str → Option Value} {base : Heap} {C : Addr}
def spLwDigit : Sp := fun vs H Q _ => ∃ v k rows wd, ∃ x : Nat, vs = [v, .str (txt wd), .int x] ∧ NIs H (machK k rows) v ∧ MOk k rows ∧ Wd (2 * rows.length) wd ∧ wd.length ≤ 1000 ∧ x < k ∧
  ∀ H' a, Ex H H' → H' a = some (.lst [.int (ws (lsOf rows) wd x).1, .str (txt (ws (lsOf rows) wd x).2)]) → Q (.ref a) H'
abbrev nLwDigit : List Str := ["_law_machine_here", "_law_word_here", "_law_x", "_law_section", "_law_letter", "_law_s", "_law_row", "_law_y", "_law_entry"]
theorem scLwDigit : FnScope nLwDigit ["_law_machine_here", "_law_word_here", "_law_x"] (defScope sLwDigit) := ⟨rfl, rfl, rfl, by decide +kernel, rfl, by decide +kernel, by decide +kernel⟩
theorem ent_get {H : Hp} {r : List (Nat × Nat)} {vs : List V} (h : NAll H (r.map entK) vs) {x : Nat} {e : Nat × Nat} (he : r[x]? = some e) : ∃ a, vs[x]? = some (.ref a) ∧ H a = some (.tup [.int e.1, .int e.2]) := by
  obtain ⟨v, h1, h2⟩ := h.get (show (r.map entK)[x]? = some (entK e) by rw [List.getElem?_map, he]; rfl)
  obtain ⟨a, rfl, ha⟩ := ent_at h2
  exact ⟨a, h1, ha⟩
theorem at_abcdc {s : Nat} (h : s < 4) : atI ("abcd" : Str).cps.toList (s : Int) = some (chr (2 * s)) := by
  rw [chr_even]; exact atI_nat (at_abcd s h)
theorem at_ABCDc {s : Nat} (h : s < 4) : atI ("ABCD" : Str).cps.toList (s : Int) = some (chr (2 * s + 1)) := by
  rw [chr_odd]; exact atI_nat (at_ABCD s h)
theorem eqV_int (a b : Int) : eqV (.int a) (.int b) = decide (a = b) := by
  unfold eqV
  exact Bool.eq_iff_iff.mpr (by simp)
theorem ok_lwDigit {f : Addr} {fd : FuncData} (D : Df K mg "_law_digit" sLwDigit ["_law_machine_here", "_law_word_here", "_law_x"] f fd) : FnOk P w K mg base CX0 1 f fd ["_law_machine_here", "_law_word_here", "_law_x"] spLwDigit := by
  refine D.F.ok scLwDigit (fun vs H Q E h => ?_) (fun cdv Ar outer s H vs Q E hr h => ?_)
  · obtain ⟨_, _, _, _, _, rfl, _⟩ := h; rfl
  · obtain ⟨v, k, rows, wd, x, rfl, hm, M, hw, hwl, hx, q⟩ := h
    obtain ⟨a, b, vs, rfl, ha, hb, hv⟩ := mach_at hm
    have hk3 := M.k3
    have hn3 := M.n3
    refine ⟨_, pss_cons (ps_set (i := 3) scLwDigit.nd rfl (Or.inl rfl) pe_str)
      (pss_cons (ps_for PassesOwn.never rfl (pi_str (pv 1)) (pg_name (i := 4) scLwDigit.nd rfl (Or.inl rfl))
        (pss_cons (ps_set (i := 5) scLwDigit.nd rfl (Or.inl rfl) (pe_op op_fdiv (pe_bm (r := rSIdx) PySem.F.plainAttrs_str PySem.F.slot_str_index PySem.F.type_str_index mt_sindex pe_str (pa_cons (pv 4) pa_nil)) pe_int))
        (pss_cons (ps_set (i := 6) scLwDigit.nd rfl (Or.inl rfl) (pe_ix ix_tup (pe_ix ix_tup (pv 0) pe_int (fun _ _ => rfl)) (pv 5) (fun _ _ => rfl)))
        (pss_one (ps_if (pt_cmpR op_in_sign (pv 4) pe_str rfl)
          (pss_cons (ps_set (i := 3) scLwDigit.nd rfl (Or.inl rfl) (pe_op op_add_str (pv 3) (pe_ix ix_str pe_str (pe_ix ix_tup (pe_ix ix_tup (pv 6) (pv 2) (fun _ _ => rfl)) pe_int (fun _ _ => rfl)) (fun _ _ => rfl))))
          (pss_one (ps_set (i := 2) scLwDigit.nd rfl (Or.inl rfl) (pe_ix ix_tup (pe_ix ix_tup (pv 6) (pv 2) (fun _ _ => rfl)) pe_int (fun _ _ => rfl)))))
          (pss_cons (ps_set (i := 7) scLwDigit.nd rfl (Or.inl rfl) (pe_bm PySem.F.plainAttrs_list PySem.F.slot_list_index PySem.F.type_list_index mt_index
              (pe_lc (own := [("_law_entry", 8)]) (g := gName 8) (tt := tYes) rfl scLwDigit.nd (pi_tup (pv 6)) (blkOk_by (N := nLwDigit) (sc := defScope sLwDigit) (by decide +kernel))
                (fun _ _ _ _ _ => pg_name (i := 8) scLwDigit.nd rfl (Or.inl rfl)) (fun _ _ _ _ _ => pts_nil) (fun _ _ _ _ _ => pe_ix (r := rIxT K) ix_tup (pv 8) pe_int (fun _ _ => rfl))) (pa_cons (pv 2) pa_nil)))
          (pss_cons (ps_set (i := 3) scLwDigit.nd rfl (Or.inl rfl) (pe_op op_add_str (pv 3) (pe_ix ix_str pe_str (pe_ix ix_tup (pe_ix ix_tup (pv 6) (pv 7) (fun _ _ => rfl)) pe_int (fun _ _ => rfl)) (fun _ _ => rfl))))
          (pss_one (ps_set (i := 2) scLwDigit.nd rfl (Or.inl rfl) (pv 7))))))))))
      (pss_one (ps_ret (pe_lst (pa_cons (pv 2) (pa_cons (pv 3) pa_nil)))))), ?_⟩
    refine ⟨_, rfl, _, rfl, for_it (walk_txt wd) (fun i σ H' => ∃ v4 v5 v6 v7 v8, σ = [some (.ref a), some (.str (txt wd)), some (.int ((ws (lsOf rows) (wd.take i) x).1 : Nat)), some (.str (txt (ws (lsOf rows) (wd.take i) x).2)), v4, v5, v6, v7, v8] ∧ Ex H H')
      ⟨none, none, none, none, none, rfl, Ex.refl _⟩ (fun _ _ _ _ _ => True.intro) ?_ ?_⟩
    · rintro i y σ H1 H2 hi ⟨v4, v5, v6, v7, v8, rfl, e1⟩ ⟨rfl, c, hc, rfl⟩
      have hcL : c < 2 * rows.length := hw c (List.mem_of_getElem? hc)
      have hc8 : c < 8 := by omega
      have hwt : Wd (2 * rows.length) (wd.take i) := fun b hb => hw b (List.mem_of_mem_take hb)
      have hdk := ws_dig M.ls hwt hx
      have hlen : (ws (lsOf rows) (wd.take i) x).2.length ≤ 1000 := by rw [ws_len, List.length_take]; omega
      have et : wd.take (i + 1) = wd.take i ++ [c] := by rw [List.take_add_one, hc]; rfl
      have es : ws (lsOf rows) (wd.take (i + 1)) x = ((lsOf rows c (ws (lsOf rows) (wd.take i) x).1).1, (ws (lsOf rows) (wd.take i) x).2 ++ [(lsOf rows c (ws (lsOf rows) (wd.take i) x).1).2]) := by rw [et, ws_snoc]
      generalize (ws (lsOf rows) (wd.take i) x).1 = z at hdk es
      generalize (ws (lsOf rows) (wd.take i) x).2 = sx at hlen es
      have hs : c / 2 < rows.length := by omega
      have hr1 : rows[c / 2]? = some rows[c / 2] := List.getElem?_eq_getElem hs
      generalize rows[c / 2] = r at hr1
      have R : RowOk k rows.length r := M.row r (List.mem_of_getElem? hr1)
      have hrl := R.len
      obtain ⟨rv, hrv, hnr⟩ := hv.get (show (rows.map rowK)[c / 2]? = some (rowK r) by rw [List.getElem?_map, hr1]; rfl)
      obtain ⟨rb, rvs, rfl, hrb, hrn⟩ := row_at hnr
      have ec2 : ((c : Int) / 2) = ((c / 2 : Nat) : Int) := by omega
      refine ⟨rfl, _, rfl, _, _, c, [], rfl, rfl, occ_law c hc8, _, _, rfl, rfl, ⟨by decide, by decide⟩, ?_⟩
      refine ⟨_, rfl, a, _, 1, _, rfl, rfl, SqT.of (e1 _ _ ha), rfl, _, rfl, b, vs, _, .ref rb, rfl, rfl, SqT.of (e1 _ _ hb), ?_, ?_⟩
      · show atI vs ((c : Int) / 2) = _
        rw [ec2]
        exact atI_nat hrv
      refine ⟨_, rfl, chr c, _, rfl, rfl, _, rfl, ?_⟩
      rw [in_abcd c hc8]
      refine iteD (fun hev => ?_) (fun hod => ?_)
      · have hzl : z < r.length := by rw [hrl]; exact hdk
        have he : r[z]? = some r[z] := List.getElem?_eq_getElem hzl
        generalize r[z] = e at he
        obtain ⟨eb, g1, g2⟩ := ent_get hrn he
        have hen : e.2 < 4 := by have := R.next e (List.mem_of_getElem? he); omega
        have ee : ent rows (c / 2) z = e := by rw [(lookup_rows hr1 z).1, List.getD, he]; rfl
        have el : lsOf rows c z = (e.1, 2 * e.2) := by unfold lsOf; rw [if_pos hev, ee]
        rw [el] at es
        refine ⟨_, rfl, _, rfl, _, rfl, rb, rvs, _, .ref eb, rfl, rfl, SqT.of (e1 _ _ hrb), atI_nat g1, eb, _, 1, _, rfl, rfl, SqT.of (e1 _ _ g2), rfl, _, _, _, rfl, rfl, by decide, at_abcdc hen, _, _, rfl, rfl, ?_, ?_⟩
        · show (txt sx).length + (txt [2 * e.2]).length ≤ _
          rw [txt_len, txt_len]
          exact sz100 (by simp; omega)
        refine ⟨_, rfl, _, rfl, rb, rvs, _, .ref eb, rfl, rfl, SqT.of (e1 _ _ hrb), atI_nat g1, eb, _, 0, _, rfl, rfl, SqT.of (e1 _ _ g2), rfl, ?_⟩
        refine ⟨some (one c), some (.int ((c : Int) / 2)), some (.ref rb), v7, v8, ?_, e1⟩
        rw [es, txt_append]
        rfl
      · have hy := R.inv_lt hdk
        have hyl : (r.map (·.1)).idxOf z < r.length := by rw [hrl]; exact hy
        have ho := R.out_inv hdk
        have he : r[(r.map (·.1)).idxOf z]? = some r[(r.map (·.1)).idxOf z] := List.getElem?_eq_getElem hyl
        rw [List.getD, he] at ho
        have hinv := (lookup_rows hr1 z).2
        generalize hye : (r.map (·.1)).idxOf z = y at hy hyl he ho hinv
        generalize r[y] = e at he ho
        have ho : e.1 = z := ho
        obtain ⟨eb, g1, g2⟩ := ent_get hrn he
        have hen : e.2 < 4 := by have := R.next e (List.mem_of_getElem? he); omega
        have ee : ent rows (c / 2) y = e := by rw [(lookup_rows hr1 y).1, List.getD, he]; rfl
        have el : lsOf rows c z = (y, 2 * e.2 + 1) := by unfold lsOf; rw [if_neg hod, hinv, ee]
        rw [el] at es
        refine ⟨_, rfl, rb, rfl, ⟨_, SqT.of (e1 _ _ hrb)⟩, fun Dl hD => lc_it walk_tup (fun j H' => Ex H2 H' ∧ H' Dl = some (.lst (((r.take j).map fun e => (e.1 : Int)).map V.int))) ⟨Ex.new hD, upd_same⟩ (fun _ H' _ p => SqT.of (p.1 _ _ (e1 _ _ hrb))) ?_ ?_⟩
        · rintro j x' H3 H4 hj ⟨e3, l3⟩ ⟨rfl, hx'⟩
          obtain ⟨e', he', hne'⟩ := nall_get_map hrn hx'
          obtain ⟨eb', rfl, heb'⟩ := ent_at hne'
          refine lc_yes rfl ?_
          refine ⟨_, rfl, eb', _, 0, _, rfl, rfl, SqT.of (e3 _ _ (e1 _ _ heb')), rfl, _, l3, by rw [List.length_map, List.length_map, List.length_take]; exact szlt (by omega), Ex.put e3 hD, ?_⟩
          rw [upd_same, List.take_add_one, he', List.map_append, List.map_append]
          rfl
        · rintro H3 ⟨e3, l3⟩
          rw [List.take_of_length_le (by rw [nall_len_map hrn]; exact Nat.le_refl _)] at l3
          have yget : ∀ m : Nat, (((r.map fun e => (e.1 : Int)).map V.int))[m]? = (r[m]?).map fun (e : Nat × Nat) => V.int (e.1 : Nat) := fun m => by rw [List.getElem?_map, List.getElem?_map, Option.map_map]; rfl
          refine ⟨.inl ⟨rfl, _, SqL.of l3⟩, _, rfl, Dl, _, _, y, .int (e.1 : Nat), rfl, rfl, SqL.of l3, rfl, ?_, ?_, ?_, ?_, ?_⟩
          · refine List.all_eq_true.mpr fun u hu => ?_
            obtain ⟨n, _, rfl⟩ := List.mem_map.mp hu
            rfl
          · rw [yget, he]; rfl
          · rw [ho, eqV_int]; simp
          · intro m z' hm' hz'
            rw [yget] at hz'
            cases qm : r[m]? with
            | none => rw [qm] at hz'; cases hz'
            | some e2 =>
              rw [qm] at hz'
              cases hz'
              rw [eqV_int]
              refine decide_eq_false fun h2 => ?_
              have h2 : e2.1 = z := by omega
              have q1 : (r.map (·.1))[m]? = some z := by rw [List.getElem?_map, qm, ← h2]; rfl
              have q2 : (r.map (·.1))[y]? = some z := by rw [List.getElem?_map, he, ← ho]; rfl
              have := (List.getElem?_inj (List.getElem?_eq_some_iff.mp q1).1 R.nodup).mp (q1.trans q2.symm)
              omega
          · have e13 := e1.trans e3
            refine ⟨_, rfl, _, rfl, _, rfl, rb, rvs, _, .ref eb, rfl, rfl, SqT.of (e13 _ _ hrb), atI_nat g1, eb, _, 1, _, rfl, rfl, SqT.of (e13 _ _ g2), rfl, _, _, _, rfl, rfl, by decide, at_ABCDc hen, _, _, rfl, rfl, ?_, ?_⟩
            · show (txt sx).length + (txt [2 * e.2 + 1]).length ≤ _
              rw [txt_len, txt_len]
              exact sz100 (by simp; omega)
            refine ⟨_, rfl, ?_⟩
            refine ⟨some (one c), some (.int ((c : Int) / 2)), some (.ref rb), some (.int y), v8, ?_, e13⟩
            rw [es, txt_append]
            rfl
    · rintro σ H1 ⟨v4, v5, v6, v7, v8, rfl, e1⟩
      rw [List.take_length]
      exact ⟨_, rfl, _, rfl, (by show 2 ≤ sizeLine; decide), fun l hl => q _ l (e1.trans (Ex.new hl)) upd_same⟩
end
end Lw
set_option Elab.async false
set_option linter.all false
set_option maxRecDepth 100000
set_option maxHeartbeats 4000000
namespace Lw
open PySem L2 Evl Lf
section
variable {P : Program} {w : World} {K : PySem.W.Frag} {mg : Str → Option Value} {base : Heap} {C : Addr}
def spLwRests : Sp := fun vs H Q _ => ∃ v k rows wd n, vs = [v, .str (txt wd)] ∧ NIs H (machK k rows) v ∧ MOk k rows ∧ Wd (2 * rows.length) wd ∧ wd.length ≤ n ∧ n ≤ 1000 ∧ (allRed (2 * rows.length) n).length ≤ 2999 ∧
  (Rests k (lsOf rows) wd → RetV (.bl true) H Q) ∧ (¬ Rests k (lsOf rows) wd → RetV (.bl false) H Q)
abbrev nLwRests : List Str := ["_law_machine_here", "_law_word_here", "_law_queue", "_law_met", "_law_j", "_law_x", "_law_image", "_law_section"]
theorem scLwRests : FnScope nLwRests ["_law_machine_here", "_law_word_here"] (defScope sLwRests) := ⟨rfl, rfl, rfl, by decide +kernel, rfl, by decide +kernel, by decide +kernel⟩
theorem ok_lwRests {f fC fD : Addr} {fd fdC fdD : FuncData} (D : Df K mg "_law_rests" sLwRests ["_law_machine_here", "_law_word_here"] f fd) (CD : Df K mg "_law_cut" sLwCut ["_law_word_here"] fC fdC) (GC : FnOk P w K mg base CX0 2 fC fdC ["_law_word_here"] spLwCut)
    (DD : Df K mg "_law_digit" sLwDigit ["_law_machine_here", "_law_word_here", "_law_x"] fD fdD) (T : TWords mg) : FnOk P w K mg base CX0 3 f fd ["_law_machine_here", "_law_word_here"] spLwRests := by
  have GD : FnOk P w K mg base CX0 1 fD fdD ["_law_machine_here", "_law_word_here", "_law_x"] spLwDigit := ok_lwDigit DD
  refine D.F.ok scLwRests (fun vs H Q E h => ?_) (fun cdv Ar outer s H vs Q E hr h => ?_)
  · obtain ⟨_, _, _, _, _, rfl, _⟩ := h; rfl
  · obtain ⟨v, k, rows, wd, n, rfl, hm, M, hw, hwn, hn, hB, qy, qn⟩ := h
    obtain ⟨ma, mb, mvs, rfl, hma, hmb, hmv⟩ := mach_at hm
    have hL := M.le6
    have hk3 := M.k3
    have S := M.ls
    refine ⟨_, pss_cons (ps_set (i := 2) scLwRests.nd rfl (Or.inl rfl) (pe_lst (pa_cons (pe_call GC hr rfl CD.g CD.F.kp CD.b .nil pass0 (pa_cons (pv 1) pa_nil)) pa_nil)))
      (pss_cons (ps_set (i := 3) scLwRests.nd rfl (Or.inl rfl) (pe_disp (pps_cons (pe_ix ix_list (pv 2) pe_int (fun _ _ => rfl)) pe_bl pps_nil) (by rfl) (by rfl) (fun z => by cases z) (by decide)))
      (pss_cons (ps_for PassesOwn.never rfl (pi_range1 (by rfl) T.range (pa_cons pe_int pa_nil)) (pg_name (i := 4) scLwRests.nd rfl (Or.inl rfl))
        (pss_cons (ps_if (pt_cmpR op_ge (pv 4) (pe_callB call_len (by rfl) T.len PySem.boot_len (pa_cons (pv 2) pa_nil)) (nomark _)) (pss_one (ps_ret pe_bl)) pss_nil)
        (pss_one (ps_for PassesOwn.never rfl (pi_range1 (by rfl) T.range (pa_cons (pe_ix ix_tup (pv 0) pe_int (fun _ _ => rfl)) pa_nil)) (pg_name (i := 5) scLwRests.nd rfl (Or.inl rfl))
          (pss_cons (ps_asg (pe_call GD (hr.mono (by decide)) rfl DD.g DD.F.kp DD.b .nil pass0 (pa_cons (pv 0) (pa_cons (pe_ix ix_list (pv 2) (pv 4) (fun _ _ => rfl)) (pa_cons (pv 5) pa_nil)))) (pg_unl rfl (pgs_cons (pg_name (i := 6) scLwRests.nd rfl (Or.inl rfl)) (pgs_cons (pg_name (i := 7) scLwRests.nd rfl (Or.inl rfl)) pgs_nil))))
          (pss_cons (ps_if (pt_cmpR op_ne (pv 6) (pv 5) (nomark _)) (pss_one (ps_ret pe_bl)) pss_nil)
          (pss_cons (ps_set (i := 7) scLwRests.nd rfl (Or.inl rfl) (pe_call GC hr rfl CD.g CD.F.kp CD.b .nil pass0 (pa_cons (pv 7) pa_nil)))
          (pss_one (ps_if (pt_cmp (pc_dnotin (hu_of hr) (pv 7) (pv 3))) (pss_cons (ps_dput (hu_of hr) (pv 3) (pv 7) pe_bl rfl) (pss_one (ps_expr (pe_bm PySem.F.plainAttrs_list PySem.F.slot_list_append PySem.F.type_list_append mt_append (pv 2) (pa_cons (pv 7) pa_nil))))) pss_nil)))))))))
      (pss_one (ps_ret pe_bl)))), ?_⟩
    refine ⟨_, rfl, wd, rfl, hw.mono (by omega), by omega, fun H2 e2 => ?_⟩
    refine ⟨(by show 1 ≤ sizeLine; decide), fun wl hwl => ?_⟩
    have hw0 : H wl = none := fresh_back e2 hwl
    have e3 : Ex H (upd H2 wl (.lst [V.str (txt (Lf.cut wd))])) := e2.trans (Ex.new hwl)
    have w3 : (upd H2 wl (.lst [V.str (txt (Lf.cut wd))])) wl = some (.lst [V.str (txt (Lf.cut wd))]) := upd_same
    generalize upd H2 wl (.lst [V.str (txt (Lf.cut wd))]) = H3 at e3 w3
    intro kd hkd
    have nkw : wl ≠ kd := ne_of_none w3 hkd
    have hk0 : H kd = none := fresh_back e3 hkd
    refine ⟨_, rfl, wl, _, 0, _, rfl, rfl, SqL.of (by rw [upd_ne nkw]; exact w3), rfl, upd_same, [(tk (Lf.cut wd), .bl true)], rfl, (by show 1 ≤ 15; decide), ?_⟩
    have hcw : Wd 16 (Lf.cut wd) := (cut_wd hw).mono (by omega)
    have ekv : mergeK [] [(tk (Lf.cut wd), V.bl true)] = [(tk (Lf.cut wd), V.bl true)] := rfl
    rw [ekv, upd_upd]
    have e4 : Ex H (upd H3 kd (.dK [(tk (Lf.cut wd), V.bl true)])) := e3.trans (Ex.new hkd)
    have w4 : (upd H3 kd (.dK [(tk (Lf.cut wd), V.bl true)])) wl = some (.lst ([Lf.cut wd].map wdV)) := by rw [upd_ne nkw]; exact w3
    have k4 : (upd H3 kd (.dK [(tk (Lf.cut wd), V.bl true)])) kd = some (.dK [(tk (Lf.cut wd), V.bl true)]) := upd_same
    generalize upd H3 kd (.dK [(tk (Lf.cut wd), V.bl true)]) = H4 at e4 w4 k4
    refine ⟨_, rfl, by decide, by decide, for_it walk_rg (fun i σ H' => ∃ (Wl : List (List Nat)) (kvs : List (L2.Key × V)) (v4 v5 v6 v7 : Option V), σ = [some (.ref ma), some (.str (txt wd)), some (.ref wl), some (.ref kd), v4, v5, v6, v7] ∧ Ex H H' ∧ H' wl = some (.lst (Wl.map wdV)) ∧ H' kd = some (.dK kvs) ∧ KP kvs Wl (fun _ => .bl true) ∧ i ≤ Wl.length ∧ BI k (2 * rows.length) (lsOf rows) n wd Wl i ∧ RI k (2 * rows.length) (lsOf rows) wd Wl i)
      ⟨[Lf.cut wd], _, none, none, none, none, rfl, e4, w4, k4, KP.one (f := fun _ => .bl true) hcw, Nat.zero_le _, BI.start hw hwn, RI.start S hw⟩ (fun _ _ _ _ _ => True.intro) ?_ ?_⟩
    · rintro i x σ H5' H5 hi ⟨Wl, kvs, v4, v5, v6, v7, rfl, e5, w5, k5, kp, hil, B, R⟩ ⟨rfl, rfl⟩
      have hWl : Wl.length ≤ 2999 := Nat.le_trans B.bound hB
      refine ⟨_, rfl, _, rfl, _, _, rfl, .inl ⟨_, SqL.of w5, rfl⟩, _, _, rfl, rfl, _, rfl, ?_⟩
      rw [List.length_map]
      refine iteD (fun hge => ?_) (fun hlt => ?_)
      · exact qy (R.yes S hw B (by omega)) H5 e5
      · have hlt : i < Wl.length := by omega
        have hgi : Wl[i]? = some Wl[i] := List.getElem?_eq_getElem hlt
        generalize Wl[i] = u at hgi
        obtain ⟨hu1, hu2, hu3⟩ := B.good u (List.mem_of_getElem? hgi)
        refine ⟨_, rfl, ma, _, 0, _, rfl, rfl, SqT.of (e5 _ _ hma), rfl, _, rfl, by omega, by omega, ?_⟩
        refine for_it walk_rg (fun j σ H' => ∃ (kvs : List (L2.Key × V)) (v5 v6 v7 : Option V), σ = [some (.ref ma), some (.str (txt wd)), some (.ref wl), some (.ref kd), some (.int i), v5, v6, v7] ∧ Ex H H' ∧ H' wl = some (.lst ((addW Wl ((secs k (lsOf rows) u).take j)).map wdV)) ∧ H' kd = some (.dK kvs) ∧ KP kvs (addW Wl ((secs k (lsOf rows) u).take j)) (fun _ => .bl true) ∧ ∀ x, x < j → (ws (lsOf rows) u x).1 = x)
          ⟨kvs, v5, v6, v7, rfl, e5, w5, k5, kp, fun x hx => absurd hx (Nat.not_lt_zero _)⟩ (fun _ _ _ _ _ => True.intro) ?_ ?_
        · rintro j x σ H6' H6 hj ⟨kvs, v5, v6, v7, rfl, e6, w6, k6, kp6, kept⟩ ⟨rfl, rfl⟩
          have hjk : j < k := by simpa using hj
          have hcs' : (secs k (lsOf rows) u)[j]? = some (sec (lsOf rows) u j) := by
            unfold secs
            rw [List.getElem?_map, List.getElem?_range hjk]
            rfl
          have gu : ((addW Wl ((secs k (lsOf rows) u).take j)).map wdV)[i]? = some (.str (txt u)) := by
            rw [List.getElem?_map, BI.get_grow hgi]; rfl
          refine ⟨_, rfl, _, rfl, _, rfl, wl, _, _, _, rfl, rfl, SqL.of w6, atI_nat gu, _, rfl, .ref ma, k, rows, u, j, rfl, NIs.mono (.of e6) _ _ hm, M, hu1, by omega, hjk, fun H7 a e7 ha => ?_⟩
          refine ⟨a, _, rfl, SqL.of ha, rfl, _, _, rfl, _, _, rfl, rfl, ?_⟩
          refine ⟨_, rfl, _, rfl, rfl, _, rfl, ?_⟩
          rw [dec_nat]
          refine iteND (fun hne => ?_) (fun heq => ?_)
          · exact qn (R.no (List.mem_of_getElem? hgi) hjk hne) H7 (e6.trans e7)
          have hsl := ws_wd S hu1 hjk
          refine ⟨_, rfl, _, rfl, hsl.mono (by omega), by rw [ws_len]; omega, fun H8 e8 => ?_⟩
          have e68 := e7.trans e8
          have w8 := e68 _ _ w6
          have k8 := e68 _ _ k6
          have e08 := e6.trans e68
          have hse : Lf.cut (ws (lsOf rows) u j).2 = sec (lsOf rows) u j := rfl
          rw [hse]
          generalize sec (lsOf rows) u j = cs at hcs'
          obtain ⟨g1, g2, g3⟩ := secs_good (n := n) S hu1 hu3 cs (List.mem_of_getElem? hcs')
          have g16 : Wd 16 cs := g1.mono (by omega)
          have et : (secs k (lsOf rows) u).take (j + 1) = (secs k (lsOf rows) u).take j ++ [cs] := by rw [List.take_add_one, hcs']; rfl
          have Bj := B.grow S hgi (cs := (secs k (lsOf rows) u).take j) fun c hc => List.mem_of_mem_take hc
          have hbj : (addW Wl ((secs k (lsOf rows) u).take j)).length ≤ 2999 := Nat.le_trans Bj.bound hB
          have kept' : ∀ x, x < j + 1 → (ws (lsOf rows) u x).1 = x := fun x hx => by
            by_cases e : x = j
            · subst e; exact heq
            · exact kept x (by omega)
          rw [et, addW_snoc]
          generalize addW Wl ((secs k (lsOf rows) u).take j) = Wj at w8 kp6 hbj
          refine ⟨_, rfl, _, rfl, kd, _, rfl, DGet.k (k := tk cs) k8, _, rfl, ?_⟩
          rw [kp6.val cs g16]
          by_cases hmem : cs ∈ Wj
          · rw [if_pos hmem, if_pos hmem]
            refine iteF ?_
            exact ⟨kvs, _, _, _, rfl, e08, w8, k8, kp6, kept'⟩
          · rw [if_neg hmem, if_neg hmem]
            refine iteT ?_
            refine ⟨_, rfl, _, rfl, kd, _, rfl, DPut.k (k := tk cs) k8 (szlt (by rw [kp6.len]; omega)), ?_⟩
            have nwk : wl ≠ kd := ne_of w8 k8 (by intro z; cases z)
            have w9 : (upd H8 kd (.dK (putK kvs (tk cs) (.bl true)))) wl = some (.lst (Wj.map wdV)) := by rw [upd_ne nwk]; exact w8
            refine ⟨_, rfl, .inl ⟨rfl, _, SqL.of w9⟩, _, rfl, wl, _, _, rfl, rfl, w9, szlt (by rw [List.length_map]; omega), ?_⟩
            refine ⟨_, _, _, _, rfl, Ex.put (Ex.put e08 hk0) hw0, ?_, ?_, kp6.put g16 hmem, kept'⟩
            · rw [upd_same, List.map_append]; rfl
            · rw [upd_ne (Ne.symm nwk), upd_same]
        · rintro σ H6 ⟨kvs, v5, v6, v7, rfl, e6, w6, k6, kp6, kept⟩
          have hkk : ((k : Int) - 0).toNat = k := by omega
          rw [show ((k : Int)).toNat = k by omega, List.take_of_length_le (by simp [secs])] at w6 kp6
          have hkp : ∀ x, x < k → (ws (lsOf rows) u x).1 = x := fun x hx => kept x (by simpa using hx)
          have B' := B.next S hgi
          have R' := R.next S B hgi hkp
          have hl' : i + 1 ≤ (addW Wl (secs k (lsOf rows) u)).length := by
            have := (List.getElem?_eq_some_iff.mp (BI.get_grow hgi (secs k (lsOf rows) u))).1
            omega
          exact ⟨_, kvs, _, _, _, _, rfl, e6, w6, k6, kp6, hl', B', R'⟩
    · rintro σ H5 ⟨Wl, kvs, v4, v5, v6, v7, rfl, e5, w5, k5, kp, hil, B, R⟩
      have hWl : Wl.length ≤ 2999 := Nat.le_trans B.bound hB
      exact absurd (show 3000 ≤ Wl.length from hil) (by omega)
def spLwEqual : Sp := fun vs H Q _ => ∃ v k rows u z, vs = [v, .str (txt u), .str (txt z)] ∧ NIs H (machK k rows) v ∧ MOk k rows ∧ Wd (2 * rows.length) u ∧ Wd (2 * rows.length) z ∧ (allRed (2 * rows.length) (u.length + z.length)).length ≤ 2999 ∧ u.length + z.length ≤ 1000 ∧
  ∀ (b : Bool) H', (b = true ↔ Eq' k (lsOf rows) u z) → Ex H H' → Q (.bl b) H'
theorem scLwEqual : FnScope ["_law_machine_here", "_law_one", "_law_other"] ["_law_machine_here", "_law_one", "_law_other"] (defScope sLwEqual) := ⟨rfl, rfl, rfl, by decide +kernel, rfl, by decide +kernel, by decide +kernel⟩
theorem ok_lwEqual {f fR fU : Addr} {fd fdR fdU : FuncData} (D : Df K mg "_law_equal" sLwEqual ["_law_machine_here", "_law_one", "_law_other"] f fd) (RD : Df K mg "_law_rests" sLwRests ["_law_machine_here", "_law_word_here"] fR fdR) (GR : FnOk P w K mg base CX0 3 fR fdR ["_law_machine_here", "_law_word_here"] spLwRests)
    (UD : Df K mg "_law_undone" sLwUndone ["_law_word_here"] fU fdU) : FnOk P w K mg base CX0 4 f fd ["_law_machine_here", "_law_one", "_law_other"] spLwEqual := by
  have GU : FnOk P w K mg base CX0 1 fU fdU ["_law_word_here"] spLwUndone := ok_lwUndone UD
  refine D.F.ok scLwEqual (fun vs H Q E h => ?_) (fun cdv Ar outer s H vs Q E hr h => ?_)
  · obtain ⟨_, _, _, _, _, rfl, _⟩ := h; rfl
  · obtain ⟨v, k, rows, u, z, rfl, hm, M, hu, hz, hB, hl, q⟩ := h
    have hL := M.le6
    have S := M.ls
    refine ⟨_, pss_one (ps_ret (pe_call GR hr rfl RD.g RD.F.kp RD.b .nil pass0 (pa_cons (pv 0) (pa_cons (pe_op op_add_str (pv 1) (pe_call GU (hr.mono (by decide)) rfl UD.g UD.F.kp UD.b .nil pass0 (pa_cons (pv 2) pa_nil))) pa_nil)))), ?_⟩
    refine ⟨_, rfl, _, rfl, _, rfl, z, rfl, hz.mono (by omega), by omega, fun H1 e1 => ?_⟩
    refine ⟨_, _, rfl, rfl, ?_, ?_⟩
    · rw [txt_len, txt_len, undone_len]; exact sz100 (by omega)
    · rw [← txt_append]
      refine ⟨v, k, rows, u ++ Lf.undone z, u.length + z.length, rfl, NIs.mono (.of e1) _ _ hm, M, hu.append (undone_wd S.even hz), by rw [List.length_append, undone_len]; exact Nat.le_refl _, hl, hB, fun h => ?_, fun h => ?_⟩
      · exact fun H2 e2 => q true H2 ⟨fun _ => (eq_iff_rests S hu hz).mp h, fun _ => rfl⟩ (e1.trans e2)
      · exact fun H2 e2 => q false H2 ⟨(fun z => nomatch z), fun z => absurd ((eq_iff_rests S hu hz).mpr z) h⟩ (e1.trans e2)
end
end Lw
set_option Elab.async false
set_option linter.all false
set_option maxRecDepth 100000
set_option maxHeartbeats 4000000
namespace Lw
open PySem L2 Evl Lf
abbrev nV (i : Nat) : V := .int (i : Nat)
theorem seqIx_nat {m n : Nat} (h : m < n) : seqIndex? (m : Int) n = some m := by
  unfold seqIndex?
  have h1 : ¬ (m : Int) < 0 := by omega
  have h2 : (m : Int) < (n : Int) := by omega
  simp [h1, h2]
theorem Frm.back {S : List Addr} {H H' : Hp} {d z : Addr} (f : Frm [d] H H') (D : DrAt H' d) (h : H' z = none) : H z = none := by
  cases q : H z with
  | none => rfl
  | some o =>
    obtain ⟨ms, hd, _⟩ := D
    have hz : z ≠ d := fun e => by rw [e, hd] at h; cases h
    rw [f z o (by simpa using hz) q] at h
    cases h
theorem ent_nis {H : Hp} {a : Addr} {x y : Nat} (h : H a = some (.tup [nV x, nV y])) : NIs H (entK (x, y)) (.ref a) :=
  nis_tup.mpr ⟨a, _, rfl, h, nall_cons.mpr ⟨_, _, rfl, nis_num.mpr rfl, nall_cons.mpr ⟨_, _, rfl, nis_num.mpr rfl, nall_nil.mpr rfl⟩⟩⟩
theorem DrAt.upd {H : Hp} {d z : Addr} {o : HO} (h : DrAt H d) (hz : z ≠ d) : DrAt (L2.upd H z o) d := let ⟨ms, a, b⟩ := h; ⟨ms, by rw [upd_ne (Ne.symm hz)]; exact a, b⟩
section
variable {P : Program} {w : World} {K : PySem.W.Frag} {mg : Str → Option Value} {base : Heap} {C : Addr}
def spLwMachine : Sp := fun vs H Q _ => ∃ d, vs = [.ref d, .int 2] ∧ DrAt H d ∧ ∀ H' v k rows, Frm [d] H H' → DrAt H' d → NIs H' (machK k rows) v → MOk k rows → Q v H'
abbrev nLwMachine : List Str := ["_law_draws_here", "_law_most", "_law_k", "_law_count", "_law_kind", "_law_rows", "_law_s", "_law_left", "_law_outs", "_law_x", "_law_own", "_law_row", "_law_following"]
theorem scLwMachine : FnScope nLwMachine ["_law_draws_here", "_law_most"] (defScope sLwMachine) := ⟨rfl, rfl, rfl, by decide +kernel, rfl, by decide +kernel, by decide +kernel⟩
theorem ok_lwMachine {f fN : Addr} {fd fdN : FuncData} (D : Df K mg "_law_machine" sLwMachine ["_law_draws_here", "_law_most"] f fd) (ND : Df K mg "_law_next" sLwNext ["_law_draws_here"] fN fdN) (T : TWords mg) : FnOk P w K mg base CX0 2 f fd ["_law_draws_here", "_law_most"] spLwMachine := by
  have GN : FnOk P w K mg base CX0 1 fN fdN ["_law_draws_here"] spLwNext := ok_lwNext ND
  refine D.F.ok scLwMachine (fun vs H Q E h => ?_) (fun cdv Ar outer s H vs Q E hr h => ?_)
  · obtain ⟨_, rfl, _⟩ := h; rfl
  · obtain ⟨d, rfl, hD, q⟩ := h
    refine ⟨_, pss_cons (ps_set (i := 2) scLwMachine.nd rfl (Or.inl rfl) (pe_op op_add pe_int (pe_op op_fdiv (pe_op op_mod (pe_callTy call_int1 (by rfl) T.int PyProof.Rows.boot_int (pa_cons (pe_call GN (hr.mono (by decide)) rfl ND.g ND.F.kp ND.b .nil pass0 (pa_cons (pv 0) pa_nil)) pa_nil)) pe_int) pe_int)))
      (pss_cons (ps_set (i := 3) scLwMachine.nd rfl (Or.inr rfl) (pe_op op_add pe_int (pe_op op_mod (pe_callTy call_int1 (by rfl) T.int PyProof.Rows.boot_int (pa_cons (pe_call GN (hr.mono (by decide)) rfl ND.g ND.F.kp ND.b .nil pass0 (pa_cons (pv 0) pa_nil)) pa_nil)) (pv 1))))
      (pss_cons (ps_set (i := 4) scLwMachine.nd rfl (Or.inl rfl) (pe_op op_mod (pe_callTy call_int1 (by rfl) T.int PyProof.Rows.boot_int (pa_cons (pe_call GN (hr.mono (by decide)) rfl ND.g ND.F.kp ND.b .nil pass0 (pa_cons (pv 0) pa_nil)) pa_nil)) pe_int))
      (pss_cons (ps_set (i := 5) scLwMachine.nd rfl (Or.inl rfl) (pe_lst pa_nil))
      (pss_cons (ps_for PassesOwn.never rfl (pi_range1 (by rfl) T.range (pa_cons (pv 3) pa_nil)) (pg_name (i := 6) scLwMachine.nd rfl (Or.inl rfl))
        (pss_cons (ps_set (i := 7) scLwMachine.nd rfl (Or.inl rfl) (pe_listRg rfl (by rfl) T.list (prg_1 (by rfl) T.range (pv 2))))
      (pss_cons (ps_set (i := 8) scLwMachine.nd rfl (Or.inl rfl) (pe_lst pa_nil))
      (pss_cons (ps_for PassesOwn.never rfl (pi_range1 (by rfl) T.range (pa_cons (pv 2) pa_nil)) (pg_name (i := 9) scLwMachine.nd rfl (Or.inl rfl))
        (pss_one (ps_expr (pe_bm PySem.F.plainAttrs_list PySem.F.slot_list_append PySem.F.type_list_append mt_append (pv 8) (pa_cons (pe_bm PySem.F.plainAttrs_list PySem.F.slot_list_pop PySem.F.type_list_pop mt_popAt (pv 7) (pa_cons (pe_op op_mod (pe_callTy call_int1 (by rfl) T.int PyProof.Rows.boot_int (pa_cons (pe_call GN (hr.mono (by decide)) rfl ND.g ND.F.kp ND.b .nil pass0 (pa_cons (pv 0) pa_nil)) pa_nil)) (pe_callB call_len (by rfl) T.len PySem.boot_len (pa_cons (pv 7) pa_nil))) pa_nil)) pa_nil)))))
      (pss_cons (ps_set (i := 10) scLwMachine.nd rfl (Or.inl rfl) (pe_op op_mod (pe_callTy call_int1 (by rfl) T.int PyProof.Rows.boot_int (pa_cons (pe_call GN (hr.mono (by decide)) rfl ND.g ND.F.kp ND.b .nil pass0 (pa_cons (pv 0) pa_nil)) pa_nil)) (pv 2)))
      (pss_cons (ps_set (i := 11) scLwMachine.nd rfl (Or.inl rfl) (pe_lst pa_nil))
      (pss_cons (ps_for PassesOwn.never rfl (pi_range1 (by rfl) T.range (pa_cons (pv 2) pa_nil)) (pg_name (i := 9) scLwMachine.nd rfl (Or.inl rfl))
        (pss_cons (ps_set (i := 12) scLwMachine.nd rfl (Or.inl rfl) (pe_op op_mod (pe_callTy call_int1 (by rfl) T.int PyProof.Rows.boot_int (pa_cons (pe_call GN (hr.mono (by decide)) rfl ND.g ND.F.kp ND.b .nil pass0 (pa_cons (pv 0) pa_nil)) pa_nil)) (pv 3)))
      (pss_cons (ps_if (pt_cmpR op_gt (pv 4) pe_int (nomark _)) (pss_cons (ps_set (i := 12) scLwMachine.nd rfl (Or.inl rfl) (pv 3))
      (pss_one (ps_if (pt_cmpR op_eq (pv 9) (pv 10) (nomark _)) (pss_one (ps_set (i := 12) scLwMachine.nd rfl (Or.inl rfl) (pe_op op_mod (pe_callTy call_int1 (by rfl) T.int PyProof.Rows.boot_int (pa_cons (pe_op op_sub (pe_op op_add (pv 6) (pv 4)) pe_int) pa_nil)) (pv 3)))) pss_nil))) pss_nil)
      (pss_one (ps_expr (pe_bm PySem.F.plainAttrs_list PySem.F.slot_list_append PySem.F.type_list_append mt_append (pv 11) (pa_cons (pe_tup (pa_cons (pe_ix ix_list (pv 8) (pv 9) (fun _ _ => rfl)) (pa_cons (pv 12) pa_nil))) pa_nil)))))))
      (pss_one (ps_expr (pe_bm PySem.F.plainAttrs_list PySem.F.slot_list_append PySem.F.type_list_append mt_append (pv 5) (pa_cons (pe_callTy call_tuple_of (by rfl) T.tuple PyProof.Rows.boot_tuple (pa_cons (pv 11) pa_nil)) pa_nil)))))))))))
      (pss_cons (ps_if (pt_cmpR op_gt (pv 4) pe_int (nomark _)) (pss_one (ps_expr (pe_bm PySem.F.plainAttrs_list PySem.F.slot_list_append PySem.F.type_list_append mt_append (pv 5) (pa_cons (pe_callTy call_tuple_of (by rfl) T.tuple PyProof.Rows.boot_tuple (pa_cons (pe_lc (own := [("_law_x", 9)]) (g := gName 9) (tt := tYes) rfl scLwMachine.nd (pi_range1 (by rfl) T.range (pa_cons (pv 2) pa_nil)) (blkOk_by (N := nLwMachine) (sc := defScope sLwMachine) (by decide +kernel)) (fun _ _ _ _ _ => pg_name (i := 9) scLwMachine.nd rfl (Or.inl rfl)) (fun _ _ _ _ _ => pts_nil) (fun _ _ _ _ _ => (pe_tup (pa_cons (pv 9) (pa_cons (pv 3) pa_nil))))) pa_nil)) pa_nil)))) pss_nil)
      (pss_one (ps_ret (pe_tup (pa_cons (pv 2) (pa_cons (pe_callTy call_tuple_of (by rfl) T.tuple PyProof.Rows.boot_tuple (pa_cons (pv 5) pa_nil)) pa_nil)))))))))), ?_⟩
    refine ⟨_, rfl, d, rfl, hD, fun i1 H1 f1 D1 => .inl ⟨_, rfl, _, _, rfl, rfl, (by show (0 : Int) < 3; decide), _, _, rfl, rfl, ⟨by decide, by decide⟩, _, _, rfl, rfl, ?_⟩⟩
    refine ⟨_, rfl, d, rfl, D1, fun i2 H2 f2 D2 => .inl ⟨_, rfl, _, rfl, _, _, rfl, rfl, (by show (0 : Int) < 2; decide), _, _, rfl, rfl, ?_⟩⟩
    refine ⟨_, rfl, d, rfl, D2, fun i3 H3 f3 D3 => .inl ⟨_, rfl, _, _, rfl, rfl, (by show (0 : Int) < 3; decide), ?_⟩⟩
    refine ⟨Nat.zero_le _, fun rl hrl => ?_⟩
    obtain ⟨m1, em1, hm1⟩ := mod_nat i1 (show 0 < 3 by decide)
    obtain ⟨m2, em2, hm2⟩ := mod_nat i2 (show 0 < 2 by decide)
    obtain ⟨kd, ekd, hkd⟩ := mod_nat i3 (show 0 < 3 by decide)
    have ek : (2 : Int) + i1 % 3 / 2 = ((2 + m1 / 2 : Nat) : Int) := by
      have : i1 % 3 = (m1 : Int) := em1
      omega
    have ec : (1 : Int) + i2 % 2 = ((1 + m2 : Nat) : Int) := by
      have : i2 % 2 = (m2 : Int) := em2
      omega
    have ekd : i3 % 3 = (kd : Int) := ekd
    have hk2 : 2 ≤ 2 + m1 / 2 := by omega
    have hk3 : 2 + m1 / 2 ≤ 3 := by omega
    have hc1 : 1 ≤ 1 + m2 := by omega
    have hc2 : 1 + m2 ≤ 2 := by omega
    generalize 2 + m1 / 2 = k at ek hk2 hk3
    generalize 1 + m2 = c at ec hc1 hc2
    have fr4 : Frm [d] H (upd H3 rl (.lst [])) := (f1.trans (f2.trans f3)).trans (.of (Ex.new hrl))
    have D4 : DrAt (upd H3 rl (.lst [])) d := D3.mono (Ex.new hrl)
    have hrl0 : H rl = none := (f1.trans (f2.trans f3)).back (S := []) D3 hrl
    have r4 : (upd H3 rl (.lst [])) rl = some (.lst []) := upd_same
    have nrd : rl ≠ d := fun e => by obtain ⟨ms, hd, _⟩ := D3; rw [e, hd] at hrl; cases hrl
    generalize upd H3 rl (.lst []) = H4 at fr4 D4 r4
    refine ⟨_, rfl, (c : Int), (by rw [← ec]), by omega, by omega, for_it walk_rg (fun t σ H' => ∃ (rs : Rows) (rvs : List V) (v6 v7 v8 v9 v10 v11 v12 : Option V), σ = [some (.ref d), some (.int 2), some (nV k), some (nV c), some (nV kd), some (.ref rl), v6, v7, v8, v9, v10, v11, v12] ∧ Frm [d] H H' ∧ DrAt H' d ∧ H' rl = some (.lst rvs) ∧ NAll H' (rs.map rowK) rvs ∧ rs.length = t ∧ ∀ r ∈ rs, RowOk k (if 0 < kd then c + 1 else c) r)
      ⟨[], [], none, none, none, none, none, none, none, ?_, fr4, D4, r4, nall_nil.mpr rfl, rfl, (fun r h => nomatch h)⟩ (fun _ _ _ _ _ => True.intro) ?_ ?_⟩
    · show [some (V.ref d), some (V.int 2), some (V.int ((2 : Int) + i1 % 3 / 2)), some (V.int ((1 : Int) + i2 % 2)), some (V.int (i3 % 3)), some (V.ref rl), none, none, none, none, none, none, none] = _
      rw [ek, ec, ekd]
    · rintro t x σ H5' H5 ht ⟨rs, rvs, v6, v7, v8, v9, v10, v11, v12, rfl, fr5, D5, r5, hn5, hrs, hrok⟩ ⟨rfl, rfl⟩
      have htc : t < c := by simpa using ht
      have hrvl : rvs.length = t := by rw [nall_len_map hn5, hrs]
      have hdz : ∀ {z : Addr}, H5 z = none → z ≠ d := fun hz e => by obtain ⟨ms, hd, _⟩ := D5; rw [e, hd] at hz; cases hz
      refine ⟨_, rfl, _, rfl, ⟨by omega, by omega, by omega, by omega, by omega⟩, fun lf hlf => ?_⟩
      have e6 : Ex H5 (upd H5 lf (.lst (rgV 0 (k : Int)))) := Ex.new hlf
      have l6 : (upd H5 lf (.lst (rgV 0 (k : Int)))) lf = some (.lst ((List.range k).map nV)) := by rw [upd_same, rgV_nat, List.map_map]; rfl
      generalize upd H5 lf (.lst (rgV 0 (k : Int))) = H6 at e6 l6
      refine ⟨Nat.zero_le _, fun ou hou => ?_⟩
      have nlo : lf ≠ ou := ne_of_none l6 hou
      have hou0 : H5 ou = none := fresh_back e6 hou
      have e67 : Ex H6 (upd H6 ou (.lst [])) := Ex.new hou
      have o7 : (upd H6 ou (.lst [])) ou = some (.lst (([] : List Nat).map nV)) := upd_same
      generalize upd H6 ou (.lst []) = H7 at e67 o7
      have e57 := e6.trans e67
      have l7 := e67 _ _ l6
      have nlfd := hdz hlf
      have noud := hdz hou0
      refine ⟨_, rfl, (k : Int), rfl, by omega, by omega, for_it walk_rg (fun j σ H' => ∃ (ls' os : List Nat) (v9 : Option V), σ = [some (.ref d), some (.int 2), some (nV k), some (nV c), some (nV kd), some (.ref rl), some (nV t), some (.ref lf), some (.ref ou), v9, v10, v11, v12] ∧ Frm [d] H5 H' ∧ DrAt H' d ∧ H' lf = some (.lst (ls'.map nV)) ∧ H' ou = some (.lst (os.map nV)) ∧ (os ++ ls').Perm (List.range k) ∧ os.length = j)
        ⟨List.range k, [], v9, rfl, .of e57, D5.mono e57, l7, o7, .refl _, rfl⟩ (fun _ _ _ _ _ => True.intro) ?_ ?_⟩
      · rintro j x σ H8' H8 hj ⟨ls', os, v9, rfl, f8, D8, l8, o8, pm, hos⟩ ⟨rfl, rfl⟩
        have hjk : j < k := by simpa using hj
        have hpl := pm.length_eq
        rw [List.length_append, List.length_range, hos] at hpl
        refine ⟨_, rfl, .inl ⟨rfl, _, SqL.of o8⟩, _, rfl, .inl ⟨rfl, _, SqL.of l8⟩, _, rfl, d, rfl, D8, fun i H9 f9 D9 => ?_⟩
        have l9 := f9 lf _ (by simpa using nlfd) l8
        have o9 := f9 ou _ (by simpa using noud) o8
        obtain ⟨m, em, hm⟩ := mod_nat i (show 0 < ls'.length by omega)
        have hy : ls'[m]? = some ls'[m] := List.getElem?_eq_getElem hm
        generalize ls'[m] = y at hy
        have o10 : (upd H9 lf (.lst ((ls'.map nV).eraseIdx m))) ou = some (.lst (os.map nV)) := by rw [upd_ne (Ne.symm nlo)]; exact o9
        refine .inl ⟨_, rfl, _, rfl, _, _, rfl, .inl ⟨_, SqL.of l9, rfl⟩, _, _, rfl, rfl, (by show (0 : Int) < ((ls'.map nV).length : Int); rw [List.length_map]; omega), lf, _, _, m, nV y, rfl, rfl, l9, ?_, ?_, ?_, (by rw [List.getElem?_map, hy]; rfl), ou, _, _, rfl, rfl, o10, szlt (by rw [List.length_map]; omega), ?_⟩
        · show -(2 ^ 63) ≤ i % ((ls'.map nV).length : Int)
          rw [List.length_map, em]; omega
        · show i % ((ls'.map nV).length : Int) < 2 ^ 63
          rw [List.length_map, em]; omega
        · show seqIndex? (i % ((ls'.map nV).length : Int)) (ls'.map nV).length = some m
          rw [List.length_map, em]; exact seqIx_nat hm
        · refine ⟨ls'.eraseIdx m, os ++ [y], some (nV j), rfl, ((f8.trans f9).new hlf).new hou0, (D9.upd nlfd).upd noud, ?_, ?_, erase_perm pm hy, by simp [hos]⟩
          · rw [upd_ne nlo, upd_same, erase_map]
          · rw [upd_same, List.map_append]; rfl
      · rintro σ H8 ⟨ls', os, v9, rfl, f8, D8, l8, o8, pm, hos⟩
        have hos : os.length = k := by rw [hos]; exact Int.toNat_natCast k
        have hpl := pm.length_eq
        rw [List.length_append, List.length_range, hos] at hpl
        have : ls' = [] := List.eq_nil_of_length_eq_zero (by omega)
        subst this
        rw [List.append_nil] at pm
        refine ⟨_, rfl, d, rfl, D8, fun i9 H9 f9 D9 => .inl ⟨_, rfl, _, rfl, _, _, rfl, rfl, (by show (0 : Int) < (k : Int); omega), ?_⟩⟩
        refine ⟨Nat.zero_le _, fun ro hro => ?_⟩
        have f59 := f8.trans f9
        have hro0 : H5 ro = none := f59.back (S := []) D9 hro
        have nrod := hdz hro0
        have o9 := f9 ou _ (by simpa using noud) o8
        have nor : ou ≠ ro := ne_of_none o9 hro
        have e10 : Ex H9 (upd H9 ro (.lst [])) := Ex.new hro
        have q10 : (upd H9 ro (.lst [])) ro = some (.lst []) := upd_same
        generalize upd H9 ro (.lst []) = H10 at e10 q10
        have e59 : Frm [d] H5 H10 := f59.trans (.of e10)
        refine ⟨_, rfl, (k : Int), rfl, by omega, by omega, for_it walk_rg (fun j σ H' => ∃ (r : List (Nat × Nat)) (evs : List V) (own : Int) (v9 v12 : Option V), σ = [some (.ref d), some (.int 2), some (nV k), some (nV c), some (nV kd), some (.ref rl), some (nV t), some (.ref lf), some (.ref ou), v9, some (.int own), some (.ref ro), v12] ∧ Frm [d] H5 H' ∧ DrAt H' d ∧ H' ou = some (.lst (os.map nV)) ∧ H' ro = some (.lst evs) ∧ NAll H' (r.map entK) evs ∧ r.map (·.1) = os.take j ∧ r.length = j ∧ ∀ e ∈ r, e.2 < (if 0 < kd then c + 1 else c))
          ⟨[], [], _, _, v12, rfl, e59, D9.mono e10, e10 _ _ o9, q10, nall_nil.mpr rfl, rfl, rfl, (fun e h => nomatch h)⟩ (fun _ _ _ _ _ => True.intro) ?_ ?_⟩
        · rintro j x σ H11' H11 hj ⟨r, evs, own, v9, v12, rfl, f11, D11, o11, q11, hn11, hr11, hrl11, hlt11⟩ ⟨rfl, rfl⟩
          have hjk : j < k := by simpa using hj
          have hevl : evs.length = j := by rw [nall_len_map hn11, hrl11]
          refine ⟨_, rfl, d, rfl, D11, fun i12 H12 f12 D12 => .inl ⟨_, rfl, _, rfl, _, _, rfl, rfl, (by show (0 : Int) < (c : Int); omega), ?_⟩⟩
          have o12 := f12 ou _ (by simpa using noud) o11
          have q12 := f12 ro _ (by simpa using nrod) q11
          have f512 := f11.trans f12
          have hn12 : NAll H12 (r.map entK) evs := NAll.mono (D11.tk f12) _ _ hn11
          have fin : ∀ (Dd : Ends) (fo : Nat) (x12 : V), x12 = nV fo → fo < (if 0 < kd then c + 1 else c) → (∀ H', Frm [d] H5 H' → DrAt H' d → H' ou = some (.lst (os.map nV)) → ∀ t1, H' ro = some (.lst (evs ++ [.ref t1])) → NAll H' ((r ++ [(os.getD j 0, fo)]).map entK) (evs ++ [.ref t1]) →
              Dd.nx [some (.ref d), some (.int 2), some (nV k), some (nV c), some (nV kd), some (.ref rl), some (nV t), some (.ref lf), some (.ref ou), some (nV j), some (.int own), some (.ref ro), some (nV fo)] H') →
              tDrop (tBM K "list" rAppend (tVar 11) (tCons (tTup (tCons (tOp (rIxL K) (tVar 8) (tVar 9)) (tCons (tVar 12) tNil))) tNil)) Dd [some (.ref d), some (.int 2), some (nV k), some (nV c), some (nV kd), some (.ref rl), some (nV t), some (.ref lf), some (.ref ou), some (nV j), some (.int own), some (.ref ro), some x12] H12 := by
            rintro Dd fo x12 rfl hfo go
            have hoj : (os.map nV)[j]? = some (nV (os.getD j 0)) := by
              rw [List.getElem?_map, List.getD, List.getElem?_eq_getElem (by omega)]
              rfl
            refine ⟨_, rfl, .inl ⟨rfl, _, SqL.of q12⟩, _, rfl, _, rfl, ou, _, _, nV (os.getD j 0), rfl, rfl, SqL.of o12, atI_nat hoj, _, rfl, (by show 2 ≤ sizeLine; decide), fun t1 ht1 => ?_⟩
            have e13 : Ex H12 (upd H12 t1 (.tup [nV (os.getD j 0), nV fo])) := Ex.new ht1
            have q13 : (upd H12 t1 (.tup [nV (os.getD j 0), nV fo])) t1 = some (.tup [nV (os.getD j 0), nV fo]) := upd_same
            generalize upd H12 t1 (.tup [nV (os.getD j 0), nV fo]) = H13 at e13 q13
            have r13 := e13 _ _ q12
            refine ⟨ro, _, _, rfl, rfl, r13, szlt (by omega), ?_⟩
            have tkk : TK H13 (upd H13 ro (.lst (evs ++ [.ref t1]))) := TK.put r13 (by intro xs z; cases z)
            refine go _ ((f512.trans (.of e13)).new hro0) ((D12.mono e13).upd nrod) (by rw [upd_ne nor]; exact e13 _ _ o12) t1 upd_same ?_
            rw [List.map_append]
            exact NAll.snoc (NAll.mono ((TK.of e13).trans tkk) _ _ hn12) (NIs.mono tkk _ _ (ent_nis q13))
          have close : ∀ (fo : Nat), fo < (if 0 < kd then c + 1 else c) → ∀ H', Frm [d] H5 H' → DrAt H' d → H' ou = some (.lst (os.map nV)) → ∀ t1, H' ro = some (.lst (evs ++ [.ref t1])) → NAll H' ((r ++ [(os.getD j 0, fo)]).map entK) (evs ++ [.ref t1]) →
              ∃ (r : List (Nat × Nat)) (evs : List V) (own' : Int) (v9 v12 : Option V), [some (.ref d), some (.int 2), some (nV k), some (nV c), some (nV kd), some (.ref rl), some (nV t), some (.ref lf), some (.ref ou), some (nV j), some (.int own), some (.ref ro), some (nV fo)] = [some (.ref d), some (.int 2), some (nV k), some (nV c), some (nV kd), some (.ref rl), some (nV t), some (.ref lf), some (.ref ou), v9, some (.int own'), some (.ref ro), v12] ∧ Frm [d] H5 H' ∧ DrAt H' d ∧ H' ou = some (.lst (os.map nV)) ∧ H' ro = some (.lst evs) ∧ NAll H' (r.map entK) evs ∧ r.map (·.1) = os.take (j + 1) ∧ r.length = j + 1 ∧ ∀ e ∈ r, e.2 < (if 0 < kd then c + 1 else c) := by
            intro fo hfo H' a1 a2 a3 t1 a4 a5
            refine ⟨_, _, own, _, _, rfl, a1, a2, a3, a4, a5, ?_, by simp [hrl11], ?_⟩
            · rw [List.map_append, hr11, List.take_add_one, List.getD, List.getElem?_eq_getElem (by omega)]
              rfl
            · intro e he
              rcases List.mem_append.mp he with z | z
              · exact hlt11 e z
              · rw [List.mem_singleton.mp z]; exact hfo
          refine ⟨_, rfl, _, _, rfl, rfl, _, rfl, iteD (fun hpos => ?_) (fun hnot => ?_)⟩
          · have hpos : 0 < kd := by omega
            refine ⟨_, rfl, _, rfl, _, rfl, rfl, _, rfl, ite_b (fun _ => ?_) (fun _ => ?_)⟩
            · refine ⟨_, rfl, _, rfl, _, _, rfl, rfl, _, _, rfl, rfl, .inl ⟨_, rfl, _, rfl, _, _, rfl, rfl, (by show (0 : Int) < (c : Int); omega), ?_⟩⟩
              obtain ⟨m, em, hm⟩ := mod_nat ((t : Int) + (kd : Int) - 1) (show 0 < c by omega)
              have hfo : m < (if 0 < kd then c + 1 else c) := by rw [if_pos hpos]; omega
              have em' : V.int (((t : Int) + (kd : Int) - 1) % (c : Int)) = nV m := by rw [em]
              exact fin _ m _ em' hfo (close m hfo)
            · have hfo : c < (if 0 < kd then c + 1 else c) := by rw [if_pos hpos]; omega
              exact fin _ c _ rfl hfo (close c hfo)
          · have hnot : ¬ 0 < kd := by omega
            obtain ⟨m, em, hm⟩ := mod_nat i12 (show 0 < c by omega)
            have hfo : m < (if 0 < kd then c + 1 else c) := by rw [if_neg hnot]; exact hm
            have em' : V.int (i12 % (c : Int)) = nV m := by rw [em]
            exact fin _ m _ em' hfo (close m hfo)
        · rintro σ H11 ⟨r, evs, own, v9, v12, rfl, f11, D11, o11, q11, hn11, hr11, hrl11, hlt11⟩
          have hkk : ((k : Int)).toNat = k := Int.toNat_natCast k
          rw [hkk, List.take_of_length_le (by omega)] at hr11
          have hok : RowOk k (if 0 < kd then c + 1 else c) r := ⟨by rw [hr11]; exact pm, hlt11⟩
          have r11 := f11 rl _ (by simpa using nrd) r5
          have hn11' : NAll H11 (rs.map rowK) rvs := NAll.mono (D5.tk f11) _ _ hn5
          refine ⟨_, rfl, .inl ⟨rfl, _, SqL.of r11⟩, _, rfl, ro, _, rfl, .inl ⟨SqL.of q11, fun t1 ht1 => ?_⟩⟩
          have e12 : Ex H11 (upd H11 t1 (.tup evs)) := Ex.new ht1
          have q12 : (upd H11 t1 (.tup evs)) t1 = some (.tup evs) := upd_same
          generalize upd H11 t1 (.tup evs) = H12 at e12 q12
          have r12 := e12 _ _ r11
          refine ⟨rl, _, _, rfl, rfl, r12, szlt (by omega), ?_⟩
          have tkk : TK H12 (upd H12 rl (.lst (rvs ++ [.ref t1]))) := TK.put r12 (by intro xs z; cases z)
          refine ⟨rs ++ [r], _, _, _, _, _, _, _, _, rfl, ((fr5.trans f11).trans (.of e12)).new hrl0, (D11.mono e12).upd nrd, upd_same, ?_, by simp [hrs], ?_⟩
          · rw [List.map_append]
            refine NAll.snoc (NAll.mono ((TK.of e12).trans tkk) _ _ hn11') (NIs.mono tkk _ _ ?_)
            exact nis_tup.mpr ⟨t1, _, rfl, q12, NAll.mono (.of e12) _ _ hn11⟩
          · intro r' hr'
            rcases List.mem_append.mp hr' with z | z
            · exact hrok r' z
            · rw [List.mem_singleton.mp z]; exact hok
    · rintro σ H5 ⟨rs, rvs, v6, v7, v8, v9, v10, v11, v12, rfl, fr5, D5, r5, hn5, hrs, hrok⟩
      have hrs : rs.length = c := by rw [hrs]; exact Int.toNat_natCast c
      have hrvl : rvs.length = c := by rw [nall_len_map hn5, hrs]
      have fin : ∀ (H' : Hp) (rs' : Rows) (rvs' : List V) (v9 : Option V), Frm [d] H H' → DrAt H' d → H' rl = some (.lst rvs') → NAll H' (rs'.map rowK) rvs' → rs'.length = (if 0 < kd then c + 1 else c) → (∀ r ∈ rs', RowOk k rs'.length r) →
          tRet (tTup (tCons (tVar 2) (tCons (tCB (fun xs H Q => ∃ p ys, xs = [V.ref p] ∧ ((SqL K H p ys ∧ ∀ l, H l = none → Q (.ref l) (upd H l (.tup ys))) ∨ (SqT K H p ys ∧ Q (.ref p) H))) (tCons (tVar 5) tNil)) tNil))) { nx := fun _ H' => Q .non H', rt := Q } [some (.ref d), some (.int 2), some (nV k), some (nV c), some (nV kd), some (.ref rl), v6, v7, v8, v9, v10, v11, v12] H' := by
        intro H' rs' rvs' v9 fr' D' r' hn' hl' hok'
        refine ⟨_, rfl, _, rfl, rl, _, rfl, .inl ⟨SqL.of r', fun t1 ht1 => ⟨(by show 2 ≤ sizeLine; decide), fun t2 ht2 => ?_⟩⟩⟩
        have e1 : Ex H' (upd H' t1 (.tup rvs')) := Ex.new ht1
        have q1 : (upd H' t1 (.tup rvs')) t1 = some (.tup rvs') := upd_same
        generalize upd H' t1 (.tup rvs') = H6 at e1 q1 ht2
        have e2 : Ex H6 (upd H6 t2 (.tup [nV k, .ref t1])) := Ex.new ht2
        have q2 : (upd H6 t2 (.tup [nV k, .ref t1])) t2 = some (.tup [nV k, .ref t1]) := upd_same
        refine q _ (.ref t2) k rs' (fr'.trans (.of (e1.trans e2))) (D'.mono (e1.trans e2)) ?_ ⟨hk2, hk3, ?_, ?_, hok'⟩
        · exact nis_tup.mpr ⟨t2, _, rfl, q2, nall_cons.mpr ⟨_, _, rfl, nis_num.mpr rfl, nall_cons.mpr ⟨_, _, rfl, nis_tup.mpr ⟨t1, _, rfl, e2 _ _ q1, NAll.mono (.of (e1.trans e2)) _ _ hn'⟩, nall_nil.mpr rfl⟩⟩⟩
        · rw [hl']; split <;> omega
        · rw [hl']; split <;> omega
      refine ⟨_, rfl, _, _, rfl, rfl, _, rfl, iteD (fun hpos => ?_) (fun hnot => ?_)⟩
      · have hpos : 0 < kd := by omega
        rw [if_pos hpos] at hrok fin
        refine ⟨_, rfl, .inl ⟨rfl, _, SqL.of r5⟩, _, rfl, (k : Int), rfl, by omega, by omega, fun Dl hDl => lc_it walk_rg (fun j H' => Ex H5 H' ∧ ∃ lvs, H' Dl = some (.lst lvs) ∧ lvs.length ≤ j ∧ NAll H' ((List.range j).map fun y => entK (y, c)) lvs) ⟨Ex.new hDl, [], upd_same, Nat.le_refl _, nall_nil.mpr rfl⟩ (fun _ _ _ _ => True.intro) ?_ ?_⟩
        · rintro j y H6' H6 hj ⟨e6, lvs, l6, hll, hnl⟩ ⟨rfl, rfl⟩
          have hjk : j < k := by simpa using hj
          refine lc_yes rfl ?_
          refine ⟨_, rfl, _, rfl, (by show 2 ≤ sizeLine; decide), fun t1 ht1 => ?_⟩
          have e7 : Ex H6 (upd H6 t1 (.tup [nV j, nV c])) := Ex.new ht1
          have q7 : (upd H6 t1 (.tup [nV j, nV c])) t1 = some (.tup [nV j, nV c]) := upd_same
          have l7 := e7 _ _ l6
          have tkk : TK (upd H6 t1 (.tup [nV j, nV c])) (upd (upd H6 t1 (.tup [nV j, nV c])) Dl (.lst (lvs ++ [.ref t1]))) := TK.put l7 (by intro xs z; cases z)
          refine ⟨_, l7, szlt (by omega), Ex.put (e6.trans e7) hDl, _, upd_same, by simp; omega, ?_⟩
          rw [List.range_succ, List.map_append]
          exact NAll.snoc (NAll.mono ((TK.of e7).trans tkk) _ _ hnl) (NIs.mono tkk _ _ (ent_nis q7))
        · rintro H6 ⟨e6, lvs, l6, hll, hnl⟩
          rw [show ((k : Int)).toNat = k by omega] at hnl
          refine ⟨Dl, _, rfl, .inl ⟨SqL.of l6, fun t1 ht1 => ?_⟩⟩
          have e7 : Ex H6 (upd H6 t1 (.tup lvs)) := Ex.new ht1
          have q7 : (upd H6 t1 (.tup lvs)) t1 = some (.tup lvs) := upd_same
          generalize upd H6 t1 (.tup lvs) = H7 at e7 q7
          have e57 := e6.trans e7
          have r7 := e57 _ _ r5
          refine ⟨rl, _, _, rfl, rfl, r7, szlt (by omega), ?_⟩
          have tkk : TK H7 (upd H7 rl (.lst (rvs ++ [.ref t1]))) := TK.put r7 (by intro xs z; cases z)
          have hid : RowOk k (c + 1) ((List.range k).map fun y => (y, c)) := ⟨by rw [List.map_map]; simp [Function.comp_def], fun e he => by obtain ⟨y, _, rfl⟩ := List.mem_map.mp he; exact Nat.lt_succ_self c⟩
          refine fin _ (rs ++ [(List.range k).map fun y => (y, c)]) _ _ ((fr5.trans (.of e57)).new hrl0) ?_ upd_same ?_ (by simp [hrs]) ?_
          · obtain ⟨ms, hd, hl⟩ := D5
            exact ⟨ms, by rw [upd_ne (Ne.symm nrd)]; exact e57 _ _ hd, hl⟩
          · rw [List.map_append]
            refine NAll.snoc (NAll.mono ((TK.of e57).trans tkk) _ _ hn5) (NIs.mono tkk _ _ ?_)
            exact nis_tup.mpr ⟨t1, _, rfl, q7, by rw [List.map_map]; exact NAll.mono (.of e7) _ _ hnl⟩
          · intro r hr
            rw [List.length_append, hrs]
            rcases List.mem_append.mp hr with z | z
            · exact hrok r z
            · rw [List.mem_singleton.mp z]; exact hid
      · have hnot : ¬ 0 < kd := by omega
        rw [if_neg hnot] at hrok fin
        exact fin H5 rs rvs _ fr5 D5 r5 hn5 hrs (by rw [hrs]; exact hrok)
end
end Lw
set_option Elab.async false
set_option linter.all false
set_option maxRecDepth 100000
set_option maxHeartbeats 4000000
namespace Lw
open PySem L2 Evl Lf
section
variable {P : Program} {w : World} {K : PySem.W.Frag} {mg : Str → Option Value} {base : Heap} {C : Addr}
/-- what the law keeps at hand -/
structure LwAt (H : Hp) (d wa : Addr) (v : V) (k : Nat) (rows : Rows) (n : Nat) : Prop where
  dr : DrAt H d
  words : H wa = some (.lst ((bl k (2 * rows.length) (lsOf rows) n).map wdV))
  ne : wa ≠ d
  mach : NIs H (machK k rows) v
theorem LwAt.ex {H H' : Hp} {d wa : Addr} {v : V} {k : Nat} {rows : Rows} {n : Nat} (h : LwAt H d wa v k rows n) (e : Ex H H') : LwAt H' d wa v k rows n := ⟨h.dr.mono e, e _ _ h.words, h.ne, NIs.mono (.of e) _ _ h.mach⟩
theorem LwAt.frm {H H' : Hp} {d wa : Addr} {v : V} {k : Nat} {rows : Rows} {n : Nat} (h : LwAt H d wa v k rows n) (f : Frm [d] H H') (D : DrAt H' d) : LwAt H' d wa v k rows n := ⟨D, f _ _ (by simpa using h.ne) h.words, h.ne, NIs.mono (h.dr.tk f) _ _ h.mach⟩
theorem inV_yes {u : List Nat} {l : List (List Nat)} (h : u ∈ l) : inV (wdV u) (l.map wdV) = true := by
  unfold inV
  refine List.any_eq_true.mpr ⟨wdV u, List.mem_map.mpr ⟨u, h, rfl⟩, ?_⟩
  simp [eqV]
theorem flat_wds (l : List (List Nat)) : (l.map wdV).all flatV = true := List.all_eq_true.mpr fun x hx => by
  obtain ⟨u, _, rfl⟩ := List.mem_map.mp hx
  rfl
theorem cutV_tail (xs : List V) : cutV xs (some 1) none = xs.drop 1 := by
  unfold cutV
  have : HT.sIx xs.length 0 (some 1) = min 1 xs.length := HT.sIx_nat _ _ 1
  rw [this, HT.sIx_none, List.take_of_length_le (by simp)]
  cases xs with
  | nil => rfl
  | cons a l => simp
theorem sum_cast (l : List Nat) : (l.map fun (i : Nat) => (i : Int)).sum = ((l.sum : Nat) : Int) := by
  induction l with
  | nil => rfl
  | cons a l ih => simp [ih]
theorem equal_small {rows : Rows} {k n a b : Nat} (M : MOk k rows) (hn : n = if rows.length = 3 then 2 else 3) (ha : a ≤ n) (hb : b ≤ n) : (allRed (2 * rows.length) (a + b)).length ≤ 2999 := by
  refine Nat.le_trans (allRed_small ?_) (by omega)
  have := M.n1
  have := M.n3
  by_cases h : rows.length = 3
  · rw [if_pos h] at hn; omega
  · rw [if_neg h] at hn; omega
theorem set_if {rest : L2.St → Hp → Prop} {D : Ends} {σ : L2.St} {H : Hp} {i : Nat} {a x : V} {b : Bool} (hσ : σ.set i (some x) = σ) (hD : D.nx = rest) (h : rest (σ.set i (some (if b = true then a else x))) H) : if b = true then tAsg (tC a) (gName i) D σ H else tNext D σ H := by
  subst hD
  cases b with
  | true => rw [if_pos rfl] at h ⊢; exact h
  | false =>
    rw [if_neg Bool.false_ne_true] at h ⊢
    rw [hσ] at h
    exact h
theorem walk_rg1 {n : Nat} : Walk (Itr 1 n) n (fun _ => True) (fun i H x H' => H' = H ∧ x = .int ((i + 1 : Nat) : Int)) :=
  walk_range.mono (fun _ h => h) fun i H x H' _ _ y => ⟨y.1, y.2.trans (by show V.int (1 + (i : Int)) = _; congr 1; omega)⟩
theorem rg_small {rows : Rows} {k i : Nat} (M : MOk k rows) (hi : i ≤ 3) : (rg k (2 * rows.length) (lsOf rows) i).length ≤ 187 :=
  Nat.le_trans (bound_of (n := i) (Inc.nodup (rg_inc M.ls i)) fun w hw => let ⟨a, b, c⟩ := (mem_rg M.ls).mp hw; ⟨c.red M.ls a, a, Nat.le_of_eq b⟩) (allRed_tiny ⟨by have := M.n1; have := M.n3; omega, hi⟩)
def spLaw (K : PySem.W.Frag) : Sp := fun vs H Q _ => ∃ (a : Addr) (ns : List Int), vs = [.ref a] ∧ SqL K H a (ns.map V.int) ∧ ns.length ≤ 63 ∧ ∀ H', Q (.bl true) H'
abbrev nLaw : List Str := ["_law_script", "_law_draws_here", "_law_machine_here", "_law_states", "_law_length", "_law_rings", "_law_words", "_law_j", "_law_i", "_law_first", "_law_n", "_law_free", "_law_word_here", "_law_one", "_law_other", "_law_told"]
theorem scLaw : FnScope nLaw ["_law_script"] (defScope sLaw) := ⟨rfl, rfl, rfl, by decide +kernel, rfl, by decide +kernel, by decide +kernel⟩
theorem ok_law {f fDr fN fM fGr fBa fFi fE fW fL fC : Addr} {fd fdDr fdN fdM fdGr fdBa fdFi fdE fdW fdL fdC : FuncData} (D : Df K mg "law" sLaw ["_law_script"] f fd)
    (DrD : Df K mg "_law_draws" sLwDraws ["_law_script"] fDr fdDr) (GDr : FnOk P w K mg base CX0 2 fDr fdDr ["_law_script"] (spLwDraws K))
    (ND : Df K mg "_law_next" sLwNext ["_law_draws_here"] fN fdN) (GN : FnOk P w K mg base CX0 1 fN fdN ["_law_draws_here"] spLwNext)
    (MD : Df K mg "_law_machine" sLwMachine ["_law_draws_here", "_law_most"] fM fdM) (GM : FnOk P w K mg base CX0 2 fM fdM ["_law_draws_here", "_law_most"] spLwMachine)
    (GrD : Df K mg "growth" sGrowth ["machine", "length"] fGr fdGr) (GGr : FnOk P w K mg base CX0 10 fGr fdGr ["machine", "length"] spGrowth)
    (BaD : Df K mg "ball" sBall ["machine", "length"] fBa fdBa) (GBa : FnOk P w K mg base CX0 10 fBa fdBa ["machine", "length"] spBall)
    (FiD : Df K mg "first_relation" sFirstRel ["machine", "length"] fFi fdFi) (GFi : FnOk P w K mg base CX0 8 fFi fdFi ["machine", "length"] spFirst)
    (ED : Df K mg "_law_equal" sLwEqual ["_law_machine_here", "_law_one", "_law_other"] fE fdE) (GE : FnOk P w K mg base CX0 4 fE fdE ["_law_machine_here", "_law_one", "_law_other"] spLwEqual)
    (WD : Df K mg "_law_word" sLwWord ["_law_draws_here", "_law_machine_here", "_law_most"] fW fdW) (GW : FnOk P w K mg base CX0 2 fW fdW ["_law_draws_here", "_law_machine_here", "_law_most"] spLwWord)
    (LD : Df K mg "least" sLeast ["machine", "word"] fL fdL) (GL : FnOk P w K mg base CX0 10 fL fdL ["machine", "word"] spLeast)
    (CD : Df K mg "_law_cut" sLwCut ["_law_word_here"] fC fdC) (GC : FnOk P w K mg base CX0 2 fC fdC ["_law_word_here"] spLwCut) (T : TWords mg) : FnOk P w K mg base CX0 11 f fd ["_law_script"] (spLaw K) := by
  refine D.F.ok scLaw (fun vs H Q E h => ?_) (fun cdv Ar outer s H vs Q E hr h => ?_)
  · obtain ⟨_, _, rfl, _⟩ := h; rfl
  · obtain ⟨sa, ns, rfl, hS, hns, q⟩ := h
    refine ⟨_, pss_cons (ps_set (i := 1) scLaw.nd rfl (Or.inl rfl) (pe_call GDr (hr.mono (by decide)) rfl DrD.g DrD.F.kp DrD.b .nil pass0 (pa_cons (pv 0) pa_nil)))
      (pss_cons (ps_expr (pe_bm0 PySem.F.plainAttrs_list PySem.F.slot_list_reverse PySem.F.type_list_reverse mt_reverse (pv 1)))
      (pss_cons (ps_set (i := 2) scLaw.nd rfl (Or.inl rfl) (pe_call GM (hr.mono (by decide)) rfl MD.g MD.F.kp MD.b .nil pass0 (pa_cons (pv 1) (pa_cons pe_int pa_nil))))
      (pss_cons (ps_set (i := 3) scLaw.nd rfl (Or.inl rfl) (pe_callB call_len (by rfl) T.len PySem.boot_len (pa_cons (pe_ix ix_tup (pv 2) pe_int (fun _ _ => rfl)) pa_nil)))
      (pss_cons (ps_set (i := 4) scLaw.nd rfl (Or.inl rfl) pe_int)
      (pss_cons (ps_if (pt_cmpR op_eq (pv 3) pe_int (nomark _)) (pss_one (ps_set (i := 4) scLaw.nd rfl (Or.inl rfl) pe_int)) pss_nil)
      (pss_cons (ps_set (i := 5) scLaw.nd rfl (Or.inl rfl) (pe_call GGr (hr.mono (by decide)) rfl GrD.g GrD.F.kp GrD.b .nil pass0 (pa_cons (pv 2) (pa_cons (pv 4) pa_nil))))
      (pss_cons (ps_set (i := 6) scLaw.nd rfl (Or.inl rfl) (pe_call GBa (hr.mono (by decide)) rfl BaD.g BaD.F.kp BaD.b .nil pass0 (pa_cons (pv 2) (pa_cons (pv 4) pa_nil))))
      (pss_cons (ps_if (pt_cmpR op_ne (pe_callB (cr_sum rfl) (by rfl) T.sum PyProof.Rows.boot_sum (pa_cons (pv 5) pa_nil)) (pe_callB call_len (by rfl) T.len PySem.boot_len (pa_cons (pv 6) pa_nil)) (nomark _)) (pss_one (ps_ret pe_bl)) pss_nil)
      (pss_cons (ps_for PassesOwn.never rfl (pi_range1 (by rfl) T.range (pa_cons (pe_op op_add (pv 4) pe_int) pa_nil)) (pg_name (i := 7) scLaw.nd rfl (Or.inl rfl))
        (pss_one (ps_for PassesOwn.never rfl (pi_range1 (by rfl) T.range (pa_cons (pe_op op_sub (pe_op op_add (pv 4) pe_int) (pv 7)) pa_nil)) (pg_name (i := 8) scLaw.nd rfl (Or.inl rfl))
        (pss_one (ps_if (pt_cmpR op_gt (pe_ix ix_list (pv 5) (pe_op op_add (pv 7) (pv 8)) (fun _ _ => rfl)) (pe_op op_mul (pe_ix ix_list (pv 5) (pv 7) (fun _ _ => rfl)) (pe_ix ix_list (pv 5) (pv 8) (fun _ _ => rfl))) (nomark _)) (pss_one (ps_ret pe_bl)) pss_nil)))))
      (pss_cons (ps_set (i := 9) scLaw.nd rfl (Or.inl rfl) (pe_call GFi (hr.mono (by decide)) rfl FiD.g FiD.F.kp FiD.b .nil pass0 (pa_cons (pv 2) (pa_cons (pv 4) pa_nil))))
      (pss_cons (ps_for PassesOwn.never rfl (pi_range2 (by rfl) T.range (pa_cons pe_int (pa_cons (pe_op op_add (pv 4) pe_int) pa_nil))) (pg_name (i := 10) scLaw.nd rfl (Or.inl rfl))
        (pss_cons (ps_set (i := 11) scLaw.nd rfl (Or.inl rfl) (pe_op op_mul pe_int (pv 3)))
      (pss_cons (ps_for PassesOwn.never rfl (pi_range1 (by rfl) T.range (pa_cons (pe_op op_sub (pv 10) pe_int) pa_nil)) (pg_name (i := 7) scLaw.nd rfl (Or.inl rfl))
        (pss_one (ps_set (i := 11) scLaw.nd rfl (Or.inl rfl) (pe_op op_mul (pv 11) (pe_op op_sub (pe_op op_mul pe_int (pv 3)) pe_int)))))
      (pss_cons (ps_if (PW.pt (pw_or (pt_cmpR op_gt (pe_ix ix_list (pv 5) (pv 10) (fun _ _ => rfl)) (pv 11) (nomark _)) (pw_or1 (PW.pt (pw_and (pt_cmp (pc_isN (pv 9))) (pw_and (pt_cmpR op_le (pe_op op_mul pe_int (pv 10)) (pv 4) (nomark _)) (pw_and1 (pt_cmpR op_ne (pe_ix ix_list (pv 5) (pv 10) (fun _ _ => rfl)) (pv 11) (nomark _))))))))) (pss_one (ps_ret pe_bl)) pss_nil)
      (pss_one (ps_if (PW.pt (pw_and (pt_cmp (pc_notN (pv 9))) (pw_and (pt_cmpR op_lt (pe_op op_mul pe_int (pv 10)) (pe_callB call_len (by rfl) T.len PySem.boot_len (pa_cons (pv 9) pa_nil)) (nomark _)) (pw_and1 (pt_cmpR op_ne (pe_ix ix_list (pv 5) (pv 10) (fun _ _ => rfl)) (pv 11) (nomark _)))))) (pss_one (ps_ret pe_bl)) pss_nil))))))
      (pss_cons (ps_for PassesOwn.never rfl (pi_list (pe_slice sl_list (pv 6) (po_some pe_int) po_none)) (pg_name (i := 12) scLaw.nd rfl (Or.inl rfl))
        (pss_one (ps_if (PW.pt (pw_or (pt_cmpR op_notIn_seq (pe_slice sl_str (pv 12) po_none (po_some (pe_un un_neg pe_int))) (pv 6) rfl) (pw_or1 (pt_cmpR op_notIn_seq (pe_slice sl_str (pv 12) (po_some pe_int) po_none) (pv 6) rfl)))) (pss_one (ps_ret pe_bl)) pss_nil)))
      (pss_cons (ps_set (i := 13) scLaw.nd rfl (Or.inl rfl) (pe_ix ix_list (pv 6) (pe_op op_mod (pe_callTy call_int1 (by rfl) T.int PyProof.Rows.boot_int (pa_cons (pe_call GN (hr.mono (by decide)) rfl ND.g ND.F.kp ND.b .nil pass0 (pa_cons (pv 1) pa_nil)) pa_nil)) (pe_callB call_len (by rfl) T.len PySem.boot_len (pa_cons (pv 6) pa_nil))) (fun _ _ => rfl)))
      (pss_cons (ps_set (i := 14) scLaw.nd rfl (Or.inl rfl) (pe_ix ix_list (pv 6) (pe_op op_mod (pe_callTy call_int1 (by rfl) T.int PyProof.Rows.boot_int (pa_cons (pe_call GN (hr.mono (by decide)) rfl ND.g ND.F.kp ND.b .nil pass0 (pa_cons (pv 1) pa_nil)) pa_nil)) (pe_callB call_len (by rfl) T.len PySem.boot_len (pa_cons (pv 6) pa_nil))) (fun _ _ => rfl)))
      (pss_cons (ps_if (pt_cmpR op_ne (pe_cmpR op_eq (pv 13) (pv 14) (nomark _)) (pe_call GE (hr.mono (by decide)) rfl ED.g ED.F.kp ED.b .nil pass0 (pa_cons (pv 2) (pa_cons (pv 13) (pa_cons (pv 14) pa_nil)))) (nomark _)) (pss_one (ps_ret pe_bl)) pss_nil)
      (pss_cons (ps_set (i := 12) scLaw.nd rfl (Or.inl rfl) (pe_call GW (hr.mono (by decide)) rfl WD.g WD.F.kp WD.b .nil pass0 (pa_cons (pv 1) (pa_cons (pv 2) (pa_cons (pv 4) pa_nil)))))
      (pss_cons (ps_set (i := 15) scLaw.nd rfl (Or.inl rfl) (pe_call GL (hr.mono (by decide)) rfl LD.g LD.F.kp LD.b .nil pass0 (pa_cons (pv 2) (pa_cons (pv 12) pa_nil))))
      (pss_one (ps_ret (pe_and (pe_cmpR op_in_seq (pv 15) (pv 6) rfl) (pe_and (pe_call GE (hr.mono (by decide)) rfl ED.g ED.F.kp ED.b .nil pass0 (pa_cons (pv 2) (pa_cons (pv 15) (pa_cons (pv 12) pa_nil)))) (pe_one (pe_cmpR op_le (pe_callB call_len (by rfl) T.len PySem.boot_len (pa_cons (pv 15) pa_nil)) (pe_callB call_len (by rfl) T.len PySem.boot_len (pa_cons (pe_call GC (hr.mono (by decide)) rfl CD.g CD.F.kp CD.b .nil pass0 (pa_cons (pv 12) pa_nil)) pa_nil)) (nomark _)))))))))))))))))))))))), ?_⟩
    refine ⟨_, rfl, sa, ns, rfl, hS, hns, fun H1 d e1 D1 => ?_⟩
    obtain ⟨ms, hd1, hl1⟩ := id D1
    refine ⟨_, rfl, .inl ⟨rfl, _, SqL.of hd1⟩, d, _, rfl, rfl, hd1, ?_⟩
    have D2 : DrAt (upd H1 d (.lst (ms.map V.int).reverse)) d := ⟨ms.reverse, by rw [upd_same, List.map_reverse], by simpa using hl1⟩
    generalize upd H1 d (.lst (ms.map V.int).reverse) = H2 at D2
    refine ⟨_, rfl, d, rfl, D2, fun H3 v k rows f3 D3 hm M => ?_⟩
    obtain ⟨ma, mb, mvs, rfl, hma, hmb, hmv⟩ := mach_at hm
    have hvl : mvs.length = rows.length := nall_len_map hmv
    have hn1 := M.n1
    have hn3 := M.n3
    have S := M.ls
    refine ⟨_, rfl, ma, _, 1, _, rfl, rfl, SqT.of hma, rfl, _, _, rfl, .inr ⟨_, SqT.of hmb, rfl⟩, ?_⟩
    refine ⟨_, rfl, rfl, _, rfl, set_if (x := .int 3) rfl rfl ?_⟩
    obtain ⟨n, hn⟩ : ∃ n : Nat, n = if rows.length = 3 then 2 else 3 := ⟨_, rfl⟩
    have en : (if decide (V.int (mvs.length : Nat) = V.int 3) = true then V.int 2 else V.int 3) = nV n := by
      by_cases h : rows.length = 3
      · rw [hvl, h, if_pos (by decide), hn, if_pos h]; rfl
      · rw [hvl, decide_eq_false (fun z => h (by have := V.int.inj z; omega)), if_neg Bool.false_ne_true, hn, if_neg h]; rfl
    rw [en]
    have hn3' : n ≤ 3 := by rw [hn]; split <;> omega
    have hn2' : 2 ≤ n := by rw [hn]; split <;> omega
    refine ⟨_, rfl, _, rfl, .ref ma, k, rows, n, rfl, hm, M, hn3', fun H4 ra e4 hra => ?_⟩
    refine ⟨_, rfl, _, rfl, .ref ma, k, rows, n, rfl, NIs.mono (.of e4) _ _ hm, M, hn3', fun H5 wa e5 hwa0 hwa => ?_⟩
    have D4 := D3.mono e4
    have L5 : LwAt H5 d wa (.ref ma) k rows n := ⟨D4.mono e5, hwa, (fun z => by obtain ⟨ms, hd, _⟩ := D4; rw [z, hd] at hwa0; cases hwa0), NIs.mono (.of (e4.trans e5)) _ _ hm⟩
    have hra5 := e5 _ _ hra
    have hgl : ((List.range (n + 1)).map fun i => (rg k (2 * rows.length) (lsOf rows) i).length).map (fun i => V.int (i : Nat)) = (((List.range (n + 1)).map fun i => (rg k (2 * rows.length) (lsOf rows) i).length).map fun (i : Nat) => (i : Int)).map V.int := by rw [List.map_map (f := fun (i : Nat) => (i : Int))]; rfl
    refine ⟨_, rfl, ra, _, rfl, SqL.of (hra5.trans (by rw [hgl])), _, rfl, _, _, rfl, .inl ⟨_, SqL.of hwa, rfl⟩, rfl, _, rfl, ?_⟩
    rw [sum_cast, ← bl_len, List.length_map, decide_eq_true rfl]
    refine iteF ?_
    have hget : ∀ i, i ≤ n → (((List.range (n + 1)).map fun i => (rg k (2 * rows.length) (lsOf rows) i).length).map fun i => V.int (i : Nat))[i]? = some (nV (rg k (2 * rows.length) (lsOf rows) i).length) := fun i hi => by
      rw [List.getElem?_map, List.getElem?_map, List.getElem?_range (by omega)]; rfl
    have hsmall : ∀ i, i ≤ n → (rg k (2 * rows.length) (lsOf rows) i).length ≤ 187 := fun i hi => rg_small M (by omega)
    have hgl' := hgl
    generalize (((List.range (n + 1)).map fun i => (rg k (2 * rows.length) (lsOf rows) i).length).map fun i => V.int (i : Nat)) = gs at hra5 hget
    refine ⟨_, rfl, _, _, rfl, rfl, ((n + 1 : Nat) : Int), rfl, by omega, by omega, for_it walk_rg (fun j σ H' => ∃ v7 v8, σ = [some (.ref sa), some (.ref d), some (.ref ma), some (.int (mvs.length : Nat)), some (nV n), some (.ref ra), some (.ref wa), v7, v8, none, none, none, none, none, none, none] ∧ H' = H5) ⟨none, none, rfl, rfl⟩ (fun _ _ _ _ _ => True.intro) ?_ ?_⟩
    · rintro j x σ H6 H6' hj ⟨v7, v8, rfl, rfl⟩ ⟨rfl, rfl⟩
      have hj : j < n + 1 := by simpa using hj
      refine ⟨_, rfl, _, _, rfl, rfl, _, rfl, _, _, rfl, rfl, ((n + 1 - j : Nat) : Int), (by rw [show ((n + 1 - j : Nat) : Int) = (n : Int) + 1 - (j : Int) by omega]), by omega, by omega, for_it walk_rg (fun i σ H' => ∃ v8, σ = [some (.ref sa), some (.ref d), some (.ref ma), some (.int (mvs.length : Nat)), some (nV n), some (.ref ra), some (.ref wa), some (nV j), v8, none, none, none, none, none, none, none] ∧ H' = H6') ⟨v8, rfl, rfl⟩ (fun _ _ _ _ _ => True.intro) ?_ ?_⟩
      · rintro i x σ H7 H7' hi ⟨v8, rfl, rfl⟩ ⟨rfl, rfl⟩
        have hi : i < n + 1 - j := by simpa using hi
        have h1 := hsmall j (by omega)
        have h2 := hsmall i (by omega)
        have hmul := rg_mul (k := k) (L := 2 * rows.length) (ls := lsOf rows) S j i
        refine ⟨_, rfl, _, rfl, _, rfl, _, _, rfl, rfl, ra, gs, _, nV (rg k (2 * rows.length) (lsOf rows) (j + i)).length, rfl, rfl, SqL.of hra5, ?_, _, rfl, _, rfl, ra, gs, _, _, rfl, rfl, SqL.of hra5, atI_nat (hget j (by omega)), _, rfl, _, rfl, ra, gs, _, _, rfl, rfl, SqL.of hra5, atI_nat (hget i (by omega)), _, _, rfl, rfl, .inl ⟨by omega, by omega⟩, _, _, rfl, rfl, _, rfl, ?_⟩
        · show atI gs ((j : Int) + (i : Int)) = _
          rw [show (j : Int) + (i : Int) = ((j + i : Nat) : Int) by omega]
          exact atI_nat (hget (j + i) (by omega))
        · rw [decide_eq_false (by rw [← Int.natCast_mul]; omega)]
          refine iteF ?_
          exact ⟨_, rfl, rfl⟩
      · rintro σ H7 ⟨v8, rfl, rfl⟩
        exact ⟨_, _, rfl, rfl⟩
    rintro σ H6 ⟨v7, v8, rfl, rfl⟩
    refine ⟨_, rfl, _, rfl, .ref ma, k, rows, n, rfl, L5.mach, M, by omega, hn3', fun H7 first e7 hF => ?_⟩
    have L7 := L5.ex e7
    have hra7 := e7 _ _ hra5
    have hfree := rg_free (k := k) (L := 2 * rows.length) (ls := lsOf rows) S
    have hone := rg_one (k := k) (L := 2 * rows.length) (ls := lsOf rows) S
    refine ⟨_, rfl, _, _, rfl, rfl, 1, ((n + 1 : Nat) : Int), rfl, ⟨by omega, by omega, by omega, by omega⟩, ?_⟩
    have hnn : (((n + 1 : Nat) : Int) - 1).toNat = n := by omega
    rw [hnn]
    refine for_it walk_rg1 (fun i σ H' => ∃ v7 v10 v11, σ = [some (.ref sa), some (.ref d), some (.ref ma), some (.int (mvs.length : Nat)), some (nV n), some (.ref ra), some (.ref wa), v7, v8, some first, v10, v11, none, none, none, none] ∧ H' = H7) ⟨v7, none, none, rfl, rfl⟩ (fun _ _ _ _ _ => True.intro) ?_ ?_
    · rintro i x σ H8 H8' hi ⟨v7, v10, v11, rfl, rfl⟩ ⟨rfl, rfl⟩
      refine ⟨_, rfl, _, _, rfl, rfl, .inl ⟨by decide, by decide⟩, ?_⟩
      have ei : ((i + 1 : Nat) : Int) - 1 = (i : Int) := by omega
      refine ⟨_, rfl, _, _, rfl, rfl, (i : Int), (by rw [← ei]), by omega, by omega, for_it walk_rg (fun j σ H' => ∃ v7, σ = [some (.ref sa), some (.ref d), some (.ref ma), some (.int (mvs.length : Nat)), some (nV n), some (.ref ra), some (.ref wa), v7, v8, some first, some (nV (i + 1)), some (nV (2 * rows.length * (2 * rows.length - 1) ^ j)), none, none, none, none] ∧ H' = H8') ⟨v7, ?_, rfl⟩ (fun _ _ _ _ _ => True.intro) ?_ ?_⟩
      · have : V.int (2 * (mvs.length : Int)) = nV (2 * rows.length * (2 * rows.length - 1) ^ 0) := by rw [hvl]; simp
        rw [← this]
        rfl
      · rintro j x σ H9 H9' hj ⟨v7, rfl, rfl⟩ ⟨rfl, rfl⟩
        have e1 : (2 * (mvs.length : Int) - 1) = ((2 * rows.length - 1 : Nat) : Int) := by omega
        refine ⟨_, rfl, _, rfl, _, _, rfl, rfl, .inl ⟨by decide, by decide⟩, _, _, rfl, rfl, _, _, rfl, rfl, .inr ⟨?_, ?_⟩, ?_⟩
        · show -(2 ^ 64) < (2 * (mvs.length : Int) - 1); omega
        · show (2 * (mvs.length : Int) - 1) < 2 ^ 64; omega
        · have : V.int (((2 * rows.length * (2 * rows.length - 1) ^ j : Nat) : Int) * (2 * (mvs.length : Int) - 1)) = nV (2 * rows.length * (2 * rows.length - 1) ^ (j + 1)) := by
            rw [e1, ← Int.natCast_mul, Nat.pow_succ, Nat.mul_assoc]
          refine ⟨some (nV j), ?_, rfl⟩
          rw [← this]
          rfl
      · rintro σ H9 ⟨v7, rfl, rfl⟩
        rw [Int.toNat_natCast]
        have hr := hfree i
        have hg := hget (i + 1) (by omega)
        have hg1 : i = 0 → (∀ w ∈ redW (2 * rows.length) 1, ¬ Rests k (lsOf rows) w) → (∀ w ∈ redW (2 * rows.length) 2, ¬ Rests k (lsOf rows) w) → (rg k (2 * rows.length) (lsOf rows) (i + 1)).length = 2 * rows.length * (2 * rows.length - 1) ^ i := by
          rintro rfl h1 h2
          rw [hone h1 h2]
          simp
        generalize (rg k (2 * rows.length) (lsOf rows) (i + 1)).length = g at hr hg hg1
        generalize 2 * rows.length * (2 * rows.length - 1) ^ i = fr at hr hg1
        refine ⟨_, rfl, _, rfl, ra, gs, _, nV g, rfl, rfl, SqL.of hra7, atI_nat hg, _, rfl, _, _, rfl, rfl, _, rfl, ?_⟩
        rw [decide_eq_false (by omega)]
        refine iteF ?_
        rcases hF with ⟨rfl, hno⟩ | ⟨u, jj, rfl, hu, hj1, hj2, hsh⟩
        · refine ⟨_, rfl, _, rfl, iteT ?_⟩
          refine ⟨_, rfl, _, _, rfl, rfl, .inl ⟨by decide, by decide⟩, _, rfl, _, _, rfl, rfl, _, rfl, iteD (fun hle => ?_) (fun _ => ?_)⟩
          · have hi0 : i = 0 := by omega
            refine ⟨_, rfl, _, rfl, ra, gs, _, nV g, rfl, rfl, SqL.of hra7, atI_nat hg, _, rfl, rfl, _, rfl, ?_⟩
            rw [hg1 hi0 (hno 1 (by omega) (by omega)) (hno 2 (by omega) (by omega)), decide_eq_true rfl]
            refine iteF ?_
            refine ⟨_, rfl, _, rfl, iteF (iteF ?_)⟩
            exact ⟨_, _, _, rfl, rfl⟩
          · refine iteF ?_
            refine ⟨_, rfl, _, rfl, iteF (iteF ?_)⟩
            exact ⟨_, _, _, rfl, rfl⟩
        · obtain ⟨hu1, hu2, hu3⟩ := mem_redW.mp hu
          refine ⟨_, rfl, _, rfl, iteF (iteF ?_)⟩
          refine ⟨_, rfl, _, rfl, iteT ?_⟩
          refine ⟨_, rfl, _, _, rfl, rfl, .inl ⟨by decide, by decide⟩, _, rfl, _, _, rfl, ⟨by rw [txt_len]; exact sz100 (by omega), rfl⟩, _, _, rfl, rfl, _, rfl, ?_⟩
          rw [txt_len]
          refine iteD (fun hlt => ?_) (fun _ => ?_)
          · have hi0 : i = 0 := by omega
            refine ⟨_, rfl, _, rfl, ra, gs, _, nV g, rfl, rfl, SqL.of hra7, atI_nat hg, _, rfl, rfl, _, rfl, ?_⟩
            rw [hg1 hi0 (hsh 1 (by omega) (by omega)) (hsh 2 (by omega) (by omega)), decide_eq_true rfl]
            refine iteF ?_
            exact ⟨_, _, _, rfl, rfl⟩
          · exact iteF ⟨_, _, _, rfl, rfl⟩
    rintro σ H8 ⟨v7, v10, v11, rfl, rfl⟩
    refine ⟨_, rfl, _, rfl, wa, _, rfl, SqL.of L7.words, fun p hp => ?_⟩
    rw [cutV_tail]
    have L9 := L7.ex (Ex.new (o := .lst (((bl k (2 * rows.length) (lsOf rows) n).map wdV).drop 1)) hp)
    have p9 : (upd H8 p (.lst (((bl k (2 * rows.length) (lsOf rows) n).map wdV).drop 1))) p = some (.lst (((bl k (2 * rows.length) (lsOf rows) n).map wdV).drop 1)) := upd_same
    generalize upd H8 p (.lst (((bl k (2 * rows.length) (lsOf rows) n).map wdV).drop 1)) = H9 at L9 p9
    refine ⟨p, rfl, ⟨_, SqL.of p9⟩, ?_⟩
    refine for_it walk_list (fun i σ H' => ∃ v12, σ = [some (.ref sa), some (.ref d), some (.ref ma), some (.int (mvs.length : Nat)), some (nV n), some (.ref ra), some (.ref wa), v7, v8, some first, v10, v11, v12, none, none, none] ∧ H' = H9) ⟨none, rfl, rfl⟩ (fun _ _ _ _ ⟨_, _, e⟩ => by rw [e]; exact SqL.of p9) ?_ ?_
    · rintro i x σ H10 H10' hi ⟨v12, rfl, rfl⟩ ⟨rfl, hx⟩
      have hx' : x ∈ (bl k (2 * rows.length) (lsOf rows) n).map wdV := List.mem_of_mem_drop (List.mem_of_getElem? hx)
      obtain ⟨u, hu, rfl⟩ := List.mem_map.mp hx'
      have hul := ((mem_bl S).mp hu).2.1
      refine ⟨_, rfl, 1, rfl, _, rfl, _, rfl, by rw [txt_len]; exact sz100 (by omega), _, rfl, wa, _, rfl, .inl (SqL.of L9.words), rfl, flat_wds _, _, rfl, ?_⟩
      rw [if_pos rfl, show cutS (txt u) none (some (-1)) = txt u.dropLast from cut_init u, inV_yes (bl_init S hu)]
      refine iteF ?_
      refine ⟨_, rfl, _, rfl, _, rfl, by rw [txt_len]; exact sz100 (by omega), _, rfl, wa, _, rfl, .inl (SqL.of L9.words), rfl, flat_wds _, _, rfl, ?_⟩
      rw [if_pos rfl, cut_tail, inV_yes (bl_tail S hu)]
      refine iteF ?_
      exact ⟨_, rfl, rfl⟩
    rintro σ H10 ⟨v12, rfl, rfl⟩
    have hbl : 0 < (bl k (2 * rows.length) (lsOf rows) n).length := by
      obtain ⟨r, hr⟩ := bl_head (k := k) (L := 2 * rows.length) (ls := lsOf rows) n
      rw [hr]; simp
    have hblS : (bl k (2 * rows.length) (lsOf rows) n).length ≤ 187 := Nat.le_trans (bl_bound S n) (allRed_tiny ⟨by omega, hn3'⟩)
    have pick : ∀ i : Int, ∃ u, u ∈ bl k (2 * rows.length) (lsOf rows) n ∧ atI ((bl k (2 * rows.length) (lsOf rows) n).map wdV) (i % (((bl k (2 * rows.length) (lsOf rows) n).map wdV).length : Int)) = some (wdV u) := fun i => by
      obtain ⟨m, em, hm⟩ := mod_nat i hbl
      refine ⟨_, List.getElem_mem hm, ?_⟩
      rw [List.length_map, em]
      exact atI_nat (by rw [List.getElem?_map, List.getElem?_eq_getElem hm]; rfl)
    have hpos : (0 : Int) < (((bl k (2 * rows.length) (lsOf rows) n).map wdV).length : Int) := by rw [List.length_map]; omega
    refine ⟨_, rfl, _, rfl, d, rfl, L9.dr, fun i1 H11 f11 D11 => ?_⟩
    have L11 := L9.frm f11 D11
    obtain ⟨u, hu, hui⟩ := pick i1
    refine .inl ⟨_, rfl, _, rfl, _, _, rfl, .inl ⟨_, SqL.of L11.words, rfl⟩, _, _, rfl, rfl, hpos, wa, _, _, _, rfl, rfl, SqL.of L11.words, hui, ?_⟩
    refine ⟨_, rfl, _, rfl, d, rfl, L11.dr, fun i2 H12 f12 D12 => ?_⟩
    have L12 := L11.frm f12 D12
    obtain ⟨z, hz, hzi⟩ := pick i2
    refine .inl ⟨_, rfl, _, rfl, _, _, rfl, .inl ⟨_, SqL.of L12.words, rfl⟩, _, _, rfl, rfl, hpos, wa, _, _, _, rfl, rfl, SqL.of L12.words, hzi, ?_⟩
    obtain ⟨hu1, hu2, hu3⟩ := (mem_bl S).mp hu
    obtain ⟨hz1, hz2, hz3⟩ := (mem_bl S).mp hz
    refine ⟨_, rfl, _, rfl, rfl, _, rfl, _, rfl, _, rfl, .ref ma, k, rows, u, z, rfl, L12.mach, M, hu1, hz1, equal_small M hn hu2 hz2, by omega, fun b H13 hb e13 => ⟨rfl, _, rfl, ?_⟩⟩
    have L13 := L12.ex e13
    have eb : decide (V.str (txt u) = V.str (txt z)) = b := by
      have h16 : ∀ {y : List Nat}, Wd (2 * rows.length) y → Wd 16 y := fun h => h.mono (by omega)
      rw [Bool.eq_iff_iff, hb, bl_same S M.pos hu hz]
      constructor
      · intro h
        exact txt_inj (h16 hu1) (h16 hz1) (V.str.inj (of_decide_eq_true h))
      · intro h
        rw [h]
        exact decide_eq_true rfl
    rw [eb, decide_eq_true rfl]
    refine iteF ?_
    refine ⟨_, rfl, _, rfl, _, rfl, d, .ref ma, k, rows, n, rfl, L13.dr, L13.mach, M, hn3', fun H14 wd f14 D14 hwd hwl => ?_⟩
    have L14 := L13.frm f14 D14
    refine ⟨_, rfl, _, rfl, .ref ma, k, rows, wd, rfl, L14.mach, M, hwd, by omega, fun H15 y e15 hy he => ?_⟩
    have L15 := L14.ex e15
    have hcl := cut_len wd
    obtain ⟨hy1, hy2, hy3⟩ := (mem_bl S).mp hy
    have hyn : y ∈ bl k (2 * rows.length) (lsOf rows) n := bl_mono S (by omega) hy
    refine ⟨_, rfl, _, rfl, wa, _, rfl, .inl (SqL.of L15.words), rfl, flat_wds _, _, rfl, ?_⟩
    rw [if_neg Bool.false_ne_true, inV_yes hyn]
    refine iteT ?_
    refine ⟨_, rfl, _, rfl, _, rfl, .ref ma, k, rows, y, wd, rfl, L15.mach, M, hy1, hwd, equal_small M hn (by omega) hwl, by omega, fun b H16 hb e16 => ⟨b, rfl, ?_⟩⟩
    rw [hb.mpr he]
    refine iteT ?_
    refine ⟨_, rfl, _, _, rfl, ⟨by rw [txt_len]; exact sz100 (by omega), rfl⟩, _, rfl, wd, rfl, hwd.mono (by omega), by omega, fun H17 e17 => ⟨_, _, rfl, ⟨by rw [txt_len]; exact sz100 (by omega), rfl⟩, _, _, rfl, rfl, ?_⟩⟩
    rw [txt_len, txt_len]
    show Q (V.bl (decide ((y.length : Int) ≤ ((Lf.cut wd).length : Int)))) H17
    rw [decide_eq_true (by omega)]
    exact q H17
end
end Lw
set_option Elab.async false
set_option linter.all false
set_option maxRecDepth 100000
set_option maxHeartbeats 4000000
namespace Lw
open PySem L2 Evl Lf
theorem all_mk {l : PySem.W.OpenLaw} {w : World} {K : PySem.W.Frag} {h : Heap} {mg : Str → Option Value} {fa : Addr} {CActor : Addr}
    {CForms : Addr}
    {CBall : Addr}
    {CLook : Addr}
    {f0 : Addr} {oc0 kV0 dc0 pm0 cd0 ct0 : Value} {od0 an0 : Option Addr} {sl0 : Array (Option Value)}
    {f1 : Addr} {oc1 kV1 dc1 pm1 cd1 ct1 : Value} {od1 an1 : Option Addr} {sl1 : Array (Option Value)}
    {f2 : Addr} {oc2 kV2 dc2 pm2 cd2 ct2 : Value} {od2 an2 : Option Addr} {sl2 : Array (Option Value)}
    {f3 : Addr} {oc3 kV3 dc3 pm3 cd3 ct3 : Value} {od3 an3 : Option Addr} {sl3 : Array (Option Value)}
    {f4 : Addr} {oc4 kV4 dc4 pm4 cd4 ct4 : Value} {od4 an4 : Option Addr} {sl4 : Array (Option Value)}
    {f5 : Addr} {oc5 kV5 dc5 pm5 cd5 ct5 : Value} {od5 an5 : Option Addr} {sl5 : Array (Option Value)}
    {f6 : Addr} {oc6 kV6 dc6 pm6 cd6 ct6 : Value} {od6 an6 : Option Addr} {sl6 : Array (Option Value)}
    {f7 : Addr} {oc7 kV7 dc7 pm7 cd7 ct7 : Value} {od7 an7 : Option Addr} {sl7 : Array (Option Value)}
    {f8 : Addr} {oc8 kV8 dc8 pm8 cd8 ct8 : Value} {od8 an8 : Option Addr} {sl8 : Array (Option Value)}
    {f9 : Addr} {oc9 kV9 dc9 pm9 cd9 ct9 : Value} {od9 an9 : Option Addr} {sl9 : Array (Option Value)}
    {f10 : Addr} {oc10 kV10 dc10 pm10 cd10 ct10 : Value} {od10 an10 : Option Addr} {sl10 : Array (Option Value)}
    {f11 : Addr} {oc11 kV11 dc11 pm11 cd11 ct11 : Value} {od11 an11 : Option Addr} {sl11 : Array (Option Value)}
    {f12 : Addr} {oc12 kV12 dc12 pm12 cd12 ct12 : Value} {od12 an12 : Option Addr} {sl12 : Array (Option Value)}
    {f13 : Addr} {oc13 kV13 dc13 pm13 cd13 ct13 : Value} {od13 an13 : Option Addr} {sl13 : Array (Option Value)}
    {f14 : Addr} {oc14 kV14 dc14 pm14 cd14 ct14 : Value} {od14 an14 : Option Addr} {sl14 : Array (Option Value)}
    {f15 : Addr} {oc15 kV15 dc15 pm15 cd15 ct15 : Value} {od15 an15 : Option Addr} {sl15 : Array (Option Value)}
    {f16 : Addr} {oc16 kV16 dc16 pm16 cd16 ct16 : Value} {od16 an16 : Option Addr} {sl16 : Array (Option Value)}
    {f17 : Addr} {oc17 kV17 dc17 pm17 cd17 ct17 : Value} {od17 an17 : Option Addr} {sl17 : Array (Option Value)}
    {f18 : Addr} {oc18 kV18 dc18 pm18 cd18 ct18 : Value} {od18 an18 : Option Addr} {sl18 : Array (Option Value)}
    {f19 : Addr} {oc19 kV19 dc19 pm19 cd19 ct19 : Value} {od19 an19 : Option Addr} {sl19 : Array (Option Value)}
    {f20 : Addr} {oc20 kV20 dc20 pm20 cd20 ct20 : Value} {od20 an20 : Option Addr} {sl20 : Array (Option Value)}
    {f21 : Addr} {oc21 kV21 dc21 pm21 cd21 ct21 : Value} {od21 an21 : Option Addr} {sl21 : Array (Option Value)}
    {f22 : Addr} {oc22 kV22 dc22 pm22 cd22 ct22 : Value} {od22 an22 : Option Addr} {sl22 : Array (Option Value)}
    {f23 : Addr} {oc23 kV23 dc23 pm23 cd23 ct23 : Value} {od23 an23 : Option Addr} {sl23 : Array (Option Value)}
    {f24 : Addr} {oc24 kV24 dc24 pm24 cd24 ct24 : Value} {od24 an24 : Option Addr} {sl24 : Array (Option Value)}
    {f25 : Addr} {oc25 kV25 dc25 pm25 cd25 ct25 : Value} {od25 an25 : Option Addr} {sl25 : Array (Option Value)}
    {f26 : Addr} {oc26 kV26 dc26 pm26 cd26 ct26 : Value} {od26 an26 : Option Addr} {sl26 : Array (Option Value)}
    {f27 : Addr} {oc27 kV27 dc27 pm27 cd27 ct27 : Value} {od27 an27 : Option Addr} {sl27 : Array (Option Value)}
    {f28 : Addr} {oc28 kV28 dc28 pm28 cd28 ct28 : Value} {od28 an28 : Option Addr} {sl28 : Array (Option Value)}
    {f29 : Addr} {oc29 kV29 dc29 pm29 cd29 ct29 : Value} {od29 an29 : Option Addr} {sl29 : Array (Option Value)}
    {f30 : Addr} {oc30 kV30 dc30 pm30 cd30 ct30 : Value} {od30 an30 : Option Addr} {sl30 : Array (Option Value)}
    {f31 : Addr} {oc31 kV31 dc31 pm31 cd31 ct31 : Value} {od31 an31 : Option Addr} {sl31 : Array (Option Value)}
    {f32 : Addr} {oc32 kV32 dc32 pm32 cd32 ct32 : Value} {od32 an32 : Option Addr} {sl32 : Array (Option Value)}
    {fAI : Addr} {ocAI kVAI dcAI pmAI cdAI ctAI : Value} {odAI anAI : Option Addr} {slAI : Array (Option Value)}
    {fAS : Addr} {ocAS kVAS dcAS pmAS cdAS ctAS : Value} {odAS anAS : Option Addr} {slAS : Array (Option Value)}
    {fAR : Addr} {ocAR kVAR dcAR pmAR cdAR ctAR : Value} {odAR anAR : Option Addr} {slAR : Array (Option Value)}
    {fAKp : Addr} {ocAKp kVAKp dcAKp pmAKp cdAKp ctAKp : Value} {odAKp anAKp : Option Addr} {slAKp : Array (Option Value)}
    {fFI : Addr} {ocFI kVFI dcFI pmFI cdFI ctFI : Value} {odFI anFI : Option Addr} {slFI : Array (Option Value)}
    {fFR : Addr} {ocFR kVFR dcFR pmFR cdFR ctFR : Value} {odFR anFR : Option Addr} {slFR : Array (Option Value)}
    {fFF : Addr} {ocFF kVFF dcFF pmFF cdFF ctFF : Value} {odFF anFF : Option Addr} {slFF : Array (Option Value)}
    {fBI : Addr} {ocBI kVBI dcBI pmBI cdBI ctBI : Value} {odBI anBI : Option Addr} {slBI : Array (Option Value)}
    {fBAd : Addr} {ocBAd kVBAd dcBAd pmBAd cdBAd ctBAd : Value} {odBAd anBAd : Option Addr} {slBAd : Array (Option Value)}
    {fBN : Addr} {ocBN kVBN dcBN pmBN cdBN ctBN : Value} {odBN anBN : Option Addr} {slBN : Array (Option Value)}
    {fBG : Addr} {ocBG kVBG dcBG pmBG cdBG ctBG : Value} {odBG anBG : Option Addr} {slBG : Array (Option Value)}
    {fLI : Addr} {ocLI kVLI dcLI pmLI cdLI ctLI : Value} {odLI anLI : Option Addr} {slLI : Array (Option Value)}
    {fLN : Addr} {ocLN kVLN dcLN pmLN cdLN ctLN : Value} {odLN anLN : Option Addr} {slLN : Array (Option Value)}
    {fLR : Addr} {ocLR kVLR dcLR pmLR cdLR ctLR : Value} {odLR anLR : Option Addr} {slLR : Array (Option Value)}
    {t0 : Tok}
    {t1 : Tok}
    {t2 : Tok}
    {t3 : Tok}
    {t4 : Tok}
    {t5 : Tok}
    {t6 : Tok}
    {t7 : Tok}
    {t8 : Tok}
    {t9 : Tok}
    {t10 : Tok}
    {t11 : Tok}
    {t12 : Tok}
    (X : K.In h) (G : h.Ns mainGlobals mg) (hfa : mg "law" = some (.ref fa))
    (aCActor : PySem.W.nsIn K mainGlobals "Actor" = some (some (.ref CActor)))
    (aCForms : PySem.W.nsIn K mainGlobals "Forms" = some (some (.ref CForms)))
    (aCBall : PySem.W.nsIn K mainGlobals "Ball" = some (some (.ref CBall)))
    (aCLook : PySem.W.nsIn K mainGlobals "Look" = some (some (.ref CLook)))
    (a0 : PySem.W.nsIn K mainGlobals "other" = some (some (.ref f0))) (l0 : K.lookup f0 = some ⟨oc0, od0, .func (PySem.W.fnOf "other" "other" (defArgs sOther) (defBody sOther) (defScope sOther) .none kV0 dc0 pm0 an0 cd0 ct0), sl0⟩) (c0 : PySem.W.codeIn K cd0 "other" = true) (k0 : PySem.W.keepIn K (.ref f0) = true)
    (a1 : PySem.W.nsIn K mainGlobals "letters_of" = some (some (.ref f1))) (l1 : K.lookup f1 = some ⟨oc1, od1, .func (PySem.W.fnOf "letters_of" "letters_of" (defArgs sLettersOf) (defBody sLettersOf) (defScope sLettersOf) .none kV1 dc1 pm1 an1 cd1 ct1), sl1⟩) (c1 : PySem.W.codeIn K cd1 "letters_of" = true) (k1 : PySem.W.keepIn K (.ref f1) = true)
    (a2 : PySem.W.nsIn K mainGlobals "is_word" = some (some (.ref f2))) (l2 : K.lookup f2 = some ⟨oc2, od2, .func (PySem.W.fnOf "is_word" "is_word" (defArgs sIsWord) (defBody sIsWord) (defScope sIsWord) .none kV2 dc2 pm2 an2 cd2 ct2), sl2⟩) (c2 : PySem.W.codeIn K cd2 "is_word" = true) (k2 : PySem.W.keepIn K (.ref f2) = true)
    (a3 : PySem.W.nsIn K mainGlobals "cut" = some (some (.ref f3))) (l3 : K.lookup f3 = some ⟨oc3, od3, .func (PySem.W.fnOf "cut" "cut" (defArgs sCut) (defBody sCut) (defScope sCut) .none kV3 dc3 pm3 an3 cd3 ct3), sl3⟩) (c3 : PySem.W.codeIn K cd3 "cut" = true) (k3 : PySem.W.keepIn K (.ref f3) = true)
    (a4 : PySem.W.nsIn K mainGlobals "undone" = some (some (.ref f4))) (l4 : K.lookup f4 = some ⟨oc4, od4, .func (PySem.W.fnOf "undone" "undone" (defArgs sUndone) (defBody sUndone) (defScope sUndone) .none kV4 dc4 pm4 an4 cd4 ct4), sl4⟩) (c4 : PySem.W.codeIn K cd4 "undone" = true) (k4 : PySem.W.keepIn K (.ref f4) = true)
    (a5 : PySem.W.nsIn K mainGlobals "refuse_word" = some (some (.ref f5))) (l5 : K.lookup f5 = some ⟨oc5, od5, .func (PySem.W.fnOf "refuse_word" "refuse_word" (defArgs sRefuseWord) (defBody sRefuseWord) (defScope sRefuseWord) .none kV5 dc5 pm5 an5 cd5 ct5), sl5⟩) (c5 : PySem.W.codeIn K cd5 "refuse_word" = true) (k5 : PySem.W.keepIn K (.ref f5) = true)
    (a6 : PySem.W.nsIn K mainGlobals "check_word" = some (some (.ref f6))) (l6 : K.lookup f6 = some ⟨oc6, od6, .func (PySem.W.fnOf "check_word" "check_word" (defArgs sCheckWord) (defBody sCheckWord) (defScope sCheckWord) .none kV6 dc6 pm6 an6 cd6 ct6), sl6⟩) (c6 : PySem.W.codeIn K cd6 "check_word" = true) (k6 : PySem.W.keepIn K (.ref f6) = true)
    (a7 : PySem.W.nsIn K mainGlobals "_is_row" = some (some (.ref f7))) (l7 : K.lookup f7 = some ⟨oc7, od7, .func (PySem.W.fnOf "_is_row" "_is_row" (defArgs sIsRow) (defBody sIsRow) (defScope sIsRow) .none kV7 dc7 pm7 an7 cd7 ct7), sl7⟩) (c7 : PySem.W.codeIn K cd7 "_is_row" = true) (k7 : PySem.W.keepIn K (.ref f7) = true)
    (a8 : PySem.W.nsIn K mainGlobals "is_wide" = some (some (.ref f8))) (l8 : K.lookup f8 = some ⟨oc8, od8, .func (PySem.W.fnOf "is_wide" "is_wide" (defArgs sIsWide) (defBody sIsWide) (defScope sIsWide) .none kV8 dc8 pm8 an8 cd8 ct8), sl8⟩) (c8 : PySem.W.codeIn K cd8 "is_wide" = true) (k8 : PySem.W.keepIn K (.ref f8) = true)
    (a9 : PySem.W.nsIn K mainGlobals "is_machine" = some (some (.ref f9))) (l9 : K.lookup f9 = some ⟨oc9, od9, .func (PySem.W.fnOf "is_machine" "is_machine" (defArgs sIsMachine) (defBody sIsMachine) (defScope sIsMachine) .none kV9 dc9 pm9 an9 cd9 ct9), sl9⟩) (c9 : PySem.W.codeIn K cd9 "is_machine" = true) (k9 : PySem.W.keepIn K (.ref f9) = true)
    (a10 : PySem.W.nsIn K mainGlobals "check_machine" = some (some (.ref f10))) (l10 : K.lookup f10 = some ⟨oc10, od10, .func (PySem.W.fnOf "check_machine" "check_machine" (defArgs sCheckMachine) (defBody sCheckMachine) (defScope sCheckMachine) .none kV10 dc10 pm10 an10 cd10 ct10), sl10⟩) (c10 : PySem.W.codeIn K cd10 "check_machine" = true) (k10 : PySem.W.keepIn K (.ref f10) = true)
    (a11 : PySem.W.nsIn K mainGlobals "found_list" = some (some (.ref f11))) (l11 : K.lookup f11 = some ⟨oc11, od11, .func (PySem.W.fnOf "found_list" "found_list" (defArgs sFoundList) (defBody sFoundList) (defScope sFoundList) .none kV11 dc11 pm11 an11 cd11 ct11), sl11⟩) (c11 : PySem.W.codeIn K cd11 "found_list" = true) (k11 : PySem.W.keepIn K (.ref f11) = true)
    (a12 : PySem.W.nsIn K mainGlobals "rests" = some (some (.ref f12))) (l12 : K.lookup f12 = some ⟨oc12, od12, .func (PySem.W.fnOf "rests" "rests" (defArgs sRests) (defBody sRests) (defScope sRests) .none kV12 dc12 pm12 an12 cd12 ct12), sl12⟩) (c12 : PySem.W.codeIn K cd12 "rests" = true) (k12 : PySem.W.keepIn K (.ref f12) = true)
    (a13 : PySem.W.nsIn K mainGlobals "parted" = some (some (.ref f13))) (l13 : K.lookup f13 = some ⟨oc13, od13, .func (PySem.W.fnOf "parted" "parted" (defArgs sParted) (defBody sParted) (defScope sParted) .none kV13 dc13 pm13 an13 cd13 ct13), sl13⟩) (c13 : PySem.W.codeIn K cd13 "parted" = true) (k13 : PySem.W.keepIn K (.ref f13) = true)
    (a14 : PySem.W.nsIn K mainGlobals "numbered" = some (some (.ref f14))) (l14 : K.lookup f14 = some ⟨oc14, od14, .func (PySem.W.fnOf "numbered" "numbered" (defArgs sNumbered) (defBody sNumbered) (defScope sNumbered) .none kV14 dc14 pm14 an14 cd14 ct14), sl14⟩) (c14 : PySem.W.codeIn K cd14 "numbered" = true) (k14 : PySem.W.keepIn K (.ref f14) = true)
    (a15 : PySem.W.nsIn K mainGlobals "check_length" = some (some (.ref f15))) (l15 : K.lookup f15 = some ⟨oc15, od15, .func (PySem.W.fnOf "check_length" "check_length" (defArgs sCheckLength) (defBody sCheckLength) (defScope sCheckLength) .none kV15 dc15 pm15 an15 cd15 ct15), sl15⟩) (c15 : PySem.W.codeIn K cd15 "check_length" = true) (k15 : PySem.W.keepIn K (.ref f15) = true)
    (a16 : PySem.W.nsIn K mainGlobals "grown" = some (some (.ref f16))) (l16 : K.lookup f16 = some ⟨oc16, od16, .func (PySem.W.fnOf "grown" "grown" (defArgs sGrown) (defBody sGrown) (defScope sGrown) .none kV16 dc16 pm16 an16 cd16 ct16), sl16⟩) (c16 : PySem.W.codeIn K cd16 "grown" = true) (k16 : PySem.W.keepIn K (.ref f16) = true)
    (a17 : PySem.W.nsIn K mainGlobals "ball" = some (some (.ref f17))) (l17 : K.lookup f17 = some ⟨oc17, od17, .func (PySem.W.fnOf "ball" "ball" (defArgs sBall) (defBody sBall) (defScope sBall) .none kV17 dc17 pm17 an17 cd17 ct17), sl17⟩) (c17 : PySem.W.codeIn K cd17 "ball" = true) (k17 : PySem.W.keepIn K (.ref f17) = true)
    (a18 : PySem.W.nsIn K mainGlobals "growth" = some (some (.ref f18))) (l18 : K.lookup f18 = some ⟨oc18, od18, .func (PySem.W.fnOf "growth" "growth" (defArgs sGrowth) (defBody sGrowth) (defScope sGrowth) .none kV18 dc18 pm18 an18 cd18 ct18), sl18⟩) (c18 : PySem.W.codeIn K cd18 "growth" = true) (k18 : PySem.W.keepIn K (.ref f18) = true)
    (a19 : PySem.W.nsIn K mainGlobals "least" = some (some (.ref f19))) (l19 : K.lookup f19 = some ⟨oc19, od19, .func (PySem.W.fnOf "least" "least" (defArgs sLeast) (defBody sLeast) (defScope sLeast) .none kV19 dc19 pm19 an19 cd19 ct19), sl19⟩) (c19 : PySem.W.codeIn K cd19 "least" = true) (k19 : PySem.W.keepIn K (.ref f19) = true)
    (a20 : PySem.W.nsIn K mainGlobals "check_call" = some (some (.ref f20))) (l20 : K.lookup f20 = some ⟨oc20, od20, .func (PySem.W.fnOf "check_call" "check_call" (defArgs sCheckCall) (defBody sCheckCall) (defScope sCheckCall) .none kV20 dc20 pm20 an20 cd20 ct20), sl20⟩) (c20 : PySem.W.codeIn K cd20 "check_call" = true) (k20 : PySem.W.keepIn K (.ref f20) = true)
    (a21 : PySem.W.nsIn K mainGlobals "first_relation" = some (some (.ref f21))) (l21 : K.lookup f21 = some ⟨oc21, od21, .func (PySem.W.fnOf "first_relation" "first_relation" (defArgs sFirstRel) (defBody sFirstRel) (defScope sFirstRel) .none kV21 dc21 pm21 an21 cd21 ct21), sl21⟩) (c21 : PySem.W.codeIn K cd21 "first_relation" = true) (k21 : PySem.W.keepIn K (.ref f21) = true)
    (a22 : PySem.W.nsIn K mainGlobals "_law_number" = some (some (.ref f22))) (l22 : K.lookup f22 = some ⟨oc22, od22, .func (PySem.W.fnOf "_law_number" "_law_number" (defArgs sLwNumber) (defBody sLwNumber) (defScope sLwNumber) .none kV22 dc22 pm22 an22 cd22 ct22), sl22⟩) (c22 : PySem.W.codeIn K cd22 "_law_number" = true) (k22 : PySem.W.keepIn K (.ref f22) = true)
    (a23 : PySem.W.nsIn K mainGlobals "_law_draws" = some (some (.ref f23))) (l23 : K.lookup f23 = some ⟨oc23, od23, .func (PySem.W.fnOf "_law_draws" "_law_draws" (defArgs sLwDraws) (defBody sLwDraws) (defScope sLwDraws) .none kV23 dc23 pm23 an23 cd23 ct23), sl23⟩) (c23 : PySem.W.codeIn K cd23 "_law_draws" = true) (k23 : PySem.W.keepIn K (.ref f23) = true)
    (a24 : PySem.W.nsIn K mainGlobals "_law_next" = some (some (.ref f24))) (l24 : K.lookup f24 = some ⟨oc24, od24, .func (PySem.W.fnOf "_law_next" "_law_next" (defArgs sLwNext) (defBody sLwNext) (defScope sLwNext) .none kV24 dc24 pm24 an24 cd24 ct24), sl24⟩) (c24 : PySem.W.codeIn K cd24 "_law_next" = true) (k24 : PySem.W.keepIn K (.ref f24) = true)
    (a25 : PySem.W.nsIn K mainGlobals "_law_machine" = some (some (.ref f25))) (l25 : K.lookup f25 = some ⟨oc25, od25, .func (PySem.W.fnOf "_law_machine" "_law_machine" (defArgs sLwMachine) (defBody sLwMachine) (defScope sLwMachine) .none kV25 dc25 pm25 an25 cd25 ct25), sl25⟩) (c25 : PySem.W.codeIn K cd25 "_law_machine" = true) (k25 : PySem.W.keepIn K (.ref f25) = true)
    (a26 : PySem.W.nsIn K mainGlobals "_law_word" = some (some (.ref f26))) (l26 : K.lookup f26 = some ⟨oc26, od26, .func (PySem.W.fnOf "_law_word" "_law_word" (defArgs sLwWord) (defBody sLwWord) (defScope sLwWord) .none kV26 dc26 pm26 an26 cd26 ct26), sl26⟩) (c26 : PySem.W.codeIn K cd26 "_law_word" = true) (k26 : PySem.W.keepIn K (.ref f26) = true)
    (a27 : PySem.W.nsIn K mainGlobals "_law_undone" = some (some (.ref f27))) (l27 : K.lookup f27 = some ⟨oc27, od27, .func (PySem.W.fnOf "_law_undone" "_law_undone" (defArgs sLwUndone) (defBody sLwUndone) (defScope sLwUndone) .none kV27 dc27 pm27 an27 cd27 ct27), sl27⟩) (c27 : PySem.W.codeIn K cd27 "_law_undone" = true) (k27 : PySem.W.keepIn K (.ref f27) = true)
    (a28 : PySem.W.nsIn K mainGlobals "_law_cut" = some (some (.ref f28))) (l28 : K.lookup f28 = some ⟨oc28, od28, .func (PySem.W.fnOf "_law_cut" "_law_cut" (defArgs sLwCut) (defBody sLwCut) (defScope sLwCut) .none kV28 dc28 pm28 an28 cd28 ct28), sl28⟩) (c28 : PySem.W.codeIn K cd28 "_law_cut" = true) (k28 : PySem.W.keepIn K (.ref f28) = true)
    (a29 : PySem.W.nsIn K mainGlobals "_law_digit" = some (some (.ref f29))) (l29 : K.lookup f29 = some ⟨oc29, od29, .func (PySem.W.fnOf "_law_digit" "_law_digit" (defArgs sLwDigit) (defBody sLwDigit) (defScope sLwDigit) .none kV29 dc29 pm29 an29 cd29 ct29), sl29⟩) (c29 : PySem.W.codeIn K cd29 "_law_digit" = true) (k29 : PySem.W.keepIn K (.ref f29) = true)
    (a30 : PySem.W.nsIn K mainGlobals "_law_rests" = some (some (.ref f30))) (l30 : K.lookup f30 = some ⟨oc30, od30, .func (PySem.W.fnOf "_law_rests" "_law_rests" (defArgs sLwRests) (defBody sLwRests) (defScope sLwRests) .none kV30 dc30 pm30 an30 cd30 ct30), sl30⟩) (c30 : PySem.W.codeIn K cd30 "_law_rests" = true) (k30 : PySem.W.keepIn K (.ref f30) = true)
    (a31 : PySem.W.nsIn K mainGlobals "_law_equal" = some (some (.ref f31))) (l31 : K.lookup f31 = some ⟨oc31, od31, .func (PySem.W.fnOf "_law_equal" "_law_equal" (defArgs sLwEqual) (defBody sLwEqual) (defScope sLwEqual) .none kV31 dc31 pm31 an31 cd31 ct31), sl31⟩) (c31 : PySem.W.codeIn K cd31 "_law_equal" = true) (k31 : PySem.W.keepIn K (.ref f31) = true)
    (a32 : PySem.W.nsIn K mainGlobals "law" = some (some (.ref f32))) (l32 : K.lookup f32 = some ⟨oc32, od32, .func (PySem.W.fnOf "law" "law" (defArgs sLaw) (defBody sLaw) (defScope sLaw) .none kV32 dc32 pm32 an32 cd32 ct32), sl32⟩) (c32 : PySem.W.codeIn K cd32 "law" = true) (k32 : PySem.W.keepIn K (.ref f32) = true)
    (aAI : PySem.W.findIn K (.ref CActor) "__init__" = some (some (.ref fAI))) (iAI : PySem.W.isFn K (.ref fAI) = true) (lAI : K.lookup fAI = some ⟨ocAI, odAI, .func (PySem.W.fnOf "__init__" "Actor.__init__" (defArgs sAInit) (defBody sAInit) (defScope sAInit) .none kVAI dcAI pmAI anAI cdAI ctAI), slAI⟩) (cAI : PySem.W.codeIn K cdAI "Actor.__init__" = true) (kAI : PySem.W.keepIn K (.ref fAI) = true)
    (aAS : PySem.W.findIn K (.ref CActor) "step" = some (some (.ref fAS))) (iAS : PySem.W.isFn K (.ref fAS) = true) (lAS : K.lookup fAS = some ⟨ocAS, odAS, .func (PySem.W.fnOf "step" "Actor.step" (defArgs sAStep) (defBody sAStep) (defScope sAStep) .none kVAS dcAS pmAS anAS cdAS ctAS), slAS⟩) (cAS : PySem.W.codeIn K cdAS "Actor.step" = true) (kAS : PySem.W.keepIn K (.ref fAS) = true)
    (aAR : PySem.W.findIn K (.ref CActor) "row" = some (some (.ref fAR))) (iAR : PySem.W.isFn K (.ref fAR) = true) (lAR : K.lookup fAR = some ⟨ocAR, odAR, .func (PySem.W.fnOf "row" "Actor.row" (defArgs sARow) (defBody sARow) (defScope sARow) .none kVAR dcAR pmAR anAR cdAR ctAR), slAR⟩) (cAR : PySem.W.codeIn K cdAR "Actor.row" = true) (kAR : PySem.W.keepIn K (.ref fAR) = true)
    (aAKp : PySem.W.findIn K (.ref CActor) "keeps_digits" = some (some (.ref fAKp))) (iAKp : PySem.W.isFn K (.ref fAKp) = true) (lAKp : K.lookup fAKp = some ⟨ocAKp, odAKp, .func (PySem.W.fnOf "keeps_digits" "Actor.keeps_digits" (defArgs sAKeeps) (defBody sAKeeps) (defScope sAKeeps) .none kVAKp dcAKp pmAKp anAKp cdAKp ctAKp), slAKp⟩) (cAKp : PySem.W.codeIn K cdAKp "Actor.keeps_digits" = true) (kAKp : PySem.W.keepIn K (.ref fAKp) = true)
    (aFI : PySem.W.findIn K (.ref CForms) "__init__" = some (some (.ref fFI))) (iFI : PySem.W.isFn K (.ref fFI) = true) (lFI : K.lookup fFI = some ⟨ocFI, odFI, .func (PySem.W.fnOf "__init__" "Forms.__init__" (defArgs sFInit) (defBody sFInit) (defScope sFInit) .none kVFI dcFI pmFI anFI cdFI ctFI), slFI⟩) (cFI : PySem.W.codeIn K cdFI "Forms.__init__" = true) (kFI : PySem.W.keepIn K (.ref fFI) = true)
    (aFR : PySem.W.findIn K (.ref CForms) "rows_of" = some (some (.ref fFR))) (iFR : PySem.W.isFn K (.ref fFR) = true) (lFR : K.lookup fFR = some ⟨ocFR, odFR, .func (PySem.W.fnOf "rows_of" "Forms.rows_of" (defArgs sFRows) (defBody sFRows) (defScope sFRows) .none kVFR dcFR pmFR anFR cdFR ctFR), slFR⟩) (cFR : PySem.W.codeIn K cdFR "Forms.rows_of" = true) (kFR : PySem.W.keepIn K (.ref fFR) = true)
    (aFF : PySem.W.findIn K (.ref CForms) "form" = some (some (.ref fFF))) (iFF : PySem.W.isFn K (.ref fFF) = true) (lFF : K.lookup fFF = some ⟨ocFF, odFF, .func (PySem.W.fnOf "form" "Forms.form" (defArgs sFForm) (defBody sFForm) (defScope sFForm) .none kVFF dcFF pmFF anFF cdFF ctFF), slFF⟩) (cFF : PySem.W.codeIn K cdFF "Forms.form" = true) (kFF : PySem.W.keepIn K (.ref fFF) = true)
    (aBI : PySem.W.findIn K (.ref CBall) "__init__" = some (some (.ref fBI))) (iBI : PySem.W.isFn K (.ref fBI) = true) (lBI : K.lookup fBI = some ⟨ocBI, odBI, .func (PySem.W.fnOf "__init__" "Ball.__init__" (defArgs sBInit) (defBody sBInit) (defScope sBInit) .none kVBI dcBI pmBI anBI cdBI ctBI), slBI⟩) (cBI : PySem.W.codeIn K cdBI "Ball.__init__" = true) (kBI : PySem.W.keepIn K (.ref fBI) = true)
    (aBAd : PySem.W.findIn K (.ref CBall) "add" = some (some (.ref fBAd))) (iBAd : PySem.W.isFn K (.ref fBAd) = true) (lBAd : K.lookup fBAd = some ⟨ocBAd, odBAd, .func (PySem.W.fnOf "add" "Ball.add" (defArgs sBAdd) (defBody sBAdd) (defScope sBAdd) .none kVBAd dcBAd pmBAd anBAd cdBAd ctBAd), slBAd⟩) (cBAd : PySem.W.codeIn K cdBAd "Ball.add" = true) (kBAd : PySem.W.keepIn K (.ref fBAd) = true)
    (aBN : PySem.W.findIn K (.ref CBall) "number_of" = some (some (.ref fBN))) (iBN : PySem.W.isFn K (.ref fBN) = true) (lBN : K.lookup fBN = some ⟨ocBN, odBN, .func (PySem.W.fnOf "number_of" "Ball.number_of" (defArgs sBNum) (defBody sBNum) (defScope sBNum) .none kVBN dcBN pmBN anBN cdBN ctBN), slBN⟩) (cBN : PySem.W.codeIn K cdBN "Ball.number_of" = true) (kBN : PySem.W.keepIn K (.ref fBN) = true)
    (aBG : PySem.W.findIn K (.ref CBall) "grow" = some (some (.ref fBG))) (iBG : PySem.W.isFn K (.ref fBG) = true) (lBG : K.lookup fBG = some ⟨ocBG, odBG, .func (PySem.W.fnOf "grow" "Ball.grow" (defArgs sBGrow) (defBody sBGrow) (defScope sBGrow) .none kVBG dcBG pmBG anBG cdBG ctBG), slBG⟩) (cBG : PySem.W.codeIn K cdBG "Ball.grow" = true) (kBG : PySem.W.keepIn K (.ref fBG) = true)
    (aLI : PySem.W.findIn K (.ref CLook) "__init__" = some (some (.ref fLI))) (iLI : PySem.W.isFn K (.ref fLI) = true) (lLI : K.lookup fLI = some ⟨ocLI, odLI, .func (PySem.W.fnOf "__init__" "Look.__init__" (defArgs sLInit) (defBody sLInit) (defScope sLInit) .none kVLI dcLI pmLI anLI cdLI ctLI), slLI⟩) (cLI : PySem.W.codeIn K cdLI "Look.__init__" = true) (kLI : PySem.W.keepIn K (.ref fLI) = true)
    (aLN : PySem.W.findIn K (.ref CLook) "next_ring" = some (some (.ref fLN))) (iLN : PySem.W.isFn K (.ref fLN) = true) (lLN : K.lookup fLN = some ⟨ocLN, odLN, .func (PySem.W.fnOf "next_ring" "Look.next_ring" (defArgs sLNext) (defBody sLNext) (defScope sLNext) .none kVLN dcLN pmLN anLN cdLN ctLN), slLN⟩) (cLN : PySem.W.codeIn K cdLN "Look.next_ring" = true) (kLN : PySem.W.keepIn K (.ref fLN) = true)
    (aLR : PySem.W.findIn K (.ref CLook) "rests" = some (some (.ref fLR))) (iLR : PySem.W.isFn K (.ref fLR) = true) (lLR : K.lookup fLR = some ⟨ocLR, odLR, .func (PySem.W.fnOf "rests" "Look.rests" (defArgs sLRests) (defBody sLRests) (defScope sLRests) .none kVLR dcLR pmLR anLR cdLR ctLR), slLR⟩) (cLR : PySem.W.codeIn K cdLR "Look.rests" = true) (kLR : PySem.W.keepIn K (.ref fLR) = true)
    (pgActor : PySem.W.plainGet K CActor Str.empty = true) (hdActor : PySem.W.hasDictIn K CActor = true) (poActor : PySem.W.plainOver K CActor = true) (saActor : PySem.W.findIn K (.ref CActor) "__setattr__" = some (some (.builtin "object.__setattr__"))) (mkActor : PySem.W.makesIn K CActor = true) (kcActor : PySem.W.keepIn K (.ref CActor) = true)
    (nActorsize : PySem.W.findIn K (.ref CActor) "size" = some none)
    (nActortable : PySem.W.findIn K (.ref CActor) "table" = some none)
    (pgForms : PySem.W.plainGet K CForms Str.empty = true) (hdForms : PySem.W.hasDictIn K CForms = true) (poForms : PySem.W.plainOver K CForms = true) (saForms : PySem.W.findIn K (.ref CForms) "__setattr__" = some (some (.builtin "object.__setattr__"))) (mkForms : PySem.W.makesIn K CForms = true) (kcForms : PySem.W.keepIn K (.ref CForms) = true)
    (nFormsactor : PySem.W.findIn K (.ref CForms) "actor" = some none)
    (nFormsknown : PySem.W.findIn K (.ref CForms) "known" = some none)
    (pgBall : PySem.W.plainGet K CBall Str.empty = true) (hdBall : PySem.W.hasDictIn K CBall = true) (poBall : PySem.W.plainOver K CBall = true) (saBall : PySem.W.findIn K (.ref CBall) "__setattr__" = some (some (.builtin "object.__setattr__"))) (mkBall : PySem.W.makesIn K CBall = true) (kcBall : PySem.W.keepIn K (.ref CBall) = true)
    (nBallletters : PySem.W.findIn K (.ref CBall) "letters" = some none)
    (nBallforms : PySem.W.findIn K (.ref CBall) "forms" = some none)
    (nBallwords : PySem.W.findIn K (.ref CBall) "words" = some none)
    (nBallnumbers : PySem.W.findIn K (.ref CBall) "numbers" = some none)
    (nBallrings : PySem.W.findIn K (.ref CBall) "rings" = some none)
    (pgLook : PySem.W.plainGet K CLook Str.empty = true) (hdLook : PySem.W.hasDictIn K CLook = true) (poLook : PySem.W.plainOver K CLook = true) (saLook : PySem.W.findIn K (.ref CLook) "__setattr__" = some (some (.builtin "object.__setattr__"))) (mkLook : PySem.W.makesIn K CLook = true) (kcLook : PySem.W.keepIn K (.ref CLook) = true)
    (nLookmachine : PySem.W.findIn K (.ref CLook) "machine" = some none)
    (nLookonce : PySem.W.findIn K (.ref CLook) "once" = some none)
    (nLookcount : PySem.W.findIn K (.ref CLook) "count" = some none)
    (nLookring : PySem.W.findIn K (.ref CLook) "ring" = some none)
    (v0 : PySem.W.nsIn K mainGlobals "SMALL" = some (some (.str "abcdefgh" t0)))
    (v1 : PySem.W.nsIn K mainGlobals "LARGE" = some (some (.str "ABCDEFGH" t1)))
    (v2 : PySem.W.nsIn K mainGlobals "ORDER" = some (some (.str "aAbBcCdDeEfFgGhH" t2)))
    (v3 : PySem.W.nsIn K mainGlobals "LONGEST_words" = some (some (.int 60 t3)))
    (v4 : PySem.W.nsIn K mainGlobals "LEAST_DIGITS" = some (some (.int 2 t4)))
    (v5 : PySem.W.nsIn K mainGlobals "MOST_DIGITS" = some (some (.int 4 t5)))
    (v6 : PySem.W.nsIn K mainGlobals "MOST_STATES" = some (some (.int 8 t6)))
    (v7 : PySem.W.nsIn K mainGlobals "MOST_WIDE" = some (some (.int 200 t7)))
    (v8 : PySem.W.nsIn K mainGlobals "MOST_WORDS_closed" = some (some (.int 4000 t8)))
    (v9 : PySem.W.nsIn K mainGlobals "LONGEST_growth" = some (some (.int 12 t9)))
    (v10 : PySem.W.nsIn K mainGlobals "MOST_WORDS_growth" = some (some (.int 600 t10)))
    (v11 : PySem.W.nsIn K mainGlobals "LONGEST_relations" = some (some (.int 12 t11)))
    (v12 : PySem.W.nsIn K mainGlobals "MOST_LOOKED" = some (some (.int 5000 t12)))
    (aRC : PySem.W.nsIn K mainGlobals "rests_closed" = some (some (.ref f12)))
    (zlen : PySem.W.nsIn K mainGlobals "len" = some none)
    (zall : PySem.W.nsIn K mainGlobals "all" = some none)
    (zsorted : PySem.W.nsIn K mainGlobals "sorted" = some none)
    (zlist : PySem.W.nsIn K mainGlobals "list" = some none)
    (zrange : PySem.W.nsIn K mainGlobals "range" = some none)
    (zenumerate : PySem.W.nsIn K mainGlobals "enumerate" = some none)
    (ztuple : PySem.W.nsIn K mainGlobals "tuple" = some none)
    (zint : PySem.W.nsIn K mainGlobals "int" = some none)
    (zsum : PySem.W.nsIn K mainGlobals "sum" = some none) :
    ∃ fd : FuncData, (∀ (s : Shared) (v : Value), BindsTo s fd ⟨[v], []⟩ [("_law_script", v)]) ∧ ∀ base : Heap, K.In base → base.Ns mainGlobals mg → FnOk l.prog w K mg base CX0 11 fa fd ["_law_script"] (spLaw K) := by
  have e := hfa.symm.trans (PySem.W.mg_of X G a32)
  cases e
  have T : TWords mg := ⟨⟨_, PySem.W.mg_of X G v0⟩, ⟨_, PySem.W.mg_of X G v1⟩, ⟨_, PySem.W.mg_of X G v2⟩, ⟨_, PySem.W.mg_of X G v3⟩, ⟨_, PySem.W.mg_of X G v4⟩, ⟨_, PySem.W.mg_of X G v5⟩, ⟨_, PySem.W.mg_of X G v6⟩, ⟨_, PySem.W.mg_of X G v7⟩, ⟨_, PySem.W.mg_of X G v8⟩, ⟨_, PySem.W.mg_of X G v9⟩, ⟨_, PySem.W.mg_of X G v10⟩, ⟨_, PySem.W.mg_of X G v11⟩, ⟨_, PySem.W.mg_of X G v12⟩, PySem.W.mg_none_of X G zlen, PySem.W.mg_none_of X G zall, PySem.W.mg_none_of X G zsorted, PySem.W.mg_none_of X G zlist, PySem.W.mg_none_of X G zrange, PySem.W.mg_none_of X G zenumerate, PySem.W.mg_none_of X G ztuple, PySem.W.mg_none_of X G zint, PySem.W.mg_none_of X G zsum⟩
  have F0 := fun_mk (st := sOther) l0 c0 k0
  have D0 : Df K mg "other" sOther ["letter"] _ _ := ⟨F0, PySem.W.mg_of X G a0, F0.binds (ps := ["letter"]) fun _ _ _ _ _ _ us hl => match us, hl with | [_], _ => rfl⟩
  have F1 := fun_mk (st := sLettersOf) l1 c1 k1
  have D1 : Df K mg "letters_of" sLettersOf ["machine"] _ _ := ⟨F1, PySem.W.mg_of X G a1, F1.binds (ps := ["machine"]) fun _ _ _ _ _ _ us hl => match us, hl with | [_], _ => rfl⟩
  have F2 := fun_mk (st := sIsWord) l2 c2 k2
  have D2 : Df K mg "is_word" sIsWord ["machine", "word"] _ _ := ⟨F2, PySem.W.mg_of X G a2, F2.binds (ps := ["machine", "word"]) fun _ _ _ _ _ _ us hl => match us, hl with | [_, _], _ => rfl⟩
  have F3 := fun_mk (st := sCut) l3 c3 k3
  have D3 : Df K mg "cut" sCut ["word"] _ _ := ⟨F3, PySem.W.mg_of X G a3, F3.binds (ps := ["word"]) fun _ _ _ _ _ _ us hl => match us, hl with | [_], _ => rfl⟩
  have F4 := fun_mk (st := sUndone) l4 c4 k4
  have D4 : Df K mg "undone" sUndone ["word"] _ _ := ⟨F4, PySem.W.mg_of X G a4, F4.binds (ps := ["word"]) fun _ _ _ _ _ _ us hl => match us, hl with | [_], _ => rfl⟩
  have F5 := fun_mk (st := sRefuseWord) l5 c5 k5
  have D5 : Df K mg "refuse_word" sRefuseWord ["machine", "word"] _ _ := ⟨F5, PySem.W.mg_of X G a5, F5.binds (ps := ["machine", "word"]) fun _ _ _ _ _ _ us hl => match us, hl with | [_, _], _ => rfl⟩
  have F6 := fun_mk (st := sCheckWord) l6 c6 k6
  have D6 : Df K mg "check_word" sCheckWord ["machine", "word"] _ _ := ⟨F6, PySem.W.mg_of X G a6, F6.binds (ps := ["machine", "word"]) fun _ _ _ _ _ _ us hl => match us, hl with | [_, _], _ => rfl⟩
  have F7 := fun_mk (st := sIsRow) l7 c7 k7
  have D7 : Df K mg "_is_row" sIsRow ["row", "k", "count"] _ _ := ⟨F7, PySem.W.mg_of X G a7, F7.binds (ps := ["row", "k", "count"]) fun _ _ _ _ _ _ us hl => match us, hl with | [_, _, _], _ => rfl⟩
  have F8 := fun_mk (st := sIsWide) l8 c8 k8
  have D8 : Df K mg "is_wide" sIsWide ["machine"] _ _ := ⟨F8, PySem.W.mg_of X G a8, F8.binds (ps := ["machine"]) fun _ _ _ _ _ _ us hl => match us, hl with | [_], _ => rfl⟩
  have F9 := fun_mk (st := sIsMachine) l9 c9 k9
  have D9 : Df K mg "is_machine" sIsMachine ["machine"] _ _ := ⟨F9, PySem.W.mg_of X G a9, F9.binds (ps := ["machine"]) fun _ _ _ _ _ _ us hl => match us, hl with | [_], _ => rfl⟩
  have F10 := fun_mk (st := sCheckMachine) l10 c10 k10
  have D10 : Df K mg "check_machine" sCheckMachine ["machine"] _ _ := ⟨F10, PySem.W.mg_of X G a10, F10.binds (ps := ["machine"]) fun _ _ _ _ _ _ us hl => match us, hl with | [_], _ => rfl⟩
  have F11 := fun_mk (st := sFoundList) l11 c11 k11
  have D11 : Df K mg "found_list" sFoundList ["machine", "word"] _ _ := ⟨F11, PySem.W.mg_of X G a11, F11.binds (ps := ["machine", "word"]) fun _ _ _ _ _ _ us hl => match us, hl with | [_, _], _ => rfl⟩
  have F12 := fun_mk (st := sRests) l12 c12 k12
  have D12 : Df K mg "rests" sRests ["machine", "word"] _ _ := ⟨F12, PySem.W.mg_of X G a12, F12.binds (ps := ["machine", "word"]) fun _ _ _ _ _ _ us hl => match us, hl with | [_, _], _ => rfl⟩
  have F13 := fun_mk (st := sParted) l13 c13 k13
  have D13 : Df K mg "parted" sParted ["rows"] _ _ := ⟨F13, PySem.W.mg_of X G a13, F13.binds (ps := ["rows"]) fun _ _ _ _ _ _ us hl => match us, hl with | [_], _ => rfl⟩
  have F14 := fun_mk (st := sNumbered) l14 c14 k14
  have D14 : Df K mg "numbered" sNumbered ["rows", "classes"] _ _ := ⟨F14, PySem.W.mg_of X G a14, F14.binds (ps := ["rows", "classes"]) fun _ _ _ _ _ _ us hl => match us, hl with | [_, _], _ => rfl⟩
  have F15 := fun_mk (st := sCheckLength) l15 c15 k15
  have D15 : Df K mg "check_length" sCheckLength ["length"] _ _ := ⟨F15, PySem.W.mg_of X G a15, F15.binds (ps := ["length"]) fun _ _ _ _ _ _ us hl => match us, hl with | [_], _ => rfl⟩
  have F16 := fun_mk (st := sGrown) l16 c16 k16
  have D16 : Df K mg "grown" sGrown ["machine", "length"] _ _ := ⟨F16, PySem.W.mg_of X G a16, F16.binds (ps := ["machine", "length"]) fun _ _ _ _ _ _ us hl => match us, hl with | [_, _], _ => rfl⟩
  have F17 := fun_mk (st := sBall) l17 c17 k17
  have D17 : Df K mg "ball" sBall ["machine", "length"] _ _ := ⟨F17, PySem.W.mg_of X G a17, F17.binds (ps := ["machine", "length"]) fun _ _ _ _ _ _ us hl => match us, hl with | [_, _], _ => rfl⟩
  have F18 := fun_mk (st := sGrowth) l18 c18 k18
  have D18 : Df K mg "growth" sGrowth ["machine", "length"] _ _ := ⟨F18, PySem.W.mg_of X G a18, F18.binds (ps := ["machine", "length"]) fun _ _ _ _ _ _ us hl => match us, hl with | [_, _], _ => rfl⟩
  have F19 := fun_mk (st := sLeast) l19 c19 k19
  have D19 : Df K mg "least" sLeast ["machine", "word"] _ _ := ⟨F19, PySem.W.mg_of X G a19, F19.binds (ps := ["machine", "word"]) fun _ _ _ _ _ _ us hl => match us, hl with | [_, _], _ => rfl⟩
  have F20 := fun_mk (st := sCheckCall) l20 c20 k20
  have D20 : Df K mg "check_call" sCheckCall ["machine", "length"] _ _ := ⟨F20, PySem.W.mg_of X G a20, F20.binds (ps := ["machine", "length"]) fun _ _ _ _ _ _ us hl => match us, hl with | [_, _], _ => rfl⟩
  have F21 := fun_mk (st := sFirstRel) l21 c21 k21
  have D21 : Df K mg "first_relation" sFirstRel ["machine", "length"] _ _ := ⟨F21, PySem.W.mg_of X G a21, F21.binds (ps := ["machine", "length"]) fun _ _ _ _ _ _ us hl => match us, hl with | [_, _], _ => rfl⟩
  have F22 := fun_mk (st := sLwNumber) l22 c22 k22
  have D22 : Df K mg "_law_number" sLwNumber ["_law_cell"] _ _ := ⟨F22, PySem.W.mg_of X G a22, F22.binds (ps := ["_law_cell"]) fun _ _ _ _ _ _ us hl => match us, hl with | [_], _ => rfl⟩
  have F23 := fun_mk (st := sLwDraws) l23 c23 k23
  have D23 : Df K mg "_law_draws" sLwDraws ["_law_script"] _ _ := ⟨F23, PySem.W.mg_of X G a23, F23.binds (ps := ["_law_script"]) fun _ _ _ _ _ _ us hl => match us, hl with | [_], _ => rfl⟩
  have F24 := fun_mk (st := sLwNext) l24 c24 k24
  have D24 : Df K mg "_law_next" sLwNext ["_law_draws_here"] _ _ := ⟨F24, PySem.W.mg_of X G a24, F24.binds (ps := ["_law_draws_here"]) fun _ _ _ _ _ _ us hl => match us, hl with | [_], _ => rfl⟩
  have F25 := fun_mk (st := sLwMachine) l25 c25 k25
  have D25 : Df K mg "_law_machine" sLwMachine ["_law_draws_here", "_law_most"] _ _ := ⟨F25, PySem.W.mg_of X G a25, F25.binds (ps := ["_law_draws_here", "_law_most"]) fun _ _ _ _ _ _ us hl => match us, hl with | [_, _], _ => rfl⟩
  have F26 := fun_mk (st := sLwWord) l26 c26 k26
  have D26 : Df K mg "_law_word" sLwWord ["_law_draws_here", "_law_machine_here", "_law_most"] _ _ := ⟨F26, PySem.W.mg_of X G a26, F26.binds (ps := ["_law_draws_here", "_law_machine_here", "_law_most"]) fun _ _ _ _ _ _ us hl => match us, hl with | [_, _, _], _ => rfl⟩
  have F27 := fun_mk (st := sLwUndone) l27 c27 k27
  have D27 : Df K mg "_law_undone" sLwUndone ["_law_word_here"] _ _ := ⟨F27, PySem.W.mg_of X G a27, F27.binds (ps := ["_law_word_here"]) fun _ _ _ _ _ _ us hl => match us, hl with | [_], _ => rfl⟩
  have F28 := fun_mk (st := sLwCut) l28 c28 k28
  have D28 : Df K mg "_law_cut" sLwCut ["_law_word_here"] _ _ := ⟨F28, PySem.W.mg_of X G a28, F28.binds (ps := ["_law_word_here"]) fun _ _ _ _ _ _ us hl => match us, hl with | [_], _ => rfl⟩
  have F29 := fun_mk (st := sLwDigit) l29 c29 k29
  have D29 : Df K mg "_law_digit" sLwDigit ["_law_machine_here", "_law_word_here", "_law_x"] _ _ := ⟨F29, PySem.W.mg_of X G a29, F29.binds (ps := ["_law_machine_here", "_law_word_here", "_law_x"]) fun _ _ _ _ _ _ us hl => match us, hl with | [_, _, _], _ => rfl⟩
  have F30 := fun_mk (st := sLwRests) l30 c30 k30
  have D30 : Df K mg "_law_rests" sLwRests ["_law_machine_here", "_law_word_here"] _ _ := ⟨F30, PySem.W.mg_of X G a30, F30.binds (ps := ["_law_machine_here", "_law_word_here"]) fun _ _ _ _ _ _ us hl => match us, hl with | [_, _], _ => rfl⟩
  have F31 := fun_mk (st := sLwEqual) l31 c31 k31
  have D31 : Df K mg "_law_equal" sLwEqual ["_law_machine_here", "_law_one", "_law_other"] _ _ := ⟨F31, PySem.W.mg_of X G a31, F31.binds (ps := ["_law_machine_here", "_law_one", "_law_other"]) fun _ _ _ _ _ _ us hl => match us, hl with | [_, _, _], _ => rfl⟩
  have F32 := fun_mk (st := sLaw) l32 c32 k32
  have D32 : Df K mg "law" sLaw ["_law_script"] _ _ := ⟨F32, PySem.W.mg_of X G a32, F32.binds (ps := ["_law_script"]) fun _ _ _ _ _ _ us hl => match us, hl with | [_], _ => rfl⟩
  have FAI := fun_mk (st := sAInit) lAI cAI kAI
  have bAI := FAI.binds (ps := ["self", "machine"]) fun _ _ _ _ _ _ us hl => match us, hl with | [_, _], _ => rfl
  have MAI : Mk K CActor fAI := ⟨mkActor, aAI, iAI, kcActor⟩
  have FAS := fun_mk (st := sAStep) lAS cAS kAS
  have bAS := FAS.binds (ps := ["self", "word", "digit"]) fun _ _ _ _ _ _ us hl => match us, hl with | [_, _, _], _ => rfl
  have mAS : Meth K CActor "step" fAS := ⟨aAS, iAS, kAS⟩
  have FAR := fun_mk (st := sARow) lAR cAR kAR
  have bAR := FAR.binds (ps := ["self", "word"]) fun _ _ _ _ _ _ us hl => match us, hl with | [_, _], _ => rfl
  have mAR : Meth K CActor "row" fAR := ⟨aAR, iAR, kAR⟩
  have FAKp := fun_mk (st := sAKeeps) lAKp cAKp kAKp
  have bAKp := FAKp.binds (ps := ["self", "word"]) fun _ _ _ _ _ _ us hl => match us, hl with | [_, _], _ => rfl
  have mAKp : Meth K CActor "keeps_digits" fAKp := ⟨aAKp, iAKp, kAKp⟩
  have FFI := fun_mk (st := sFInit) lFI cFI kFI
  have bFI := FFI.binds (ps := ["self", "machine"]) fun _ _ _ _ _ _ us hl => match us, hl with | [_, _], _ => rfl
  have MFI : Mk K CForms fFI := ⟨mkForms, aFI, iFI, kcForms⟩
  have FFR := fun_mk (st := sFRows) lFR cFR kFR
  have bFR := FFR.binds (ps := ["self", "word"]) fun _ _ _ _ _ _ us hl => match us, hl with | [_, _], _ => rfl
  have mFR : Meth K CForms "rows_of" fFR := ⟨aFR, iFR, kFR⟩
  have FFF := fun_mk (st := sFForm) lFF cFF kFF
  have bFF := FFF.binds (ps := ["self", "word"]) fun _ _ _ _ _ _ us hl => match us, hl with | [_, _], _ => rfl
  have mFF : Meth K CForms "form" fFF := ⟨aFF, iFF, kFF⟩
  have FBI := fun_mk (st := sBInit) lBI cBI kBI
  have bBI := FBI.binds (ps := ["self", "machine"]) fun _ _ _ _ _ _ us hl => match us, hl with | [_, _], _ => rfl
  have MBI : Mk K CBall fBI := ⟨mkBall, aBI, iBI, kcBall⟩
  have FBAd := fun_mk (st := sBAdd) lBAd cBAd kBAd
  have bBAd := FBAd.binds (ps := ["self", "word"]) fun _ _ _ _ _ _ us hl => match us, hl with | [_, _], _ => rfl
  have mBAd : Meth K CBall "add" fBAd := ⟨aBAd, iBAd, kBAd⟩
  have FBN := fun_mk (st := sBNum) lBN cBN kBN
  have bBN := FBN.binds (ps := ["self", "word"]) fun _ _ _ _ _ _ us hl => match us, hl with | [_, _], _ => rfl
  have mBN : Meth K CBall "number_of" fBN := ⟨aBN, iBN, kBN⟩
  have FBG := fun_mk (st := sBGrow) lBG cBG kBG
  have bBG := FBG.binds (ps := ["self"]) fun _ _ _ _ _ _ us hl => match us, hl with | [_], _ => rfl
  have mBG : Meth K CBall "grow" fBG := ⟨aBG, iBG, kBG⟩
  have FLI := fun_mk (st := sLInit) lLI cLI kLI
  have bLI := FLI.binds (ps := ["self", "machine", "once"]) fun _ _ _ _ _ _ us hl => match us, hl with | [_, _, _], _ => rfl
  have MLI : Mk K CLook fLI := ⟨mkLook, aLI, iLI, kcLook⟩
  have FLN := fun_mk (st := sLNext) lLN cLN kLN
  have bLN := FLN.binds (ps := ["self"]) fun _ _ _ _ _ _ us hl => match us, hl with | [_], _ => rfl
  have mLN : Meth K CLook "next_ring" fLN := ⟨aLN, iLN, kLN⟩
  have FLR := fun_mk (st := sLRests) lLR cLR kLR
  have bLR := FLR.binds (ps := ["self", "word"]) fun _ _ _ _ _ _ us hl => match us, hl with | [_, _], _ => rfl
  have mLR : Meth K CLook "rests" fLR := ⟨aLR, iLR, kLR⟩
  have TActor : TA K mg CActor := ⟨⟨pgActor, hdActor, poActor, saActor⟩, nActorsize, nActortable, PySem.W.mg_of X G aCActor⟩
  have TForms : TF K mg CForms := ⟨⟨pgForms, hdForms, poForms, saForms⟩, nFormsactor, nFormsknown, PySem.W.mg_of X G aCForms⟩
  have TBall : TBl K mg CBall := ⟨⟨pgBall, hdBall, poBall, saBall⟩, nBallletters, nBallforms, nBallwords, nBallnumbers, nBallrings, PySem.W.mg_of X G aCBall⟩
  have TLook : TLk K mg CLook := ⟨⟨pgLook, hdLook, poLook, saLook⟩, nLookmachine, nLookonce, nLookcount, nLookring, PySem.W.mg_of X G aCLook⟩
  refine ⟨PySem.W.fnOf "law" "law" (defArgs sLaw) (defBody sLaw) (defScope sLaw) .none kV32 dc32 pm32 an32 cd32 ct32, fun s v => .of_eq rfl, fun base _ _ => ?_⟩
  have Gcut : FnOk l.prog w K mg base CX0 2 _ _ _ spCut := ok_cut D3 D0 T
  have GAI : FnOk l.prog w K mg base CX0 1 _ _ _ (spAInit CActor) := ok_aInit FAI T TActor
  have S : Me K CActor "step" "Actor.step" sAStep ["self", "word", "digit"] _ _ := ⟨FAS, mAS, bAS⟩
  have GAR : FnOk l.prog w K mg base CX0 3 _ _ _ (spARow CActor) := ok_aRow FAR S D3 Gcut T TActor
  have GAKp : FnOk l.prog w K mg base CX0 2 _ _ _ (spKeeps CActor) := ok_keeps FAKp S T TActor
  have A : AK l.prog w K mg base CActor _ _ _ _ _ _ _ _ := ⟨TActor, MAI, bAI, GAI, mAR, bAR, GAR, mAKp, bAKp, GAKp, D3, Gcut⟩
  have Gfound : FnOk l.prog w K mg base CX0 4 _ _ _ spFound := ok_found D11 A T
  have Grests : FnOk l.prog w K mg base CX0 5 _ _ _ spRests := ok_rests D12 D11 Gfound
  have GFI : FnOk l.prog w K mg base CX0 3 _ _ _ (spFInit CActor CForms) := ok_fInit FFI A TForms
  have GFR : FnOk l.prog w K mg base CX0 4 _ _ _ (spFRows CActor CForms) := ok_fRows FFR A TForms T
  have GFF : FnOk l.prog w K mg base CX0 5 _ _ _ (spForm CActor CForms) := ok_form FFF TForms mFR bFR GFR D3 Gcut D13 D14 T
  have GBAd : FnOk l.prog w K mg base CX0 6 _ _ _ (spAdd l.prog w CActor CForms CBall) := ok_add FBAd TForms TBall mFF bFF GFF T
  have GBN : FnOk l.prog w K mg base CX0 6 _ _ _ (spNumOf l.prog w CActor CForms CBall) := ok_numOf FBN TForms TBall mFF bFF GFF
  have GBG : FnOk l.prog w K mg base CX0 7 _ _ _ (spGrow l.prog w CActor CForms CBall) := ok_grow FBG TBall D3 Gcut mBN bBN GBN mBAd bBAd GBAd T
  have GBI : FnOk l.prog w K mg base CX0 7 _ _ _ (spBInit l.prog w CActor CForms CBall) := ok_bInit FBI TForms TBall D1 MFI bFI GFI mBAd bBAd GBAd T
  have Ggrown : FnOk l.prog w K mg base CX0 9 _ _ _ (spGrown l.prog w CActor CForms CBall) := ok_grown D16 TBall MBI bBI GBI mBG bBG GBG T
  have Gcm : FnOk l.prog w K mg base CX0 4 _ _ _ spCheckMachine := ok_checkMachine D10 D9 D8 D7 T
  have Grw : FnOk l.prog w K mg base CX0 3 _ _ _ spRefuse := ok_refuse D5 D2 D1 T
  have Gcw : FnOk l.prog w K mg base CX0 5 _ _ _ spCheckWord := ok_checkWord D6 D10 D5 Gcm Grw
  have Gball : FnOk l.prog w K mg base CX0 10 _ _ _ spBall := ok_ball D17 TBall D10 Gcm D15 D16 Ggrown T
  have Ggrowth : FnOk l.prog w K mg base CX0 10 _ _ _ spGrowth := ok_growth D18 TBall D10 Gcm D15 D16 Ggrown T
  have Gleast : FnOk l.prog w K mg base CX0 10 _ _ _ spLeast := ok_least D19 TBall D10 Gcm D6 Gcw D3 Gcut D16 Ggrown mBN bBN GBN T
  have Gcc : FnOk l.prog w K mg base CX0 5 _ _ _ spCheckCall := ok_checkCall D20 D10 Gcm T
  have Gund : FnOk l.prog w K mg base CX0 2 _ _ _ spUndone := ok_undone D4 D0 T
  have GLI : FnOk l.prog w K mg base CX0 1 _ _ _ (spLInit CLook) := ok_lInit FLI TLook
  have GLR : FnOk l.prog w K mg base CX0 6 _ _ _ (spLRests CLook) := ok_lRests FLR TLook D12 (PySem.W.mg_of X G aRC) Grests T
  have GLN : FnOk l.prog w K mg base CX0 7 _ _ _ (spNext CLook) := ok_next FLN TLook D1 D4 Gund mLR bLR GLR T
  have Gfirst : FnOk l.prog w K mg base CX0 8 _ _ _ spFirst := ok_first D21 TLook D20 Gcc MLI bLI GLI mLN bLN GLN T
  have Gldr : FnOk l.prog w K mg base CX0 2 _ _ _ (spLwDraws K) := ok_lwDraws D23 D22 T
  have Glnx : FnOk l.prog w K mg base CX0 1 _ _ _ spLwNext := ok_lwNext D24
  have Glm : FnOk l.prog w K mg base CX0 2 _ _ _ spLwMachine := ok_lwMachine D25 D24 T
  have Glw : FnOk l.prog w K mg base CX0 2 _ _ _ spLwWord := ok_lwWord D26 D24 T
  have Glc : FnOk l.prog w K mg base CX0 2 _ _ _ spLwCut := ok_lwCut D28 D27
  have Glr : FnOk l.prog w K mg base CX0 3 _ _ _ spLwRests := ok_lwRests D30 D28 Glc D29 T
  have Gle : FnOk l.prog w K mg base CX0 4 _ _ _ spLwEqual := ok_lwEqual D31 D30 Glr D27
  exact ok_law D32 D23 Gldr D24 Glnx D25 Glm D18 Ggrowth D17 Gball D21 Gfirst D31 Gle D26 Glw D19 Gleast D28 Glc T
theorem walk {l : PySem.W.OpenLaw} {q : Program} {loose : List Str} {XP : (Str → Option Value) → Heap → Prop} {YP : World → Heap → Prop} {d : DefRec} {K : Params → PySem.W.Frag} (hn : l.most = some 63) (hdf : d.params.defaults = [])
    (hY : ∀ (w : World) (h : Heap), YP w h → (K w.params).In h)
    (F : ∀ (w : World) (mg : Str → Option Value) (fa : Addr) (h : Heap), (K w.params).In h → h.Ns mainGlobals mg → mg d.name = some (.ref fa) →
      ∃ fd : FuncData, (∀ (s : Shared) (u : Value), BindsTo s fd ⟨[u], []⟩ [("_law_script", u)]) ∧ ∀ base : Heap, (K w.params).In base → base.Ns mainGlobals mg → FnOk l.prog w (K w.params) mg base CX0 11 fa fd ["_law_script"] (spLaw (K w.params))) :
    PySem.W.WalkO q loose XP YP l.row.toRowW d [] (fun f vs => PySem.call f vs) :=
  L2.walk_of (n := 63) (k := 11) (x := "_law_script") (CX := fun _ => CX0) (sp := fun w => spLaw (K w.params)) hn (by decide) hdf ⟨rfl, by decide, by decide⟩ hY F (fun _ _ a ns hl _ hS => ⟨a, ns, rfl, hS, hl, fun _ => rfl⟩) fun _ _ _ _ _ z => z
end Lw
set_option Elab.async false
set_option linter.all false
set_option maxRecDepth 100000
open PySem PySem.W PyProof.Rows in
set_option maxRecDepth 100000 in
set_option maxHeartbeats 0 in
theorem PySem.Challenge.cw_leafturner_k67_whole_growth_and_relation_holds : PySem.Challenge.rw_leafturner_k67_whole_growth_and_relation.Holds := by
  w_on; o_law; k_head; (case hw => w_witness2)
  k_fill
  refine Lw.walk (l := PySem.Challenge.rw_leafturner_k67_whole_growth_and_relation) rfl rfl (fun w h Y => PySem.W.kIn_of Y) ?F
  case F =>
    intro w mg fa h KX G hmg
    refine' Lw.all_mk KX G hmg ?aCActor ?aCForms ?aCBall ?aCLook ?a0 ?l0 ?c0 ?k0 ?a1 ?l1 ?c1 ?k1 ?a2 ?l2 ?c2 ?k2 ?a3 ?l3 ?c3 ?k3 ?a4 ?l4 ?c4 ?k4 ?a5 ?l5 ?c5 ?k5 ?a6 ?l6 ?c6 ?k6 ?a7 ?l7 ?c7 ?k7 ?a8 ?l8 ?c8 ?k8 ?a9 ?l9 ?c9 ?k9 ?a10 ?l10 ?c10 ?k10 ?a11 ?l11 ?c11 ?k11 ?a12 ?l12 ?c12 ?k12 ?a13 ?l13 ?c13 ?k13 ?a14 ?l14 ?c14 ?k14 ?a15 ?l15 ?c15 ?k15 ?a16 ?l16 ?c16 ?k16 ?a17 ?l17 ?c17 ?k17 ?a18 ?l18 ?c18 ?k18 ?a19 ?l19 ?c19 ?k19 ?a20 ?l20 ?c20 ?k20 ?a21 ?l21 ?c21 ?k21 ?a22 ?l22 ?c22 ?k22 ?a23 ?l23 ?c23 ?k23 ?a24 ?l24 ?c24 ?k24 ?a25 ?l25 ?c25 ?k25 ?a26 ?l26 ?c26 ?k26 ?a27 ?l27 ?c27 ?k27 ?a28 ?l28 ?c28 ?k28 ?a29 ?l29 ?c29 ?k29 ?a30 ?l30 ?c30 ?k30 ?a31 ?l31 ?c31 ?k31 ?a32 ?l32 ?c32 ?k32 ?aAI ?iAI ?lAI ?cAI ?kAI ?aAS ?iAS ?lAS ?cAS ?kAS ?aAR ?iAR ?lAR ?cAR ?kAR ?aAKp ?iAKp ?lAKp ?cAKp ?kAKp ?aFI ?iFI ?lFI ?cFI ?kFI ?aFR ?iFR ?lFR ?cFR ?kFR ?aFF ?iFF ?lFF ?cFF ?kFF ?aBI ?iBI ?lBI ?cBI ?kBI ?aBAd ?iBAd ?lBAd ?cBAd ?kBAd ?aBN ?iBN ?lBN ?cBN ?kBN ?aBG ?iBG ?lBG ?cBG ?kBG ?aLI ?iLI ?lLI ?cLI ?kLI ?aLN ?iLN ?lLN ?cLN ?kLN ?aLR ?iLR ?lLR ?cLR ?kLR ?pgActor ?hdActor ?poActor ?saActor ?mkActor ?kcActor ?nActorsize ?nActortable ?pgForms ?hdForms ?poForms ?saForms ?mkForms ?kcForms ?nFormsactor ?nFormsknown ?pgBall ?hdBall ?poBall ?saBall ?mkBall ?kcBall ?nBallletters ?nBallforms ?nBallwords ?nBallnumbers ?nBallrings ?pgLook ?hdLook ?poLook ?saLook ?mkLook ?kcLook ?nLookmachine ?nLookonce ?nLookcount ?nLookring ?v0 ?v1 ?v2 ?v3 ?v4 ?v5 ?v6 ?v7 ?v8 ?v9 ?v10 ?v11 ?v12 ?aRC ?zlen ?zall ?zsorted ?zlist ?zrange ?zenumerate ?ztuple ?zint ?zsum
    (case aCActor => k_is)
    (case aCForms => k_is)
    (case aCBall => k_is)
    (case aCLook => k_is)
    (case a0 => k_is)
    (case l0 => k_is)
    (case c0 => k_is)
    (case k0 => k_is)
    (case a1 => k_is)
    (case l1 => k_is)
    (case c1 => k_is)
    (case k1 => k_is)
    (case a2 => k_is)
    (case l2 => k_is)
    (case c2 => k_is)
    (case k2 => k_is)
    (case a3 => k_is)
    (case l3 => k_is)
    (case c3 => k_is)
    (case k3 => k_is)
    (case a4 => k_is)
    (case l4 => k_is)
    (case c4 => k_is)
    (case k4 => k_is)
    (case a5 => k_is)
    (case l5 => k_is)
    (case c5 => k_is)
    (case k5 => k_is)
    (case a6 => k_is)
    (case l6 => k_is)
    (case c6 => k_is)
    (case k6 => k_is)
    (case a7 => k_is)
    (case l7 => k_is)
    (case c7 => k_is)
    (case k7 => k_is)
    (case a8 => k_is)
    (case l8 => k_is)
    (case c8 => k_is)
    (case k8 => k_is)
    (case a9 => k_is)
    (case l9 => k_is)
    (case c9 => k_is)
    (case k9 => k_is)
    (case a10 => k_is)
    (case l10 => k_is)
    (case c10 => k_is)
    (case k10 => k_is)
    (case a11 => k_is)
    (case l11 => k_is)
    (case c11 => k_is)
    (case k11 => k_is)
    (case a12 => k_is)
    (case l12 => k_is)
    (case c12 => k_is)
    (case k12 => k_is)
    (case a13 => k_is)
    (case l13 => k_is)
    (case c13 => k_is)
    (case k13 => k_is)
    (case a14 => k_is)
    (case l14 => k_is)
    (case c14 => k_is)
    (case k14 => k_is)
    (case a15 => k_is)
    (case l15 => k_is)
    (case c15 => k_is)
    (case k15 => k_is)
    (case a16 => k_is)
    (case l16 => k_is)
    (case c16 => k_is)
    (case k16 => k_is)
    (case a17 => k_is)
    (case l17 => k_is)
    (case c17 => k_is)
    (case k17 => k_is)
    (case a18 => k_is)
    (case l18 => k_is)
    (case c18 => k_is)
    (case k18 => k_is)
    (case a19 => k_is)
    (case l19 => k_is)
    (case c19 => k_is)
    (case k19 => k_is)
    (case a20 => k_is)
    (case l20 => k_is)
    (case c20 => k_is)
    (case k20 => k_is)
    (case a21 => k_is)
    (case l21 => k_is)
    (case c21 => k_is)
    (case k21 => k_is)
    (case a22 => k_is)
    (case l22 => k_is)
    (case c22 => k_is)
    (case k22 => k_is)
    (case a23 => k_is)
    (case l23 => k_is)
    (case c23 => k_is)
    (case k23 => k_is)
    (case a24 => k_is)
    (case l24 => k_is)
    (case c24 => k_is)
    (case k24 => k_is)
    (case a25 => k_is)
    (case l25 => k_is)
    (case c25 => k_is)
    (case k25 => k_is)
    (case a26 => k_is)
    (case l26 => k_is)
    (case c26 => k_is)
    (case k26 => k_is)
    (case a27 => k_is)
    (case l27 => k_is)
    (case c27 => k_is)
    (case k27 => k_is)
    (case a28 => k_is)
    (case l28 => k_is)
    (case c28 => k_is)
    (case k28 => k_is)
    (case a29 => k_is)
    (case l29 => k_is)
    (case c29 => k_is)
    (case k29 => k_is)
    (case a30 => k_is)
    (case l30 => k_is)
    (case c30 => k_is)
    (case k30 => k_is)
    (case a31 => k_is)
    (case l31 => k_is)
    (case c31 => k_is)
    (case k31 => k_is)
    (case a32 => k_is)
    (case l32 => k_is)
    (case c32 => k_is)
    (case k32 => k_is)
    (case aAI => k_is)
    (case iAI => k_is)
    (case lAI => k_is)
    (case cAI => k_is)
    (case kAI => k_is)
    (case aAS => k_is)
    (case iAS => k_is)
    (case lAS => k_is)
    (case cAS => k_is)
    (case kAS => k_is)
    (case aAR => k_is)
    (case iAR => k_is)
    (case lAR => k_is)
    (case cAR => k_is)
    (case kAR => k_is)
    (case aAKp => k_is)
    (case iAKp => k_is)
    (case lAKp => k_is)
    (case cAKp => k_is)
    (case kAKp => k_is)
    (case aFI => k_is)
    (case iFI => k_is)
    (case lFI => k_is)
    (case cFI => k_is)
    (case kFI => k_is)
    (case aFR => k_is)
    (case iFR => k_is)
    (case lFR => k_is)
    (case cFR => k_is)
    (case kFR => k_is)
    (case aFF => k_is)
    (case iFF => k_is)
    (case lFF => k_is)
    (case cFF => k_is)
    (case kFF => k_is)
    (case aBI => k_is)
    (case iBI => k_is)
    (case lBI => k_is)
    (case cBI => k_is)
    (case kBI => k_is)
    (case aBAd => k_is)
    (case iBAd => k_is)
    (case lBAd => k_is)
    (case cBAd => k_is)
    (case kBAd => k_is)
    (case aBN => k_is)
    (case iBN => k_is)
    (case lBN => k_is)
    (case cBN => k_is)
    (case kBN => k_is)
    (case aBG => k_is)
    (case iBG => k_is)
    (case lBG => k_is)
    (case cBG => k_is)
    (case kBG => k_is)
    (case aLI => k_is)
    (case iLI => k_is)
    (case lLI => k_is)
    (case cLI => k_is)
    (case kLI => k_is)
    (case aLN => k_is)
    (case iLN => k_is)
    (case lLN => k_is)
    (case cLN => k_is)
    (case kLN => k_is)
    (case aLR => k_is)
    (case iLR => k_is)
    (case lLR => k_is)
    (case cLR => k_is)
    (case kLR => k_is)
    (case pgActor => k_is)
    (case hdActor => k_is)
    (case poActor => k_is)
    (case saActor => k_is)
    (case mkActor => k_is)
    (case kcActor => k_is)
    (case nActorsize => k_is)
    (case nActortable => k_is)
    (case pgForms => k_is)
    (case hdForms => k_is)
    (case poForms => k_is)
    (case saForms => k_is)
    (case mkForms => k_is)
    (case kcForms => k_is)
    (case nFormsactor => k_is)
    (case nFormsknown => k_is)
    (case pgBall => k_is)
    (case hdBall => k_is)
    (case poBall => k_is)
    (case saBall => k_is)
    (case mkBall => k_is)
    (case kcBall => k_is)
    (case nBallletters => k_is)
    (case nBallforms => k_is)
    (case nBallwords => k_is)
    (case nBallnumbers => k_is)
    (case nBallrings => k_is)
    (case pgLook => k_is)
    (case hdLook => k_is)
    (case poLook => k_is)
    (case saLook => k_is)
    (case mkLook => k_is)
    (case kcLook => k_is)
    (case nLookmachine => k_is)
    (case nLookonce => k_is)
    (case nLookcount => k_is)
    (case nLookring => k_is)
    (case v0 => k_is)
    (case v1 => k_is)
    (case v2 => k_is)
    (case v3 => k_is)
    (case v4 => k_is)
    (case v5 => k_is)
    (case v6 => k_is)
    (case v7 => k_is)
    (case v8 => k_is)
    (case v9 => k_is)
    (case v10 => k_is)
    (case v11 => k_is)
    (case v12 => k_is)
    (case aRC => k_is)
    (case zlen => k_is)
    (case zall => k_is)
    (case zsorted => k_is)
    (case zlist => k_is)
    (case zrange => k_is)
    (case zenumerate => k_is)
    (case ztuple => k_is)
    (case zint => k_is)
    (case zsum => k_is)
