import PyProof.Rows.All
import Wide.All
import OpenK.AllK
import Wide.FinOn
import PyProof.DictUpdate
import KE.KEqDict
import KE.GoesEnum
import HandS.ForMost
import HandS.More
import HandS.DictComp
import HandS.TupAny
import HandS.SetKeys
import HandS.SetFor
import HandS.Strs
import HandS.Style
import KE.KDictPairs
import HandS.AnyAll
import HandS.Nested
import HandS.Lambda
import KE.SortKeyHeap
import HandS.Evl
import HandS.Defaults
import PySem.Challenge.RW_stopsheld_k10_spilled_fit
import HandS.Walk
import KE.KIntText
import KE.KStateDown
import HandS.Words
import HandS.WordsExc
import HandS.Head0
import HandS.Head1
import HandS.Head2
import HandS.HeadEnd
import HandS.HeadHook1
import HandS.HeadHook2
import HandS.HeadHook3
import HandS.HeadHook4
import HandS.HeadWalk
section
set_option linter.all false
/-! The plain law, part 1: blocks, ways, dominators, living, and that of two variables of a definition set the one that is defined first stands in the other's set. No program in sight. -/
namespace SF
structure Bk (α : Type) where
  params : List α
  ins : List (Option α × List α)
  fin : List α
  succ : List Nat

section
variable {α : Type}
/-- b is reached from block 0 by a way that has no block of which av holds -/
inductive RA (suc : Nat → List Nat) (av : Nat → Prop) : Nat → Prop
  | zero : ¬ av 0 → RA suc av 0
  | step {u v} : RA suc av u → v ∈ suc u → ¬ av v → RA suc av v
def Reach (suc : Nat → List Nat) (v : Nat) : Prop := RA suc (fun _ => False) v
def Dom (suc : Nat → List Nat) (d b : Nat) : Prop := ¬ RA suc (fun v => v = d) b

variable {suc : Nat → List Nat}
theorem RA.mono {p q : Nat → Prop} (h : ∀ v, q v → p v) {v : Nat} (r : RA suc p v) : RA suc q v := by
  induction r with
  | zero h0 => exact .zero fun z => h0 (h _ z)
  | step _ e n ih => exact .step ih e fun z => n (h _ z)
theorem RA.notAt {p : Nat → Prop} {v : Nat} (r : RA suc p v) : ¬ p v := by
  cases r with
  | zero h => exact h
  | step _ _ h => exact h
theorem RA.reach {p : Nat → Prop} {v : Nat} (r : RA suc p v) : Reach suc v := r.mono fun _ z => z.elim
theorem Dom.refl (b : Nat) : Dom suc b b := fun r => r.notAt rfl
theorem Dom.zero (b : Nat) : Dom suc 0 b := fun r => by
  have h : ∀ v, RA suc (fun v => v = 0) v → False := by
    intro v r
    induction r with
    | zero h => exact h rfl
    | step _ _ _ ih => exact ih
  exact h b r
theorem Dom.trans {a b c : Nat} (h1 : Dom suc a b) (h2 : Dom suc b c) : Dom suc a c := by
  intro r
  have : ∀ v, RA suc (fun v => v = a) v → RA suc (fun v => v = b) v := by
    intro v r
    induction r with
    | zero h =>
      by_cases e : (0 : Nat) = b
      · exact absurd (e ▸ RA.zero h) h1
      · exact .zero e
    | @step u v hu e n ih =>
      by_cases eb : v = b
      · exact absurd (eb ▸ RA.step hu e n) h1
      · exact .step ih e eb
  exact h2 (this c r)
theorem Dom.antisymm {a b : Nat} (hr : Reach suc b) (h1 : Dom suc a b) (h2 : Dom suc b a) : a = b := by
  by_cases e : a = b
  · exact e
  exfalso
  have key : ∀ v, Reach suc v → RA suc (fun v => v = a ∨ v = b) v ∨ RA suc (fun v => v = b) a ∨ RA suc (fun v => v = a) b := by
    intro v r
    induction r with
    | zero _ =>
      by_cases ea : (0 : Nat) = a
      · exact .inr (.inl (ea ▸ RA.zero fun z => e (ea ▸ z)))
      by_cases eb : (0 : Nat) = b
      · exact .inr (.inr (eb ▸ RA.zero fun z => e (by rw [← z, eb])))
      exact .inl (.zero fun z => z.elim ea eb)
    | @step u v _ hv _ ih =>
      rcases ih with ih | ih
      · by_cases ea : v = a
        · exact .inr (.inl (ea ▸ RA.step (ih.mono fun _ z => .inr z) hv fun z => e (by rw [← ea, z])))
        by_cases eb : v = b
        · exact .inr (.inr (eb ▸ RA.step (ih.mono fun _ z => .inl z) hv fun z => e (by rw [← z, eb])))
        exact .inl (.step ih hv fun z => z.elim ea eb)
      · exact .inr ih
  rcases key b hr with k | k | k
  · exact k.notAt (.inr rfl)
  · exact h2 k
  · exact h1 k
theorem Dom.chain {a b c : Nat} (hr : Reach suc c) (h1 : Dom suc a c) (h2 : Dom suc b c) : Dom suc a b ∨ Dom suc b a := by
  apply Classical.byContradiction
  intro hn
  have n1 : RA suc (fun v => v = a) b := Classical.byContradiction fun z => hn (.inl z)
  have n2 : RA suc (fun v => v = b) a := Classical.byContradiction fun z => hn (.inr z)
  have key : ∀ v, Reach suc v → RA suc (fun v => v = a) v ∨ RA suc (fun v => v = b) v := by
    intro v r
    induction r with
    | zero _ =>
      by_cases ea : (0 : Nat) = a
      · exact .inr (.zero fun z => n2.notAt (by rw [← ea, z]))
      · exact .inl (.zero ea)
    | @step u v _ hv _ ih =>
      rcases ih with ih | ih
      · by_cases ea : v = a
        · exact .inr (ea ▸ n2)
        · exact .inl (.step ih hv ea)
      · by_cases eb : v = b
        · exact .inl (eb ▸ n1)
        · exact .inr (.step ih hv eb)
  rcases key c hr with k | k
  · exact h1 k
  · exact h2 k
/-- along an edge -/
theorem Dom.back {d u v : Nat} (h : Dom suc d v) (e : v ∈ suc u) (n : v ≠ d) : Dom suc d u := fun r => h (.step r e n)

/-! ### living -/
/-- behind a row list, ahead of it -/
def thru : List (Option α × List α) → (α → Prop) → α → Prop
  | [], p, x => p x
  | (d, us) :: r, p, x => x ∈ us ∨ (d ≠ some x ∧ thru r p x)
theorem thru_mono {p q : α → Prop} {x : α} (h : p x → q x) : ∀ l : List (Option α × List α), thru l p x → thru l q x
  | [], r => h r
  | (_, _) :: l, r => r.imp id fun z => ⟨z.1, thru_mono h l z.2⟩

abbrev Pg (α : Type) := List (Bk α)
def sucOf (G : Pg α) (b : Nat) : List Nat := match G[b]? with
  | some B => B.succ
  | none => []
inductive LiveAt (G : Pg α) : Nat → Nat → α → Prop
  | use {b k : Nat} {x : α} {B : Bk α} {d : Option α} {us : List α} : G[b]? = some B → B.ins[k]? = some (d, us) → x ∈ us → LiveAt G b k x
  | fin {b : Nat} {x : α} {B : Bk α} : G[b]? = some B → x ∈ B.fin → LiveAt G b B.ins.length x
  | step {b k : Nat} {x : α} {B : Bk α} {d : Option α} {us : List α} : G[b]? = some B → B.ins[k]? = some (d, us) → d ≠ some x → LiveAt G b (k + 1) x → LiveAt G b k x
  | edge {b c : Nat} {x : α} {B C : Bk α} : G[b]? = some B → c ∈ B.succ → G[c]? = some C → x ∉ C.params → LiveAt G c 0 x → LiveAt G b B.ins.length x
def DefPt (G : Pg α) (x : α) (e j : Nat) : Prop := ∃ B, G[e]? = some B ∧ ((j = 0 ∧ x ∈ B.params) ∨ ∃ i us, j = i + 1 ∧ B.ins[i]? = some (some x, us))
def Le (G : Pg α) (e j b k : Nat) : Prop := (e = b ∧ j ≤ k) ∨ (e ≠ b ∧ Dom (sucOf G) e b)
def Avail (G : Pg α) (b k : Nat) (x : α) : Prop := ∃ e j, DefPt G x e j ∧ Le G e j b k
def bdefs (B : Bk α) : List α := B.params ++ B.ins.filterMap (·.1)
def defs (G : Pg α) : List α := (G.map bdefs).flatten
/-- a program in single assignment -/
structure WF (G : Pg α) : Prop where
  pos : 0 < G.length
  nd : (defs G).Nodup
  suc : ∀ (b : Nat) (B : Bk α), G[b]? = some B → ∀ c ∈ B.succ, c < G.length
  reach : ∀ b, b < G.length → Reach (sucOf G) b
  useI : ∀ (b : Nat) (B : Bk α) (k : Nat) (d : Option α) (us : List α), G[b]? = some B → B.ins[k]? = some (d, us) → ∀ x ∈ us, Avail G b k x
  useF : ∀ (b : Nat) (B : Bk α), G[b]? = some B → ∀ x ∈ B.fin, Avail G b B.ins.length x
def InSet (G : Pg α) (b p : Nat) (x : α) : Prop := DefPt G x b p ∨ LiveAt G b p x

variable {G : Pg α}
theorem suc_of {b : Nat} {B : Bk α} (h : G[b]? = some B) : sucOf G b = B.succ := by
  unfold sucOf
  rw [h]
theorem DefPt.mem {x : α} {e j : Nat} (h : DefPt G x e j) : ∃ B, G[e]? = some B ∧ x ∈ bdefs B := by
  obtain ⟨B, hB, h | ⟨i, us, _, h⟩⟩ := h
  · exact ⟨B, hB, List.mem_append.mpr (.inl h.2)⟩
  · exact ⟨B, hB, List.mem_append.mpr (.inr (List.mem_filterMap.mpr ⟨_, List.mem_of_getElem? h, rfl⟩))⟩
theorem mem_defs {x : α} : x ∈ defs G ↔ ∃ e j, DefPt G x e j := by
  constructor
  · intro h
    obtain ⟨l, hl, hx⟩ := List.mem_flatten.mp h
    obtain ⟨B, hB, rfl⟩ := List.mem_map.mp hl
    obtain ⟨e, he, rfl⟩ := List.getElem_of_mem hB
    rcases List.mem_append.mp hx with h | h
    · exact ⟨e, 0, _, List.getElem?_eq_getElem he, .inl ⟨rfl, h⟩⟩
    · obtain ⟨⟨d, us⟩, hr, e1⟩ := List.mem_filterMap.mp h
      obtain ⟨i, hi, er⟩ := List.getElem_of_mem hr
      have e1 : d = some x := e1
      subst e1
      exact ⟨e, i + 1, _, List.getElem?_eq_getElem he, .inr ⟨i, us, rfl, by rw [List.getElem?_eq_getElem hi, er]⟩⟩
  · rintro ⟨e, j, h⟩
    obtain ⟨B, hB, hx⟩ := h.mem
    exact List.mem_flatten.mpr ⟨_, List.mem_map.mpr ⟨B, List.mem_of_getElem? hB, rfl⟩, hx⟩
theorem nodup_parts : ∀ {ls : List (List α)}, ls.flatten.Nodup → ∀ {i j : Nat} {a b : List α} {x : α}, ls[i]? = some a → ls[j]? = some b → x ∈ a → x ∈ b → i = j
  | [], _, i, j, a, b, x, h1, _, _, _ => by simp at h1
  | l :: ls, h, i, j, a, b, x, h1, h2, h3, h4 => by
    rw [List.flatten_cons, List.nodup_append] at h
    cases i with
    | zero =>
      cases j with
      | zero => rfl
      | succ j =>
        simp at h1 h2
        subst h1
        exact absurd rfl (h.2.2 x h3 x (List.mem_flatten.mpr ⟨b, List.mem_of_getElem? h2, h4⟩))
    | succ i =>
      cases j with
      | zero =>
        simp at h1 h2
        subst h2
        exact absurd rfl (h.2.2 x h4 x (List.mem_flatten.mpr ⟨a, List.mem_of_getElem? h1, h3⟩))
      | succ j =>
        simp at h1 h2
        exact congrArg (· + 1) (nodup_parts h.2.1 h1 h2 h3 h4)
theorem nodup_part {ls : List (List α)} (h : ls.flatten.Nodup) {a : List α} (ha : a ∈ ls) : a.Nodup := by
  induction ls with
  | nil => cases ha
  | cons l ls ih =>
    rw [List.flatten_cons, List.nodup_append] at h
    rcases List.mem_cons.mp ha with e | e
    · rw [e]; exact h.1
    · exact ih h.2.1 e
theorem fm_inj {r : List (Option α × List α)} (h : (r.filterMap (·.1)).Nodup) : ∀ {i j : Nat} {x : α} {us vs : List α}, r[i]? = some (some x, us) → r[j]? = some (some x, vs) → i = j := by
  induction r with
  | nil => intro i j x us vs h1; simp at h1
  | cons q r ih =>
    intro i j x us vs h1 h2
    obtain ⟨d, ws⟩ := q
    have sub : ∀ {k : Nat} {vs : List α}, r[k]? = some (some x, vs) → x ∈ r.filterMap (·.1) := fun h => List.mem_filterMap.mpr ⟨_, List.mem_of_getElem? h, rfl⟩
    have tl : (r.filterMap (·.1)).Nodup := by
      cases d with
      | none => simpa using h
      | some y =>
        have h : (y :: r.filterMap (·.1)).Nodup := h
        rw [List.nodup_cons] at h
        exact h.2
    cases i with
    | zero =>
      cases j with
      | zero => rfl
      | succ j =>
        simp at h1 h2
        obtain ⟨rfl, rfl⟩ := h1
        have h : (x :: r.filterMap (·.1)).Nodup := h
        rw [List.nodup_cons] at h
        exact absurd (sub h2) h.1
    | succ i =>
      cases j with
      | zero =>
        simp at h1 h2
        obtain ⟨rfl, rfl⟩ := h2
        have h : (x :: r.filterMap (·.1)).Nodup := h
        rw [List.nodup_cons] at h
        exact absurd (sub h1) h.1
      | succ j =>
        simp at h1 h2
        exact congrArg (· + 1) (ih tl h1 h2)
theorem DefPt.uniq (W : WF G) {x : α} {e j e' j' : Nat} (h : DefPt G x e j) (h' : DefPt G x e' j') : e = e' ∧ j = j' := by
  obtain ⟨B, hB, hx⟩ := h.mem
  obtain ⟨B', hB', hx'⟩ := h'.mem
  have e1 : (G.map bdefs)[e]? = some (bdefs B) := by rw [List.getElem?_map, hB]; rfl
  have e2 : (G.map bdefs)[e']? = some (bdefs B') := by rw [List.getElem?_map, hB']; rfl
  have ee := nodup_parts W.nd e1 e2 hx hx'
  subst ee
  refine ⟨rfl, ?_⟩
  have nb : (bdefs B).Nodup := nodup_part W.nd (List.mem_of_getElem? e1)
  unfold bdefs at nb
  rw [List.nodup_append] at nb
  obtain ⟨C, hC, h⟩ := h
  obtain ⟨C', hC', h'⟩ := h'
  rw [hB] at hC hC'
  cases hC
  cases hC'
  have sub : ∀ {k : Nat} {vs : List α}, B.ins[k]? = some (some x, vs) → x ∈ B.ins.filterMap (·.1) := fun h => List.mem_filterMap.mpr ⟨_, List.mem_of_getElem? h, rfl⟩
  rcases h with ⟨rfl, h⟩ | ⟨i, us, rfl, h⟩
  · rcases h' with ⟨rfl, h'⟩ | ⟨i', us', rfl, h'⟩
    · rfl
    · exact absurd rfl (nb.2.2 x h x (sub h'))
  · rcases h' with ⟨rfl, h'⟩ | ⟨i', us', rfl, h'⟩
    · exact absurd rfl (nb.2.2 x h' x (sub h))
    · rw [fm_inj nb.2.1 h h']
theorem Le.refl (b k : Nat) : Le G b k b k := .inl ⟨rfl, Nat.le_refl _⟩
theorem live_lt {b k : Nat} {x : α} (h : LiveAt G b k x) : ∃ B, G[b]? = some B ∧ k ≤ B.ins.length := by
  induction h with
  | use hB hk _ => exact ⟨_, hB, Nat.le_of_lt (List.getElem?_eq_some_iff.mp hk).1⟩
  | fin hB _ => exact ⟨_, hB, Nat.le_refl _⟩
  | step hB hk _ _ _ => exact ⟨_, hB, Nat.le_of_lt (List.getElem?_eq_some_iff.mp hk).1⟩
  | edge hB _ _ _ _ _ => exact ⟨_, hB, Nat.le_refl _⟩
theorem live_avail (W : WF G) {b k : Nat} {x : α} (h : LiveAt G b k x) : Avail G b k x := by
  induction h with
  | use hB hk hx => exact W.useI _ _ _ _ _ hB hk _ hx
  | fin hB hx => exact W.useF _ _ hB _ hx
  | @step b k x B d us hB hk hd hl ih =>
    obtain ⟨e, j, hD, hLe⟩ := ih
    refine ⟨e, j, hD, ?_⟩
    rcases hLe with ⟨rfl, hj⟩ | hh
    · refine .inl ⟨rfl, ?_⟩
      by_cases ej : j = k + 1
      · exfalso
        obtain ⟨C, hC, h⟩ := hD
        rw [hB] at hC
        cases hC
        rcases h with ⟨e0, _⟩ | ⟨i, us', e1, hi⟩
        · omega
        · have : i = k := by omega
          subst this
          rw [hk] at hi
          cases hi
          exact hd rfl
      · omega
    · exact .inr hh
  | @edge b c x B C hB hc hC hx hl ih =>
    obtain ⟨e, j, hD, hLe⟩ := ih
    have hcs : c ∈ sucOf G b := by rw [suc_of hB]; exact hc
    have ne : e ≠ c := by
      rintro rfl
      rcases hLe with ⟨_, hj⟩ | ⟨h, _⟩
      · obtain ⟨C', hC', h⟩ := hD
        rw [hC] at hC'
        cases hC'
        rcases h with ⟨_, h⟩ | ⟨i, us, e1, _⟩
        · exact hx h
        · omega
      · exact h rfl
    rcases hLe with ⟨h, _⟩ | ⟨_, hd⟩
    · exact absurd h ne
    have hd' := hd.back hcs (Ne.symm ne)
    refine ⟨e, j, hD, ?_⟩
    by_cases eb : e = b
    · subst eb
      refine .inl ⟨rfl, ?_⟩
      obtain ⟨B', hB', h⟩ := hD
      rw [hB] at hB'
      cases hB'
      rcases h with ⟨rfl, _⟩ | ⟨i, us, rfl, hi⟩
      · exact Nat.zero_le _
      · exact (List.getElem?_eq_some_iff.mp hi).1
    · exact .inr ⟨eb, hd'⟩
theorem inset_le (W : WF G) {b p : Nat} {x : α} {e j : Nat} (h : InSet G b p x) (hD : DefPt G x e j) : Le G e j b p := by
  rcases h with h | h
  · obtain ⟨rfl, rfl⟩ := DefPt.uniq W hD h
    exact Le.refl _ _
  · obtain ⟨e', j', hD', hL⟩ := live_avail W h
    obtain ⟨rfl, rfl⟩ := DefPt.uniq W hD hD'
    exact hL
theorem DefPt.lt {x : α} {e j : Nat} (h : DefPt G x e j) : e < G.length := by
  obtain ⟨B, hB, _⟩ := h
  exact (List.getElem?_eq_some_iff.mp hB).1
/-- back in a block, no further than the definition -/
theorem live_in (W : WF G) {b p : Nat} {x : α} {e i : Nat} (hD : DefPt G x e i) (h : LiveAt G b p x) : ∀ m n, m + n = p → (e = b → i ≤ m) → LiveAt G b m x := by
  intro m n
  induction n generalizing m with
  | zero => intro e1 _; rw [Nat.add_zero] at e1; rw [e1]; exact h
  | succ n ih =>
    intro e1 hi
    have h1 := ih (m + 1) (by omega) fun z => Nat.le_succ_of_le (hi z)
    obtain ⟨B, hB, hl⟩ := live_lt h1
    have hm : m < B.ins.length := by omega
    obtain ⟨d, us, hk⟩ : ∃ d us, B.ins[m]? = some (d, us) := ⟨_, _, List.getElem?_eq_getElem hm⟩
    refine .step hB hk ?_ h1
    rintro rfl
    obtain ⟨rfl, rfl⟩ := DefPt.uniq W hD ⟨B, hB, .inr ⟨m, us, rfl, hk⟩⟩
    exact absurd (hi rfl) (by omega)
theorem live_path (W : WF G) {d e i : Nat} {D : Bk α} {x : α} (hd : G[d]? = some D) (hD : DefPt G x e i) (he : Dom (sucOf G) e d) : ∀ v, Reach (sucOf G) v → v < G.length → v ≠ d → Dom (sucOf G) d v → LiveAt G v 0 x → LiveAt G d D.ins.length x := by
  intro v r
  induction r with
  | zero _ =>
    intro _ n hdv _
    exact absurd (RA.zero (fun z => n z)) hdv
  | @step u v hu hv _ ih =>
    intro hvl n hdv hl
    have hul : u < G.length := by
      unfold sucOf at hv
      cases hu' : G[u]? with
      | none => rw [hu'] at hv; cases hv
      | some U => exact (List.getElem?_eq_some_iff.mp hu').1
    have hU : G[u]? = some G[u] := List.getElem?_eq_getElem hul
    have hV : G[v]? = some G[v] := List.getElem?_eq_getElem hvl
    have rd : Reach (sucOf G) d := W.reach d (List.getElem?_eq_some_iff.mp hd).1
    have edg : ∀ w, w < G.length → w ≠ d → Dom (sucOf G) d w → e ≠ w := by
      rintro w hw nw hdw rfl
      exact nw (Dom.antisymm rd he hdw)
    have ev := edg v hvl n hdv
    have hxv : x ∉ (G[v]).params := fun z => ev (DefPt.uniq W hD ⟨_, hV, .inl ⟨rfl, z⟩⟩).1
    have hlu : LiveAt G u (G[u]).ins.length x := .edge hU (by rw [← suc_of hU]; exact hv) hV hxv hl
    by_cases eu : u = d
    · subst eu
      rw [hU] at hd
      cases hd
      exact hlu
    · have hdu := hdv.back hv n
      exact ih hul eu hdu (live_in W hD hlu 0 _ (Nat.zero_add _) fun z => absurd z (edg u hul eu hdu))
/-- THE MAIN FACT: of two variables of a set the one that is defined no later stands in the other's own set -/
theorem earlier_in (W : WF G) {b p : Nat} {x y : α} {e i d j : Nat} (hx : InSet G b p x) (hy : InSet G b p y) (hDx : DefPt G x e i) (hDy : DefPt G y d j) (hle : Le G e i d j) : InSet G d j x := by
  have lx := inset_le W hx hDx
  have ly := inset_le W hy hDy
  obtain ⟨B, hB⟩ : ∃ B, G[b]? = some B := by
    rcases hx with ⟨B, hB, _⟩ | h
    · exact ⟨B, hB⟩
    · obtain ⟨B, hB, _⟩ := live_lt h
      exact ⟨B, hB⟩
  have hbl := (List.getElem?_eq_some_iff.mp hB).1
  rcases hx with hx | hx
  · obtain ⟨rfl, rfl⟩ := DefPt.uniq W hDx hx
    rcases hle with ⟨rfl, h1⟩ | ⟨n, h1⟩
    · rcases ly with ⟨_, h2⟩ | ⟨n, _⟩
      · have : i = j := by omega
        subst this
        exact .inl hx
      · exact absurd rfl n
    · rcases ly with ⟨h, _⟩ | ⟨_, h2⟩
      · exact absurd h.symm n
      · exact absurd (Dom.antisymm (W.reach d hDy.lt) h1 h2) n
  · rcases ly with ⟨rfl, hj⟩ | ⟨n, hdb⟩
    · refine .inr (live_in W hDx hx j (p - j) (by omega) fun z => ?_)
      subst z
      rcases hle with ⟨_, h⟩ | ⟨h, _⟩
      · exact h
      · exact absurd rfl h
    · have rd := W.reach d hDy.lt
      have rb := W.reach b hbl
      have hed : Dom (sucOf G) e d := by
        rcases hle with ⟨rfl, _⟩ | ⟨_, h⟩
        · exact Dom.refl _
        · exact h
      have neb : e ≠ b := by
        rintro rfl
        exact n (Dom.antisymm rb hdb hed)
      obtain ⟨D, hD, hj⟩ : ∃ D, G[d]? = some D ∧ j ≤ D.ins.length := by
        obtain ⟨D, hD, h⟩ := hDy
        refine ⟨D, hD, ?_⟩
        rcases h with ⟨rfl, _⟩ | ⟨i, us, rfl, hi⟩
        · exact Nat.zero_le _
        · exact (List.getElem?_eq_some_iff.mp hi).1
      have h0 : LiveAt G b 0 x := live_in W hDx hx 0 p (Nat.zero_add _) fun z => absurd z neb
      have hend := live_path W hD hDx hed b rb hbl (Ne.symm n) hdb h0
      refine .inr (live_in W hDx hend j (D.ins.length - j) (by omega) fun z => ?_)
      subst z
      rcases hle with ⟨_, h⟩ | ⟨h, _⟩
      · exact h
      · exact absurd rfl h
theorem le_total (W : WF G) {b p : Nat} {x y : α} {e i d j : Nat} (hx : InSet G b p x) (hy : InSet G b p y) (hDx : DefPt G x e i) (hDy : DefPt G y d j) : Le G e i d j ∨ Le G d j e i := by
  have lx := inset_le W hx hDx
  have ly := inset_le W hy hDy
  obtain ⟨B, hB⟩ : ∃ B, G[b]? = some B := by
    rcases hx with ⟨B, hB, _⟩ | h
    · exact ⟨B, hB⟩
    · obtain ⟨B, hB, _⟩ := live_lt h
      exact ⟨B, hB⟩
  have rb := W.reach b (List.getElem?_eq_some_iff.mp hB).1
  have dx : Dom (sucOf G) e b := by
    rcases lx with ⟨rfl, _⟩ | ⟨_, h⟩
    · exact Dom.refl _
    · exact h
  have dy : Dom (sucOf G) d b := by
    rcases ly with ⟨rfl, _⟩ | ⟨_, h⟩
    · exact Dom.refl _
    · exact h
  by_cases ed : e = d
  · subst ed
    rcases Nat.le_total i j with h | h
    · exact .inl (.inl ⟨rfl, h⟩)
    · exact .inr (.inl ⟨rfl, h⟩)
  · rcases Dom.chain rb dx dy with h | h
    · exact .inl (.inr ⟨ed, h⟩)
    · exact .inr (.inr ⟨Ne.symm ed, h⟩)
end
end SF
end

section
set_option linter.all false
/-! The plain law, part 2: dominators in lists, the immediate one. -/
namespace SF
open Classical
section
variable {s1 s2 suc : Nat → List Nat}
theorem RA.congr {p : Nat → Prop} (h : ∀ u v, v ∈ s1 u → v ∈ s2 u) {v : Nat} (r : RA s1 p v) : RA s2 p v := by
  induction r with
  | zero h0 => exact .zero h0
  | step _ e n ih => exact .step ih (h _ _ e) n
theorem RA.same {p : Nat → Prop} (h : ∀ u v, v ∈ s1 u ↔ v ∈ s2 u) {v : Nat} : RA s1 p v ↔ RA s2 p v := ⟨RA.congr fun u v => (h u v).mp, RA.congr fun u v => (h u v).mpr⟩
theorem nd_sub {α : Type} [DecidableEq α] : ∀ {l m : List α}, l.Nodup → (∀ x ∈ l, x ∈ m) → l.length ≤ m.length
  | [], _, _, _ => Nat.zero_le _
  | a :: l, m, h, s => by
    rw [List.nodup_cons] at h
    have hm := s a (List.mem_cons_self ..)
    have ih := nd_sub (m := m.erase a) h.2 fun x hx => (List.mem_erase_of_ne fun (e : x = a) => h.1 (by rw [← e]; exact hx)).mpr (s x (List.mem_cons_of_mem _ hx))
    rw [List.length_erase_of_mem hm] at ih
    have := List.length_pos_of_mem hm
    rw [List.length_cons]
    omega
/-- the blocks that dominate b -/
noncomputable def domsOf (suc : Nat → List Nat) (n b : Nat) : List Nat := (List.range n).filter fun o => decide (Dom suc o b)
theorem mem_doms {n b o : Nat} : o ∈ domsOf suc n b ↔ o < n ∧ Dom suc o b := by
  unfold domsOf
  rw [List.mem_filter, List.mem_range, decide_eq_true_iff]
theorem filter_len_le {α : Type} {p q : α → Bool} : ∀ {l : List α}, (∀ x ∈ l, p x = true → q x = true) → (l.filter p).length ≤ (l.filter q).length
  | [], _ => Nat.le_refl _
  | a :: l, h => by
    have ih := filter_len_le (p := p) (q := q) (l := l) fun x hx => h x (List.mem_cons_of_mem _ hx)
    rw [List.filter_cons, List.filter_cons]
    by_cases hp : p a = true
    · rw [if_pos hp, if_pos (h a (List.mem_cons_self ..) hp)]
      simpa using ih
    · rw [if_neg hp]
      split
      · rw [List.length_cons]; omega
      · exact ih
theorem filter_len_eq {α : Type} {p q : α → Bool} : ∀ {l : List α}, (∀ x ∈ l, p x = true → q x = true) → (l.filter q).length ≤ (l.filter p).length → ∀ x ∈ l, q x = true → p x = true
  | [], _, _, x, hx, _ => by cases hx
  | a :: l, h, e, x, hx, hq => by
    have hl : ∀ x ∈ l, p x = true → q x = true := fun x hx => h x (List.mem_cons_of_mem _ hx)
    have le := filter_len_le hl
    rw [List.filter_cons, List.filter_cons] at e
    by_cases hp : p a = true
    · rw [if_pos hp, if_pos (h a (List.mem_cons_self ..) hp)] at e
      rcases List.mem_cons.mp hx with z | z
      · rw [z]; exact hp
      · exact filter_len_eq hl (by simpa using e) x z hq
    · rw [if_neg hp] at e
      by_cases hqa : q a = true
      · rw [if_pos hqa, List.length_cons] at e
        omega
      · rw [if_neg hqa] at e
        rcases List.mem_cons.mp hx with z | z
        · rw [z] at hq
          exact absurd hq hqa
        · exact filter_len_eq hl e x z hq
/-- f tells of each block but 0 its immediate dominator -/
def Imm (suc : Nat → List Nat) (n : Nat) (f : Nat → Nat) : Prop := ∀ b, 0 < b → b < n → f b < n ∧ Dom suc (f b) b ∧ f b ≠ b ∧ ∀ d, d < n → Dom suc d b → d ≠ b → Dom suc d (f b)
noncomputable def others (suc : Nat → List Nat) (n b : Nat) : List Nat := (domsOf suc n b).filter fun o => decide (o ≠ b)
theorem mem_others {n b o : Nat} : o ∈ others suc n b ↔ o < n ∧ Dom suc o b ∧ o ≠ b := by
  unfold others
  rw [List.mem_filter, mem_doms, decide_eq_true_iff, and_assoc]
theorem others_eq (n b : Nat) : others suc n b = (List.range n).filter fun o => decide (Dom suc o b ∧ o ≠ b) := by
  unfold others domsOf
  rw [List.filter_filter]
  congr 1
  funext o
  by_cases h1 : Dom suc o b <;> by_cases h2 : o = b <;> simp [h1, h2]
theorem exists_max {α : Type} (f : α → Nat) : ∀ (l : List α), l ≠ [] → ∃ a ∈ l, ∀ b ∈ l, f b ≤ f a
  | [], h => absurd rfl h
  | [a], _ => ⟨a, List.mem_singleton.mpr rfl, fun b hb => by rw [List.mem_singleton.mp hb]; exact Nat.le_refl _⟩
  | a :: c :: l, _ => by
    obtain ⟨m, hm, h⟩ := exists_max f (c :: l) (by simp)
    by_cases q : f m ≤ f a
    · refine ⟨a, List.mem_cons_self .., fun b hb => ?_⟩
      rcases List.mem_cons.mp hb with z | z
      · rw [z]; exact Nat.le_refl _
      · exact Nat.le_trans (h b z) q
    · refine ⟨m, List.mem_cons_of_mem _ hm, fun b hb => ?_⟩
      rcases List.mem_cons.mp hb with z | z
      · rw [z]; omega
      · exact h b z
variable {n : Nat} (hR : ∀ b, b < n → Reach suc b)
theorem doms_sub {b o : Nat} (hb : Reach suc b) (h1 : Dom suc o b) (h2 : o ≠ b) {x : Nat} (hx : Dom suc x o) : Dom suc x b ∧ x ≠ b := ⟨hx.trans h1, fun e => h2 (Dom.antisymm hb h1 (e ▸ hx))⟩
include hR in
theorem imm_ok {b o : Nat} (hb : b < n) (ho : o ∈ others suc n b) (hl : (domsOf suc n o).length = (others suc n b).length) : ∀ d, d < n → Dom suc d b → d ≠ b → Dom suc d o := by
  intro d hd h1 h2
  obtain ⟨o1, o2, o3⟩ := mem_others.mp ho
  rw [others_eq] at hl
  unfold domsOf at hl
  have := filter_len_eq (l := List.range n) (p := fun x => decide (Dom suc x o)) (q := fun x => decide (Dom suc x b ∧ x ≠ b)) (fun x _ h => by
    have := doms_sub (hR b hb) o2 o3 (of_decide_eq_true h)
    exact decide_eq_true this) (Nat.le_of_eq hl.symm) d (List.mem_range.mpr hd) (decide_eq_true ⟨h1, h2⟩)
  exact of_decide_eq_true this
include hR in
theorem imm_ex {b : Nat} (h0 : 0 < b) (hb : b < n) : ∃ o ∈ others suc n b, (domsOf suc n o).length = (others suc n b).length := by
  have hz : 0 ∈ others suc n b := mem_others.mpr ⟨by omega, Dom.zero b, by omega⟩
  obtain ⟨o, ho, hm⟩ := exists_max (fun o => (domsOf suc n o).length) (others suc n b) (fun z => by rw [z] at hz; cases hz)
  obtain ⟨o1, o2, o3⟩ := mem_others.mp ho
  refine ⟨o, ho, ?_⟩
  have hall : ∀ d, d < n → Dom suc d b ∧ d ≠ b → Dom suc d o := by
    intro d hd ⟨h1, h2⟩
    rcases Dom.chain (hR b hb) h1 o2 with h | h
    · exact h
    · have hmd := hm d (mem_others.mpr ⟨hd, h1, h2⟩)
      have := filter_len_eq (l := List.range n) (p := fun x => decide (Dom suc x o)) (q := fun x => decide (Dom suc x d)) (fun x _ q => decide_eq_true ((of_decide_eq_true q).trans h)) hmd d (List.mem_range.mpr hd) (decide_eq_true (Dom.refl d))
      exact of_decide_eq_true this
  rw [others_eq]
  unfold domsOf
  congr 1
  refine List.filter_congr fun d hd => ?_
  have hd := List.mem_range.mp hd
  by_cases q : Dom suc d o
  · rw [decide_eq_true q, decide_eq_true (doms_sub (hR b hb) o2 o3 q)]
  · rw [decide_eq_false q, decide_eq_false fun z => q (hall d hd z)]
end
end SF
end

section
set_option linter.all false
/-! The plain law, part 3: the tree order. -/
namespace SF
open Classical
section
variable {suc : Nat → List Nat} {n : Nat} {f : Nat → Nat}
structure TSt (suc : Nat → List Nat) (n : Nat) (f : Nat → Nat) (fd td : List Nat) : Prop where
  nd : (fd ++ td).Nodup
  lt : ∀ b ∈ fd ++ td, b < n
  z : 0 ∈ fd ++ td
  par : ∀ b ∈ fd ++ td, b ≠ 0 → f b ∈ fd
  ord : ∀ pre b post, fd = pre ++ b :: post → b ≠ 0 → f b ∈ pre
  cl : ∀ u ∈ fd, ∀ c, 0 < c → c < n → f c = u → c ∈ fd ++ td
def kids (n : Nat) (f : Nat → Nat) (x : Nat) : List Nat := (List.range n).filter fun c => decide (0 < c ∧ f c = x)
theorem mem_kids {x c : Nat} : c ∈ kids n f x ↔ c < n ∧ 0 < c ∧ f c = x := by
  unfold kids
  rw [List.mem_filter, List.mem_range, decide_eq_true_iff]
theorem TSt.init (h : 0 < n) : TSt suc n f [] [0] where
  nd := by simp
  lt := fun b hb => by rw [List.mem_singleton.mp hb]; exact h
  z := List.mem_singleton.mpr rfl
  par := fun b hb h0 => absurd (List.mem_singleton.mp hb) h0
  ord := fun pre b post e => by cases pre <;> cases e
  cl := fun u hu => by cases hu
theorem TSt.step {fd td : List Nat} {x : Nat} (T : TSt suc n f fd (x :: td)) : TSt suc n f (fd ++ [x]) (kids n f x ++ td) := by
  have nd := T.nd
  rw [List.nodup_append] at nd
  obtain ⟨n1, n2, n3⟩ := nd
  rw [List.nodup_cons] at n2
  have xf : x ∉ fd := fun h => n3 x h x (List.mem_cons_self ..) rfl
  have kn : ∀ c ∈ kids n f x, c ∉ fd ++ x :: td := fun c hc h => by
    obtain ⟨h1, h2, h3⟩ := mem_kids.mp hc
    exact xf (h3 ▸ T.par c h (by omega))
  have mem : ∀ b, b ∈ fd ++ [x] ++ (kids n f x ++ td) ↔ b ∈ fd ++ x :: td ∨ b ∈ kids n f x := fun b => by
    simp only [List.mem_append, List.mem_cons, List.not_mem_nil, or_false]
    constructor
    · rintro ((h | h) | (h | h))
      · exact .inl (.inl h)
      · exact .inl (.inr (.inl h))
      · exact .inr h
      · exact .inl (.inr (.inr h))
    · rintro ((h | h | h) | h)
      · exact .inl (.inl h)
      · exact .inl (.inr h)
      · exact .inr (.inr h)
      · exact .inr (.inl h)
  refine ⟨?_, fun b hb => ?_, ?_, fun b hb h0 => ?_, fun pre b post e h0 => ?_, fun u hu c c0 cn e => ?_⟩
  · rw [List.nodup_append, List.nodup_append, List.nodup_append]
    refine ⟨⟨n1, by simp, fun a ha b hb e => xf (by rw [← List.mem_singleton.mp hb, ← e]; exact ha)⟩, ⟨List.Pairwise.filter _ List.nodup_range, n2.2, fun a ha b hb e => kn a ha (List.mem_append_right _ (List.mem_cons_of_mem _ (by rw [e]; exact hb)))⟩, fun a ha b hb e => ?_⟩
    rcases List.mem_append.mp hb with h | h
    · refine kn b h ?_
      rw [← e]
      rcases List.mem_append.mp ha with q | q
      · exact List.mem_append_left _ q
      · rw [List.mem_singleton.mp q]
        exact List.mem_append_right _ (List.mem_cons_self ..)
    · rcases List.mem_append.mp ha with q | q
      · exact n3 a q b (List.mem_cons_of_mem _ h) e
      · rw [List.mem_singleton.mp q] at e
        exact n2.1 (by rw [e]; exact h)
  · rcases (mem b).mp hb with h | h
    · exact T.lt b h
    · exact (mem_kids.mp h).1
  · exact (mem 0).mpr (.inl T.z)
  · rcases (mem b).mp hb with h | h
    · exact List.mem_append_left _ (T.par b h h0)
    · rw [(mem_kids.mp h).2.2]
      exact List.mem_append_right _ (List.mem_singleton.mpr rfl)
  · by_cases hp : post = []
    · subst hp
      have e := List.append_inj_left' e rfl
      have e2 : x = b := by
        have := List.append_inj_right' (s₁ := fd) (t₁ := [x]) (s₂ := pre) (t₂ := [b]) (by assumption) rfl
        simpa using this
      rw [← e]
      refine T.par b ?_ h0
      rw [← e2]
      exact List.mem_append_right _ (List.mem_cons_self ..)
    · have e3 := List.dropLast_concat_getLast hp
      rw [← e3, ← List.cons_append, ← List.append_assoc] at e
      exact T.ord pre b _ (List.append_inj_left' e rfl) h0
  · refine (mem c).mpr ?_
    rcases List.mem_append.mp hu with h | h
    · exact .inl (T.cl u h c c0 cn e)
    · rw [List.mem_singleton.mp h] at e
      exact .inr (mem_kids.mpr ⟨cn, c0, e⟩)
/-- every block once, behind the blocks that dominate it -/
structure TOrd (suc : Nat → List Nat) (n : Nat) (ns : List Nat) : Prop where
  nd : ns.Nodup
  all : ∀ b, b ∈ ns ↔ b < n
  ord : ∀ pre b post, ns = pre ++ b :: post → ∀ d, d < n → Dom suc d b → d ≠ b → d ∈ pre
theorem TSt.done {ns : List Nat} (T : TSt suc n f ns []) (I : Imm suc n f) (hR : ∀ b, b < n → Reach suc b) : TOrd suc n ns := by
  have nd := T.nd
  have lt := T.lt
  have z := T.z
  have cl := T.cl
  rw [List.append_nil] at nd lt z cl
  have h0 : ∀ d, Dom suc d 0 → d = 0 := fun d h => Classical.byContradiction fun e => h (.zero fun z => e z.symm)
  have all : ∀ m b, (domsOf suc n b).length ≤ m → b < n → b ∈ ns := by
    intro m
    induction m with
    | zero =>
      intro b h hb
      have : b ∈ domsOf suc n b := mem_doms.mpr ⟨hb, Dom.refl b⟩
      have := List.length_pos_of_mem this
      omega
    | succ m ih =>
      intro b h hb
      by_cases b0 : b = 0
      · rw [b0]; exact z
      · obtain ⟨i1, i2, i3, i4⟩ := I b (by omega) hb
        refine cl (f b) (ih (f b) ?_ i1) b (by omega) hb rfl
        have le : (domsOf suc n (f b)).length ≤ (others suc n b).length := by
          rw [others_eq]
          exact filter_len_le fun x _ q => decide_eq_true (doms_sub (hR b hb) i2 i3 (of_decide_eq_true q))
        have : (others suc n b).length < (domsOf suc n b).length := by
          unfold others
          have hm : b ∈ domsOf suc n b := mem_doms.mpr ⟨hb, Dom.refl b⟩
          refine Classical.byContradiction fun q => ?_
          have := filter_len_eq (l := domsOf suc n b) (p := fun o => decide (o ≠ b)) (q := fun _ => true) (fun _ _ _ => rfl) (by rw [List.filter_eq_self.mpr fun _ _ => rfl]; omega) b hm rfl
          exact of_decide_eq_true this rfl
        omega
  have ord : ∀ m pre b post, pre.length ≤ m → ns = pre ++ b :: post → ∀ d, d < n → Dom suc d b → d ≠ b → d ∈ pre := by
    intro m
    induction m with
    | zero =>
      intro pre b post hl e d hd h1 h2
      have : pre = [] := List.length_eq_zero_iff.mp (by omega)
      subst this
      have hb : b < n := lt b (by rw [e]; exact List.mem_cons_self ..)
      by_cases b0 : b = 0
      · rw [b0] at h1 h2
        exact absurd (h0 d h1) h2
      · exact absurd (T.ord [] b post e b0) (by simp)
    | succ m ih =>
      intro pre b post hl e d hd h1 h2
      have hb : b < n := lt b (by rw [e]; exact List.mem_append_right _ (List.mem_cons_self ..))
      by_cases b0 : b = 0
      · rw [b0] at h1 h2
        exact absurd (h0 d h1) h2
      · have hf := T.ord pre b post e b0
        obtain ⟨i1, i2, i3, i4⟩ := I b (by omega) hb
        have hdf := i4 d hd h1 h2
        by_cases q : d = f b
        · rw [q]; exact hf
        · obtain ⟨p1, p2, hpp⟩ := List.append_of_mem hf
          have := ih p1 (f b) (p2 ++ b :: post) (by rw [hpp, List.length_append, List.length_cons] at hl; omega) (by rw [e, hpp]; simp) d hd hdf q
          rw [hpp]
          exact List.mem_append_left _ this
  exact ⟨nd, fun b => ⟨fun h => lt b h, fun h => all _ b (Nat.le_refl _) h⟩, fun pre b post e => ord _ pre b post (Nat.le_refl _) e⟩
end
end SF
end

section
set_option Elab.async false
set_option linter.all false
set_option maxRecDepth 100000
set_option maxHeartbeats 2000000
/-! Rules of my own over HandS, part 1. -/
namespace Sh
open PySem PySem.Spec PyProof.Rows L2
section
variable {X : Cx}
/-! ### name = {k: v for ..} on one line, the name a local -/
theorem swd_true {kx vx : Expr} {gs : List Comprehension} {scope : Scope} {pos py : Pos} {y : Str} {l : Nat} {env : Env} (hk : env.scope.kind = .function) (hy : env.scope.names.lookup y = some .local) (hl : (py.line == pos.line) = true)
    (ha : (scope.names.any fun (n, k) => n == y && (k == .local || k == .cell)) = false) : swapsWith (.DictComp kx vx gs scope pos) (some (.Name y py)) l env = pure true := by
  have ky : env.kindOf y = some .local := hy
  have hb : env.blockKind = .function := by unfold Env.blockKind; rw [hk]; rfl
  unfold swapsWith
  simp only [hb, ky, ha, Expr.pos, hl]
  rfl
theorem ps_setDc {i : Nat} {y : Str} {py : Pos} {kx vx tg iter : Expr} {ifs : List Expr} {scope : Scope} {own : List (Str × Nat)} {pos spos : Pos} {wi : TI} {g : TG} {tt : TT} {tk tv : TE} (hc : X.calm = true) (hN : X.N.Nodup) (hy : X.N[i]? = some y) (hyl : X.env.scope.names.lookup y = some .local)
    (hsw : swapsWith (.DictComp kx vx [⟨tg, iter, ifs, 0⟩] scope pos) (some (.Name y py)) spos.line X.env = pure true) (hi : PI X tg iter wi) (ok : BlkOk X.N X.env.scope scope own)
    (hg : ∀ (s : Shared) (H : Hp) (C : Addr) (cl : List (Str × Addr)) (fp : List Addr), PG (X.blk s H scope (compEnvC scope cl C X.env) fp) tg g)
    (ht : ∀ (s : Shared) (H : Hp) (C : Addr) (cl : List (Str × Addr)) (fp : List Addr), PTs (X.blk s H scope (compEnvC scope cl C X.env) fp) ifs tt)
    (hk : ∀ (s : Shared) (H : Hp) (C : Addr) (cl : List (Str × Addr)) (fp : List Addr), PE (X.blk s H scope (compEnvC scope cl C X.env) fp) kx tk)
    (he : ∀ (s : Shared) (H : Hp) (C : Addr) (cl : List (Str × Addr)) (fp : List Addr), PE (X.blk s H scope (compEnvC scope cl C X.env) fp) vx tv) (hs : ∀ x, foldedSetIterable iter X.env x = pure x := by intro _; rfl) :
    PS X (.Assign [.Name y py] (.DictComp kx vx [⟨tg, iter, ifs, 0⟩] scope pos) spos) (tAsg (tDc wi g tt tk tv (own.map (·.2))) (gName i)) := by
  refine ⟨fun pins s σ H D I h => ?_⟩
  rw [exec_Assign_Name_used _ _ _ _ hsw]
  refine wpAny_bind (wpAny_standAt (wpAny_bind ?_))
  have h : tDc wi g tt tk tv (own.map (·.2)) σ H (fun x H1 => gName i x σ H1 D.nx) := h
  refine wpAny_bind (thn (dc_core (use := some (assign (.Name y py) X.env)) (Qf := fun _ s' => SP X pins D .next s') hc hN I hi ok hg ht hk he hs h fun L C s' m H' I' q hn f => ?_) fun _ s' hq => wpAny_pure (wpAny_pure hq))
  show wpAny _ _ (assign (.Name y py) X.env (.ref L)) _ _ _
  refine wpAny_assign_Name (store_ok2 (v := V.ref L) I' hN hy (.inl hyl) rfl (fun s2 I2 ⟨a, sb, ha⟩ => ?_) (.inr hyl))
  obtain ⟨f0, f1, f2, f3, f4, f5⟩ := f
  have hne : C ≠ a := by
    rcases ha with z | z
    · rw [z]; exact f1
    · exact fun e => f4 y a z e.symm
  refine ⟨m, hn.sameBut sb hne, fun h3 sb3 => ?_⟩
  exact ⟨_, H', I2.turned (t' := s2.toks) (fun b o hb e => (sb3.2 b hb).trans e) f0 f1 f3 f4 f5, q⟩

/-! ### xs.extend(t), t a tuple -/
theorem extend_tup (l : Addr) (items : Array Value) (n : Nat) (b : Addr) (items2 : Array Value) (n2 : Nat) (dct : Option Addr) (sl : Array (Option Value)) (hs0 : ¬(!items.isEmpty && Builtin.List.listTooLong (items.size + items2.size)) = true)
    (hs1 : items.size ≤ sizeLine) (hs2 : items.size + items2.size ≤ sizeLine + 1) :
    Meets (Builtin.«list.extend» ⟨[.ref l, .ref b], []⟩) (fun _ R s => s.heap.get? l = some { cls := .type "list", dict := none, data := .seq items n, slots := #[] } ∧
      s.heap.get? b = some { cls := .type "tuple", dict := dct, data := .seq items2 n2, slots := sl } ∧ R (.ok (.ret Value.none)) { s with heap := s.heap.update l (Obj.mapSeq fun x => x ++ items2), toks := s.toks }) :=
  .of_wp fun prog w A R s h => by
    obtain ⟨hp, g, d, tk, os⟩ := s
    obtain ⟨hl, hb, h⟩ := h
    have f1 := AutoSeq1.idx_int
    have f2 := AutoSeq1.sub_tuple_tuple
    have f3 := AutoSeq1.sub_list_list
    have f4 := AutoSeq1.sub_tuple_list
    have f5 := AutoSeq1.sub_list_tuple
    have hz' : (items ++ items2).size ≤ sizeLine + 1 := by rw [Array.size_append]; exact hs2
    wp_walk using (wpAny_updateSeq hl rfl (hz := hs1) (_hz' := hz')), AutoSeq1.wpAny_loadPart' hl, AutoSeq1.wpAny_loadPart' hb
    exact ⟨_, rfl, h⟩
def rExtT (K : PySem.W.Frag) : V → List V → Hp → VK → Prop := fun x vs H Q => ∃ (l b : Addr) (xs zs : List V), x = .ref l ∧ vs = [.ref b] ∧ H l = some (.lst xs) ∧ SqT K H b zs ∧ xs.length + zs.length ≤ sizeLine ∧ Q .non (upd H l (.lst (xs ++ zs)))
theorem mt_extT : MtR X "list.extend" (rExtT X.K) := by
  intro pins s σ H x vs v us Q I rx rv h
  obtain ⟨l, b, xs, zs, rfl, rfl, hH, hB, hz, q⟩ := h
  cases rx
  obtain ⟨u, rfl, ru⟩ := rv.one
  cases ru
  obtain ⟨z, its, n, r, hl, e⟩ := I.lstM hH
  obtain ⟨its2, r2, ⟨ob, ho, hcl, n2, hdt⟩, _⟩ := I.tuple hB
  obtain ⟨oc, od, odt, osl⟩ := ob
  have hcl : oc = .type "tuple" := hcl
  have hdt : odt = .seq its2.toArray n2 := hdt
  subst hcl hdt
  have l2 := r2.length
  have hsz : its.toArray.size + its2.toArray.size ≤ sizeLine := by rw [List.size_toArray, List.size_toArray]; omega
  have hlong : ¬ (!its.toArray.isEmpty && Builtin.List.listTooLong (its.toArray.size + its2.toArray.size)) = true := by
    rw [notLongL hsz, Bool.and_false]
    exact Bool.false_ne_true
  refine call_meets PySem.F.slot_list_extend ⟨_, e, rfl⟩ PySem.F.entry_list_extend (PySem.F.args_list_extend_2 _ _)
    (extend_tup l its.toArray n b its2.toArray n2 od osl hlong (by rw [List.size_toArray]; omega) (by omega)) ⟨e, ho, ?_⟩
  refine ⟨.non, _, I.lset (its' := its ++ its2) hH e (by simp) (r.append r2) ?_, rfl, q⟩
  rw [List.length_append]
  omega

/-! ### d.update(e), dicts of keys that are ints and texts -/
def rDUpd : V → List V → Hp → VK → Prop := fun x vs H Q => ∃ (a b : Addr) (ks ls : List (Key × V)), x = .ref a ∧ vs = [.ref b] ∧ a ≠ b ∧ H a = some (.dK ks) ∧ H b = some (.dK ls) ∧ ks.length + ls.length ≤ sizeLine ∧ Q .non (upd H a (.dK (mergeK ks ls)))
theorem args_upd (a b : Value) : argsOk "dict.update" ⟨[a, b], []⟩ := by
  first | exact PySem.F.args_dict_update_2 _ _ | kernel_rfl
theorem mt_dupd : MtR X "dict.update" rDUpd := by
  intro pins s σ H x vs v us Q I rx rv h
  obtain ⟨a, b, ks, ls, rfl, rfl, nab, ha, hb, hz, q⟩ := h
  cases rx
  obtain ⟨u, rfl, ru⟩ := rv.one
  cases ru
  obtain ⟨z, hd, va, ra, da⟩ := dk_of I.hok ha
  obtain ⟨z2, hd2, vb, rb, db⟩ := dk_of I.hok hb
  have l1 : ks.length = va.length := ra.length
  have l2 : ls.length = vb.length := rb.length
  refine call_meetsIn PySem.F.slot_dict_update da.typeIs PySem.F.entry_dict_update (args_upd _ _) (meets_dict_update (mixKind X.prog X.w) a b nab hd2) ⟨va, vb, da, db, by omega, fun h' da' db' hs => ?_⟩
  have hl : (mergeK ks ls).length ≤ sizeLine := by
    have := length_mergeK ls ks
    omega
  have he : ∃ o, h'.get? a = some o := let ⟨o, _, _, ho, _⟩ := da'; ⟨o, ho⟩
  exact ⟨.non, _, d_write (t' := s.toks) I (by rw [ha]; exact True.intro) hs he (dk_new hl hd (KV.merge rb ra) da'), rfl, q⟩
end
end Sh
end

section
set_option Elab.async false
set_option linter.all false
set_option maxRecDepth 100000
set_option maxHeartbeats 2000000
/-! Rules of my own over HandS, part 2. -/
namespace Sh
open PySem PySem.Spec PyProof.Rows L2
section
variable {X : Cx}
/-! ### xs.remove(text) -/
def eqs (z : Str) (v : Value) : Bool := match v with
  | .str y _ => y == z
  | _ => false
theorem str_gives (y z : Str) (t u : Tok) : MeetsSeq.EqGives (.str y t) (.str z u) (y == z) := fun _ _ _ _ _ _ h => wpAny_eqBool_str (by
  have e : decide (y = z) = (y == z) := by
    by_cases q : y = z
    · subst q; simp
    · rw [decide_eq_false q]; exact (beq_eq_false_iff_ne.mpr q).symm
  rw [e]; exact h)
theorem eqs_gives {z : Str} {t : Tok} {ys : List Str} {us : List Value} (r : Vals (ys.map V.str) us) : ∀ v ∈ us, MeetsSeq.EqGives v (.str z t) (eqs z v) := by
  intro v hv
  obtain ⟨i, hi, e⟩ := List.getElem_of_mem hv
  have hl : i < (ys.map V.str).length := by rw [r.length]; exact hi
  obtain ⟨u, hu, ru⟩ := r.get (List.getElem?_eq_getElem hl)
  rw [List.getElem?_eq_getElem hi, e] at hu
  have hu := Option.some.inj hu
  subst hu
  rw [List.getElem_map] at ru
  obtain ⟨t', rfl⟩ := ru
  exact str_gives _ _ _ _
theorem eqs_at {z : Str} {ys : List Str} {us : List Value} (r : Vals (ys.map V.str) us) {j : Nat} (hj : j < us.length) (hy : j < ys.length) : eqs z us[j] = (ys[j] == z) := by
  have hl : j < (ys.map V.str).length := by rw [List.length_map]; exact hy
  obtain ⟨u, hu, ru⟩ := r.get (List.getElem?_eq_getElem hl)
  rw [List.getElem?_eq_getElem hj] at hu
  have hu := Option.some.inj hu
  rw [List.getElem_map] at ru
  obtain ⟨t', e⟩ := ru
  rw [hu, e]
  rfl
theorem erase_mapS : ∀ (l : List Str) (j : Nat), (l.map V.str).eraseIdx j = (l.eraseIdx j).map V.str
  | [], j => by simp
  | a :: r, 0 => by simp
  | a :: r, j + 1 => by simp [erase_mapS r j]
def rRemS : V → List V → Hp → VK → Prop := fun x xs H Q => ∃ (l : Addr) (ys : List Str) (z : Str), x = .ref l ∧ xs = [.str z] ∧ H l = some (.lst (ys.map V.str)) ∧ z ∈ ys ∧ Q .non (upd H l (.lst ((ys.erase z).map V.str)))
theorem erase_at {ys : List Str} {z : Str} (h : z ∈ ys) : ∃ j, ∃ hj : j < ys.length, ys[j] = z ∧ (∀ m (hm : m < ys.length), m < j → ys[m] ≠ z) ∧ ys.erase z = ys.eraseIdx j := by
  induction ys with
  | nil => cases h
  | cons a r ih =>
    by_cases e : a = z
    · subst e
      exact ⟨0, Nat.succ_pos _, rfl, fun m _ q => absurd q (Nat.not_lt_zero _), by simp⟩
    · have h' : z ∈ r := by
        rcases List.mem_cons.mp h with q | q
        · exact absurd q.symm e
        · exact q
      obtain ⟨j, hj, e1, e2, e3⟩ := ih h'
      refine ⟨j + 1, Nat.succ_lt_succ hj, e1, fun m hm hmj => ?_, ?_⟩
      · cases m with
        | zero => exact e
        | succ m => exact e2 m (Nat.lt_of_succ_lt_succ hm) (Nat.lt_of_succ_lt_succ hmj)
      · rw [List.erase_cons_tail (by simpa using e), e3]
        rfl
theorem mt_remS : MtR X "list.remove" rRemS := by
  intro pins s σ H x xs v us Q I rx rxs h
  obtain ⟨l, ys, z, rfl, rfl, hH, hz, q⟩ := h
  cases rx
  obtain ⟨u, rfl, ru⟩ := rxs.one
  obtain ⟨t, rfl⟩ := ru
  obtain ⟨hzz, its, n, r, hl, e⟩ := I.lstM hH
  rw [List.length_map] at hl hzz
  obtain ⟨j, hj, e1, e2, e3⟩ := erase_at hz
  have hjl : j < its.length := by omega
  refine call_meets PySem.F.slot_list_remove ⟨_, e, rfl⟩ PySem.F.entry_list_remove (PySem.F.args_list_remove_2 _ _)
    (MeetsSeq.list_remove l its.toArray n (.str z t) (eqs z) (fun y hy => eqs_gives r y (by simpa using hy)) j (by rw [List.size_toArray]; exact hjl) ?_ ?_ (by rw [List.size_toArray]; omega)) ⟨e, ?_⟩
  · have q1 := eqs_at (z := z) r hjl hj
    rw [e1, beq_self_eq_true] at q1
    simpa using q1
  · intro m hm hmj
    have hm1 : m < its.length := by rw [List.size_toArray] at hm; exact hm
    have q1 := eqs_at (z := z) r hm1 (by omega)
    rw [beq_eq_false_iff_ne.mpr (e2 m (by omega) hmj)] at q1
    simpa using q1
  · have rr := r.eraseIdx j
    rw [erase_mapS] at rr
    rw [e3] at q
    refine ⟨.non, _, I.lset (its' := its.eraseIdx j) (t' := s.toks) hH e ?_ rr ?_, rfl, q⟩
    · show its.toArray.eraseIdxIfInBounds j = (its.eraseIdx j).toArray
      rw [List.eraseIdxIfInBounds_toArray]
    · rw [List.length_map]
      have := List.length_eraseIdx_le ys j
      omega

/-! ### d != e, dicts of texts whose values are all True -/
abbrev dkT (ks : List Str) : List (Key × V) := ks.map fun x => (Sum.inr x, V.bl true)
theorem valV_dkT (ks : List Str) (x : Str) : valV (dkT ks) (Sum.inr x) = if x ∈ ks then some (V.bl true) else none := by
  induction ks with
  | nil => rfl
  | cons a r ih =>
    by_cases e : a = x
    · subst e
      rw [if_pos List.mem_cons_self]
      exact valV_pos (p := ((Sum.inr a : Key), V.bl true)) rfl
    · have e' : ¬ (Sum.inr a : Key) = Sum.inr x := fun q => e (Sum.inr.inj q)
      show valV (((Sum.inr a : Key), V.bl true) :: dkT r) (Sum.inr x) = _
      rw [valV_neg (p := ((Sum.inr a : Key), V.bl true)) e', ih]
      by_cases q : x ∈ r
      · rw [if_pos q, if_pos (List.mem_cons_of_mem _ q)]
      · rw [if_neg q, if_neg (fun z => by
          rcases List.mem_cons.mp z with z | z
          · exact e z.symm
          · exact q z)]
theorem hits_dkT {A : Around} {s : Shared} {ls : List Str} {vb : List (Key × Value)} (rb : KV (dkT ls) vb) : ∀ {ks : List Str} {va : List (Key × Value)}, KV (dkT ks) va → PySem.W.KeqHits A s vb va (ks.all fun x => decide (x ∈ ls))
  | [], _, .nil => .nil
  | x :: ks, _, .cons (b := q) h t => by
    have ih := hits_dkT (A := A) (s := s) rb t
    obtain ⟨k, v⟩ := q
    obtain ⟨h1, h2⟩ := h
    have h1 : (Sum.inr x : Key) = k := h1
    subst h1
    have rr : RelO (valV (dkT ls) (Sum.inr x)) (valueAt vb (Sum.inr x)) := rb.val _
    rw [valV_dkT] at rr
    rw [List.all_cons]
    by_cases e : x ∈ ls
    · rw [if_pos e] at rr
      obtain ⟨y, hy, ry⟩ := rr.some_of
      rw [decide_eq_true e]
      exact .hit hy (eqAt_same h2 ry rfl) ih
    · rw [if_neg e] at rr
      rw [decide_eq_false e, Bool.false_and]
      refine .miss ?_
      cases q : valueAt vb (Sum.inr x) with
      | none => rfl
      | some y => rw [q] at rr; exact rr.elim
def rNeT : R2 := fun x y H Q => ∃ (a b : Addr) (ks ls : List Str), x = .ref a ∧ y = .ref b ∧ H a = some (.dK (dkT ks)) ∧ H b = some (.dK (dkT ls)) ∧ Q (.bl (!(ks.length == ls.length && ks.all fun x => decide (x ∈ ls)))) H
theorem op_neT (hu : X.A.units < cLine) : OpR X (compareOp .NotEq) rNeT := by
  intro pins s σ H x y v u Q I rx ry h
  obtain ⟨a, b, ks, ls, rfl, rfl, ea, eb, q⟩ := h
  obtain rfl : v = Value.ref a := rx
  obtain rfl : u = Value.ref b := ry
  obtain ⟨_, ya, va, ra, da⟩ := (show ObjOk X.prog X.w H s.heap a (.dK (dkT ks)) from I.hok a _ ea)
  obtain ⟨_, yb, vb, rb, db⟩ := (show ObjOk X.prog X.w H s.heap b (.dK (dkT ls)) from I.hok b _ eb)
  have h1 : ks.length = va.length := by rw [← ra.length, List.length_map]
  have h2 : ls.length = vb.length := by rw [← rb.length, List.length_map]
  exact PySem.W.keq_ne (knd := mixKind X.prog X.w) (r := ks.all fun x => decide (x ∈ ls)) ya yb da db hu (fun _ => hits_dkT rb ra) (fin_bl I q (by rw [h1, h2]))

/-! ### tuple(xs), the new tuple known to the object; dict(of such a tuple of pairs) -/
def rTupF (K : PySem.W.Frag) : List V → Hp → VK → Prop := fun xs H Q => ∃ (p : Addr) (ys : List V), xs = [.ref p] ∧ SqL K H p ys ∧ ∀ (l : Addr) (o : Obj), H l = none → o.cls = .type "tuple" → o.dict = none → Q (.ref l) (upd H l (.frz o (.tup ys)))
theorem call_tupF : CallR X (.type "tuple") (rTupF X.K) := by
  intro pins s σ H xs us Q I r h
  obtain ⟨p, ys, rfl, hq, q⟩ := h
  obtain ⟨u, rfl, rx⟩ := vals1 r
  cases rx
  obtain ⟨its, r', pl, hz⟩ := I.list hq
  have hlen := r'.length
  refine call_tuple_list pl.isList (fun h' kp => ?_) (by simp only [List.size_toArray] <;> omega)
  have I1 : Inv X pins σ H { s with heap := h' } := I.kept (t' := s.toks) kp
  have I2 : Inv X pins σ (upd H h'.objs.size (.frz { cls := .type "tuple", data := .seq its.toArray } (.tup ys))) { s with heap := h'.push { cls := .type "tuple", data := .seq its.toArray } } :=
    I1.laid (t' := s.toks) (fun b o e => Heap.get?_push_of_some _ e) (Nat.le_refl _) (show ObjOk X.prog X.w _ _ _ (.frz _ (.tup ys)) from ⟨Heap.get?_push_size _ rfl, hz, its, r', IsTup.new _ _⟩)
  exact ⟨.ref h'.objs.size, _, I2, rfl, q _ _ (I1.hok.fresh (Nat.le_refl _)) rfl rfl⟩
def rDictT (K : PySem.W.Frag) : List V → Hp → VK → Prop := fun xs H Q => ∃ (a : Addr) (o : Obj) (ps : List Addr) (kvs : List (Key × V)), xs = [.ref a] ∧ H a = some (.frz o (.tup (ps.map V.ref))) ∧ o.cls = .type "tuple" ∧ o.dict = none ∧ Paired (fun p kv => SqT K H p [kV kv.1, kv.2]) ps kvs ∧
  ∀ p, H p = none → Q (.ref p) (upd H p (.dK (mergeK [] kvs)))
theorem call_dictT (hcalm : X.calm = true) : CallR X (.type "dict") (rDictT X.K) := by
  intro pins s σ H xs us Q I r q
  obtain ⟨a, o, ps, kvs, rfl, ha, hc, hd, hp, q⟩ := q
  obtain ⟨u, rfl, rx⟩ := vals1 r
  cases rx
  obtain ⟨ho, hz, its, rv, o2, ho2, hc2, n, hdat⟩ := (show ObjOk X.prog X.w H s.heap a (.frz o (.tup (ps.map V.ref))) from I.hok a _ ha)
  rw [ho] at ho2
  cases ho2
  have ei := refs_at rv
  subst ei
  rw [List.length_map] at hz
  -- the pairs as values
  have key : ∀ {ps : List Addr} {kvs : List (Key × V)}, Paired (fun p kv => SqT X.K H p [kV kv.1, kv.2]) ps kvs →
      ∃ (prs : List (Key × Value)) (vps : List (Value × Value)), KV kvs prs ∧ prs.length = ps.length ∧ vps.length = ps.length ∧ (∀ (j : Nat) (k v : Value), vps[j]? = some (k, v) → ∃ b kk, ps[j]? = some b ∧ IsTup s.heap b #[k, v] ∧ prs[j]? = some (kk, v) ∧ (mixKind X.prog X.w).is kk k = true) := by
    intro ps kvs h
    induction h with
    | nil => exact ⟨[], [], .nil, rfl, rfl, fun j k v e => by simp at e⟩
    | @cons p kv _ _ h t ih =>
      obtain ⟨prs, vps, r, h1, h2, h3⟩ := ih
      obtain ⟨its, rv, ht, _⟩ := I.tuple h
      obtain ⟨u, y, ei, ru, ry⟩ := vals2 rv
      subst ei
      refine ⟨(kv.1, y) :: prs, (u, y) :: vps, .cons ⟨rfl, ry⟩ r, by simp [h1], by simp [h2], fun j k v e => ?_⟩
      cases j with
      | zero =>
        simp at e
        obtain ⟨rfl, rfl⟩ := e
        exact ⟨p, kv.1, rfl, ht, rfl, kV_is (P := X.prog) (w := X.w) ru⟩
      | succ j =>
        obtain ⟨b, kk, e1, e2, e3, e4⟩ := h3 j k v (by simpa using e)
        exact ⟨b, kk, by simpa using e1, e2, by simpa using e3, e4⟩
  obtain ⟨prs, vps, rel, l1, l2, hpr⟩ := key hp
  have ok : PlainSeq "tuple" s.heap a (ps.map Value.ref).toArray ∧ PairItems s.heap (ps.map Value.ref).toArray (fun j => ps.getD j 0) vps := by
    refine ⟨⟨o, n, ho, hc, hd, hdat⟩, by simp [l2], fun j k v e => ?_⟩
    obtain ⟨b, kk, e1, e2, _, _⟩ := hpr j k v e
    have e0 : ps.getD j 0 = b := by rw [List.getD_eq_getElem?_getD, e1]; rfl
    show _ ∧ PairAt s.heap (ps.getD j 0) k v
    rw [e0]
    exact ⟨by simp [e1], .inl e2⟩
  refine PySem.call_dict_pairs (knd := mixKind X.prog X.w) (kvs := prs) (PairArg.tuple a (ps.map Value.ref).toArray (fun j => ps.getD j 0) vps) (I.ok.hd hcalm) ok ⟨by omega, fun j k v e => ?_⟩ (by omega) fun h' tk hd' k => ?_
  · obtain ⟨b, kk, _, _, e3, e4⟩ := hpr j k v e
    exact ⟨kk, e3, e4⟩
  · have hm : (s.heap.objs.size == sysModules) = false := beq_eq_false_iff_ne.mpr (Nat.ne_of_gt I.big)
    have hlen : (mergeK [] kvs).length ≤ sizeLine := by
      refine Nat.le_trans (length_mergeK kvs []) ?_
      rw [List.length_nil, Nat.zero_add, rel.length, l1]
      exact hz
    exact ⟨.ref s.heap.objs.size, upd H s.heap.objs.size (.dK (mergeK [] kvs)), I.laid (t' := tk) (fun b o e => k b o (by simp) e) (Nat.le_refl _) (show ObjOk X.prog X.w _ _ _ (.dK (mergeK [] kvs)) from ⟨hlen, hm, merged [] prs, KV.merge rel .nil, hd'⟩), rfl, q _ (I.hok.fresh (Nat.le_refl _))⟩
end
end Sh
end

section
set_option Elab.async false
set_option linter.all false
set_option maxRecDepth 100000
set_option maxHeartbeats 2000000
/-! Rules of my own over HandS, part 3: enumerate(tuple), t[::-1], len(set(texts)). -/
namespace Sh
open PySem PySem.Spec PyProof.Rows L2
/-! ### enumerate(t), t a tuple -/
theorem meets_enumT (l : Addr) (items : Array Value) (n : Nat) (dct : Option Addr) (sl : Array (Option Value)) :
    Meets (Builtin.«enumerate.__new__» ⟨[.type "enumerate", .ref l], []⟩) (fun _ R s => s.heap.get? l = some { cls := .type "tuple", dict := dct, data := .seq items n, slots := sl } ∧
      R (.ok (.ret (.ref (s.heap.push { cls := .type "tuple_iterator", data := .fields #[.ref l, .int 0 0] }).objs.size)))
        { s with heap := (s.heap.push { cls := .type "tuple_iterator", data := .fields #[.ref l, .int 0 0] }).push { cls := .type "enumerate", data := .fields #[.none, .bool false, .ref s.heap.objs.size, rawInt 0, .none, .none] } }) :=
  .of_wp fun prog w A R s h => by
    obtain ⟨hp, g, d, tk, os⟩ := s
    obtain ⟨hl, h⟩ := h
    have hsub := sub_enumerate
    have hT : Heap.IsTuple (Shared.heap ⟨hp, g, d, tk, os⟩) l items := ⟨_, hl, rfl, n, rfl⟩
    wp_walk using AutoSeq1.wpAny_loadPart' hl
    refine wpAny_stack_any fun st => wpAny_pure ?_
    split
    · rename_i c _ _ _ _ _
      cases (c == Value.type "enumerate")
      · wp_walk using AutoSeq1.wpAny_loadPart' hl, wpAny_pyIter_tuple hT
        exact ⟨_, rfl, h⟩
      · wp_walk using AutoSeq1.wpAny_loadPart' hl, wpAny_pyIter_tuple hT
        exact ⟨_, rfl, h⟩
    · wp_walk using AutoSeq1.wpAny_loadPart' hl, wpAny_pyIter_tuple hT
      exact ⟨_, rfl, h⟩
section
variable {prog : Program} {w : World} {A : Around} {E : Value → Shared → Prop} {s : Shared}
theorem call_enumT {l : Addr} {items : Array Value} {Q : Value → Shared → Prop} (hL : s.heap.IsTuple l items)
    (h : ∀ h', IsEnum h' (s.heap.objs.size + 1) s.heap.objs.size 0 .none → h'.IsTupleIter s.heap.objs.size l 0 → h'.objs.size = s.heap.objs.size + 2 →
      (∀ b o, s.heap.get? b = some o → h'.get? b = some o) → Q (.ref (s.heap.objs.size + 1)) { s with heap := h' }) :
    wpAny (model prog w) A (call (.type "enumerate") [.ref l]) Q E s := by
  obtain ⟨⟨c, dct, dt, sl⟩, hl, hc, n, hd⟩ := hL
  have hc : c = .type "tuple" := hc
  have hd : dt = .seq items n := hd
  subst hc hd
  refine callType_new PySem.F.called_enumerate (by decide) (PySem.F.typeCall_enumerate_1 _) (PySem.F.newCall_enumerate_1 _) (fun obj => PySem.F.args_object_init_2 obj _) PySem.F.entry_enumerate_new
    (meets_enumT l items n dct sl) ⟨hl, ?_⟩
  have hz : (s.heap.push { cls := .type "tuple_iterator", data := .fields #[.ref l, .int 0 0] }).objs.size = s.heap.objs.size + 1 := Heap.size_push ..
  rw [hz]
  have he : IsEnum ((s.heap.push { cls := .type "tuple_iterator", data := .fields #[.ref l, .int 0 0] }).push
      { cls := .type "enumerate", data := .fields #[.none, .bool false, .ref s.heap.objs.size, rawInt 0, .none, .none] }) (s.heap.objs.size + 1) s.heap.objs.size 0 .none := by
    show Heap.get? _ _ = _
    rw [← hz]
    exact Heap.get?_push_size _ rfl
  refine ⟨by first | exact he.1 | exact ⟨_, he, rfl⟩, h _ he ⟨_, Heap.get?_push_of_some _ (Heap.get?_push_size _ rfl), rfl, rfl⟩ (by rw [Heap.size_push, hz]) fun b o e => Heap.get?_push_of_some _ (Heap.get?_push_of_some _ e)⟩
end

/-- the tuple at a as it stands at each turn, each item in a new pair -/
def IteT (K : PySem.W.Frag) (a : Addr) : It :=
  ⟨fun i H => ∃ (xs : List V) (x : V), SqT K H a xs ∧ xs[i]? = some x, fun i H v H' => ∃ T x, v = .ref T ∧ H T = none ∧ H' = upd H T (.tup [.int (i : Nat), x]) ∧ ∀ xs, SqT K H a xs → xs[i]? = some x, fun i H => ∃ xs : List V, SqT K H a xs ∧ xs.length ≤ i⟩
theorem turn_enumT {P : Program} {w : World} {K : PySem.W.Frag} {elts : List Expr} {kk : Nat} {tpos : Pos} (a e it : Addr) :
    Turn P w K (.Tuple elts kk tpos) (IteT K a) [e, it] e (fun i h => (∃ old, IsEnum h e it ((i : Nat) : Int) old) ∧ h.IsTupleIter it a i ∧ e ≠ it ∧ e ≠ a ∧ it ≠ a) where
  mem := by simp
  obj := fun i h st b hb => by
    obtain ⟨⟨old, he⟩, ⟨o, ho, hc, hd⟩, _⟩ := st
    have e' : b = e ∨ b = it := by simpa using hb
    rcases e' with z | z
    · rw [z]; exact ⟨_, he, fun v q => nomatch q⟩
    · rw [z]; exact ⟨o, ho, fun v q => by rw [hd] at q; cases q⟩
  keep := fun i h h' st k => let ⟨⟨old, he⟩, hi, hne⟩ := st; ⟨⟨old, k e (by simp) _ he⟩, hi.at fun o q => k it (by simp) o q, hne⟩
  item := by
    intro X hP hw hK hc i pins s σ H E I hf st hg
    subst hP hw hK
    obtain ⟨⟨old, he⟩, hit, hne, hea, hia⟩ := st
    obtain ⟨xs, x, hq, hx⟩ := hg
    obtain ⟨its, rv, p, hz⟩ := I.tuple hq
    obtain ⟨u, hu, ru⟩ := rv.get hx
    have hel : e < s.heap.objs.size := Heap.lt_size he
    have hil : it < s.heap.objs.size := by obtain ⟨_, q, _⟩ := hit; exact Heap.lt_size q
    have hlt : i < its.toArray.size := by
      rw [List.size_toArray, ← rv.length]
      exact (List.getElem?_eq_some_iff.mp hx).1
    have Dw : Draws X.prog X.w X.A.in1 it [it, a] its.toArray.size (fun i v => its.toArray[i]? = some v) (fun i h => h.IsTupleIter it a i ∧ h.IsTuple a its.toArray) :=
      Draws.tuple (show X.A.in1.handled = none from I.ok.hd hc) it a (Ne.symm hia) its.toArray
    refine wpAny_pyNext_enum_itemD Dw he ⟨hit, p⟩ hlt hne (by simp [hne, hea]) fun v h' tk hv ho hst hT hsz hk => ?_
    have hv' : v = u := by
      have q1 : its.toArray[i]? = some u := by simpa using hu
      rw [q1] at hv
      exact (Option.some.inj hv).symm
    subst hv'
    refine ⟨_, rfl, wpAny_letOwnedTupleGo_enum (s := { s with heap := h', toks := tk + 1 }) ho fun h'' he' sb => ?_⟩
    have hT2 : h''.get? s.heap.objs.size = some { cls := .type "tuple", data := .seq #[.int i tk, v] } := (sb.2 _ (Nat.ne_of_gt hel)).trans hT
    have new : ObjOk X.prog X.w (upd H s.heap.objs.size (.tup [.int (i : Nat), x])) h'' s.heap.objs.size (.tup [.int (i : Nat), x]) :=
      ⟨by show 2 ≤ sizeLine; decide, [.int i tk, v], .cons ⟨_, rfl⟩ (.cons ru .nil), ⟨_, hT2, rfl, _, rfl⟩⟩
    have I1 : Inv X pins σ (upd H s.heap.objs.size (.tup [.int (i : Nat), x])) { s with heap := h'', toks := tk + 1 } :=
      I.turnedNew (ch := [e, it]) (fun b ob hb q => (sb.2 b (fun z => hb (by simp [z]))).trans (hk b ob (fun z => hb (by simp [z])) (fun z => hb (by simp [z])) q)) hf (Nat.le_refl _) new
    refine ⟨.ref s.heap.objs.size, _, I1, rfl, ⟨_, x, rfl, I.hok.fresh (Nat.le_refl _), rfl, fun ys hy => by rw [I.tuple_inj hy hq]; exact hx⟩, ⟨⟨v, ?_⟩, hst.1.at fun o q => (sb.2 it (Ne.symm hne)).trans q, hne, hea, hia⟩, fun b hb => ?_⟩
    · have e1 : ((i + 1 : Nat) : Int) = (i : Int) + 1 := by omega
      rw [e1]; exact he'
    · have hb' : b < s.heap.objs.size := by
        have e' : b = e ∨ b = it := by simpa using hb
        rcases e' with z | z
        · rw [z]; exact hel
        · rw [z]; exact hil
      rw [upd_ne (Nat.ne_of_lt hb')]
      exact (hf b hb).1
  done := by
    intro X hP hw hK hc i pins s σ H E I hf st hg
    subst hP hw hK
    obtain ⟨⟨old, he⟩, hit, hne, hea, hia⟩ := st
    obtain ⟨xs, hq, hx⟩ := hg
    obtain ⟨its, rv, p, hz⟩ := I.tuple hq
    obtain ⟨f0, f1, f2, f3, f4, f5⟩ := hf it (by simp)
    have hl := rv.length
    -- behind the last item: the iterator stands there or further
    by_cases hi : i = its.toArray.size
    · subst hi
      have Dw : Draws X.prog X.w X.A.in1 it [it, a] its.toArray.size (fun i v => its.toArray[i]? = some v) (fun i h => h.IsTupleIter it a i ∧ h.IsTuple a its.toArray) :=
        Draws.tuple (show X.A.in1.handled = none from I.ok.hd hc) it a (Ne.symm hia) its.toArray
      exact wpAny_pyNext_enum_endD Dw he ⟨hit, p⟩ fun h' eb => ⟨rfl, I.turned (t' := s.toks) (fun b o hb q => eb b o hb q) f0 f1 f3 f4 f5⟩
    · have hge : its.toArray.size ≤ i := by rw [List.size_toArray]; omega
      have Dw : Draws X.prog X.w X.A.in1 it [it, a] i (fun i v => its.toArray[i]? = some v ∧ False) (fun j h => j = i ∧ h.IsTupleIter it a i ∧ h.IsTuple a its.toArray) := {
        live := fun _ _ st => let ⟨o, ho, _⟩ := st.2.1; ⟨o, ho⟩
        frame := fun _ _ _ st hk => ⟨st.1, st.2.1.at fun o e => hk it (by simp) o e, st.2.2.at fun o e => hk a (by simp) o e⟩
        item := fun j s Q E hj st _ => absurd st.1 (Nat.ne_of_lt hj)
        done := fun s Q E st hE => wpAny_nextOf_tuple_end (show X.A.in1.handled = none from I.ok.hd hc) st.2.1 st.2.2 (by simp; omega) hE }
      exact wpAny_pyNext_enum_endD Dw he ⟨rfl, hit, p⟩ fun h' eb => ⟨rfl, I.turned (t' := s.toks) (fun b o hb q => eb b o hb q) f0 f1 f3 f4 f5⟩
  self := fun A i s Q E st h => let ⟨⟨_, he⟩, _⟩ := st; wpAny_pyIter_enum he h
def iEnumT (K : PySem.W.Frag) (ta : TA) : TI := fun σ H R => ta σ H fun vs H1 => ∃ a xs, vs = [.ref a] ∧ SqT K H1 a xs ∧ R (IteT K a) H1
theorem pi_enumT {X : Cx} {e : Expr} {ta : TA} {p pos tpos : Pos} {elts : List Expr} {kk : Nat} (hg : Gl X "enumerate") (hm : X.mg "enumerate" = none) (ha : PA X [e] ta) (hs : starEach [e] X.env = [(false, eval e X.env)] := by rfl) :
    PI X (.Tuple elts kk tpos) (.Call (.Name "enumerate" p) [e] [] pos) (iEnumT X.K ta) := by
  refine ⟨fun pins s σ H R I h => ?_⟩
  refine Call_ (ld_blt I hg hm boot_enumerate (PyProof.Rows.callWith_type1 (thn (ha.run pos pins s σ H _ I h) fun us s1 ⟨vs, H1, I1, r1, q1⟩ => ?_) hs rfl))
  obtain ⟨a, xs, ex, hq, q⟩ := q1
  subst ex
  cases r1 with
  | cons r rr =>
    cases rr
    cases r
    obtain ⟨its, rv, p', hz⟩ := I1.tuple hq
    have hal : a < s1.heap.objs.size := p'.lt
    refine call_enumT p' fun h' he hit hsz hk => wpAny_pyIter_enum he ?_
    have I2 : Inv X pins σ H1 { s1 with heap := h' } := I1.kept (t' := s1.toks) hk
    refine ⟨s1.heap.objs.size + 1, [s1.heap.objs.size + 1, s1.heap.objs.size], _, _, H1, rfl, I2, turn_enumT a (s1.heap.objs.size + 1) s1.heap.objs.size, ⟨⟨.none, he⟩, hit, Nat.succ_ne_self _, Nat.ne_of_gt (Nat.lt_succ_of_lt hal), Nat.ne_of_gt hal⟩, fun b hb => ?_, q⟩
    have e' : b = s1.heap.objs.size + 1 ∨ b = s1.heap.objs.size := by simpa using hb
    have hle : s1.heap.objs.size ≤ b := by
      rcases e' with z | z
      · rw [z]; exact Nat.le_add_right _ _
      · rw [z]; exact Nat.le_refl _
    exact I1.fpOk hle (I1.hok.fresh hle)
/-! ### t[::-1], t a tuple -/
theorem adjust_back (n : Nat) : Builtin.Slice.sliceAdjust none none (-1) (n : Int) = ((n : Int) - 1, -1) := by
  unfold Builtin.Slice.sliceAdjust
  rfl
theorem places_back (n : Nat) : Builtin.Slice.slicePlaces ((n : Int) - 1) (-1) (-1) = n := by
  unfold Builtin.Slice.slicePlaces
  have h1 : ¬ ((-1 : Int) > 0) := by decide
  simp only [h1, if_false]
  by_cases h : (n : Int) - 1 > -1
  · have e : ((n : Int) - 1 - -1 - 1) / (- -1) = (n : Int) - 1 := by
      rw [show (- -1 : Int) = 1 by decide, Int.ediv_one]
      omega
    simp only [h, if_true, e]
    omega
  · have e : n = 0 := by omega
    subst e
    simp
theorem fm_congr {a b : Type} {f g : a → Option b} : ∀ {l : List a}, (∀ x ∈ l, f x = g x) → l.filterMap f = l.filterMap g
  | [], _ => rfl
  | x :: r, h => by
    rw [List.filterMap_cons, List.filterMap_cons, h x List.mem_cons_self, fm_congr fun y hy => h y (List.mem_cons_of_mem _ hy)]
theorem pick_back (xs : Array Value) : ((List.range xs.size).filterMap fun (m : Nat) => xs[(((xs.size : Int) - 1) + (m : Int) * (-1)).toNat]?).toArray = xs.toList.reverse.toArray := by
  have e : ((List.range xs.size).filterMap fun (m : Nat) => xs[(((xs.size : Int) - 1) + (m : Int) * (-1)).toNat]?) = ((List.range xs.size).map fun k => xs.size - 1 - k).filterMap (xs[·]?) := by
    rw [List.filterMap_map]
    refine fm_congr fun m hm => ?_
    have := List.mem_range.mp hm
    have e : (((xs.size : Int) - 1) + (m : Int) * (-1)).toNat = xs.size - 1 - m := by omega
    show xs[(((xs.size : Int) - 1) + (m : Int) * (-1)).toNat]? = xs[xs.size - 1 - m]?
    rw [e]
  rw [e, PySem.W.krv_range, List.filterMap_reverse, PySem.W.krv_all]
section
variable {prog : Program} {w : World} {A : Around} {E : Value → Shared → Prop} {s : Shared}
theorem applied_back {sl : Addr} {vs : Value} {n : Nat} {Q : Int × Int × Nat → Shared → Prop} (hs : s.heap.IsSliceOf sl .none .none vs) (ps : IsPart vs (some (-1)))
    (h : Q ((n : Int) - 1, -1, n) s) : wpAny (model prog w) A (Builtin.Slice.sliceApplied (.ref sl) (pure (n : Int))) Q E s := by
  obtain ⟨os, hos, hcs, hds⟩ := id hs
  unfold Builtin.Slice.sliceApplied Builtin.Slice.sliceFields
  refine wpAny_bind (wpAny_bind (wpAny_field hos hds (x := .none) rfl (wpAny_bind (wpAny_field hos hds (x := .none) rfl (wpAny_bind (wpAny_field hos hds (x := vs) rfl (wpAny_pure ?_)))))))
  refine wpAny_bind (HT.slicePart_ ps ?_)
  show wpAny _ _ (if ((-1 : Int) == 0) = true then _ else _) _ _ s
  rw [if_neg (by decide)]
  refine wpAny_bind (slicePart_none (wpAny_bind (slicePart_none (wpAny_bind (wpAny_pure ?_)))))
  show wpAny _ _ (match Builtin.Slice.sliceAdjust none none (-1) (n : Int) with | (lo, hi) => pure (lo, (-1 : Int), Builtin.Slice.slicePlaces lo hi (-1))) _ _ s
  rw [adjust_back n]
  show wpAny _ _ (pure ((n : Int) - 1, (-1 : Int), Builtin.Slice.slicePlaces ((n : Int) - 1) (-1) (-1))) _ _ s
  rw [places_back]
  exact wpAny_pure h
theorem getItem_tuple_back {t sl : Addr} {items : Array Value} {vs : Value} {Q : Value → Shared → Prop} (ht : IsTup s.heap t items) (hs : s.heap.IsSliceOf sl .none .none vs) (ps : IsPart vs (some (-1)))
    (h : Q (.ref s.heap.objs.size) { s with heap := s.heap.push { cls := .type "tuple", data := .seq items.toList.reverse.toArray } })
    (hsz : items.size ≤ sizeLine) : wpAny (model prog w) A (getItem (.ref t) (.ref sl)) Q E s := by
  have htake : sizeOk (.seq items.toList.reverse.toArray) := by
    show items.toList.reverse.toArray.size ≤ sizeLine
    rw [List.size_toArray, List.length_reverse, Array.length_toList]
    exact hsz
  obtain ⟨os, hos, hcs, hds⟩ := id hs
  have hTs : s.TypeIs (.ref sl) "slice" := ⟨os, hos, hcs⟩
  unfold getItem
  try with_reducible refine wpAny_holding ?_
  first | refine wpAny_bind (wpAny_pure ?_) | skip
  refine wpAny_bind (wpAny_sequenceKey ht.typeIs (by decide) ?_)
  refine wpAny_bind (wpAny_callSpecial?_slot (name := Str.ofString "__getitem__") ht.typeIs PyProof.Rows.slot_tuple_getitem
    (wpAny_call_entry PyProof.Rows.slot_tuple_getitem ht.typeIs entry_tuple_getitem ?_ (args_tuple_getitem _ _)))
  show wpAny _ _ (Builtin.Tuple.tupleItemsOf (.ref t) >>= _) _ _ s
  refine wpAny_bind (tupleItemsOf_ ht ?_)
  refine wpAny_bind (wpAny_typeOf hTs ?_)
  rw [if_pos (by decide)]
  refine wpAny_bind (applied_back hs ps ?_)
  show wpAny _ _ (if (((items.size : Int) - 1) == 0 && (-1 : Int) == 1 && items.size == items.size) = true then _ else _) _ _ s
  rw [if_neg (by rw [show ((-1 : Int) == 1) = false by decide, Bool.and_false, Bool.false_and]; exact Bool.false_ne_true), pick_back]
  first
    | exact wpAny_bind (m := Builtin.Tuple.tupleExact _) (wpAny_newObj_type (wpAny_pure ⟨_, rfl, wpAny_pure h⟩) htake)
    | exact wpAny_bind (m := Builtin.Tuple.tupleExact _) (wpAny_newObj_type (wpAny_bind (wpAny_pure (wpAny_pure ⟨_, rfl, wpAny_pure h⟩))) htake)
    | exact wpAny_bind (wpAny_bind (m := Builtin.Tuple.tupleExact _) (wpAny_newObj_type (wpAny_pure (wpAny_pure ⟨_, rfl, wpAny_pure h⟩)) htake))
    | exact wpAny_bind (wpAny_bind (m := Builtin.Tuple.tupleExact _) (wpAny_newObj_type (wpAny_pure ⟨_, rfl, wpAny_pure h⟩) htake))
end
def tRevT (K : PySem.W.Frag) (te : TE) : TE := fun σ H Q => te σ H fun x H1 => ∃ a xs, x = .ref a ∧ SqT K H1 a xs ∧ ∀ p, H1 p = none → Q (.ref p) (upd H1 p (.tup xs.reverse))
theorem pe_revT {X : Cx} {e : Expr} {te : TE} {k : Nat} {p1 p2 p3 pos : Pos} (he : PE X e te) : PE X (.Subscript e (.Slice none none (some (.UnaryOp .USub (.Constant (.int 1) k p1) p2)) p3) pos) (tRevT X.K te) := by
  refine ⟨fun pins s σ H Q I h => ?_⟩
  refine Subscript_ (thn (he.run pins s σ H _ I h) fun v s1 ⟨x, H1, I1, r1, q1⟩ => ?_)
  obtain ⟨a, xs, ex, hx, q⟩ := q1
  subst ex
  cases r1
  have hst : PO X (some (.UnaryOp .USub (.Constant (.int 1) k p1) p2)) (tPart (tUn (rU fun i => .int (-i)) (tC (.int 1)))) := po_some (pe_un un_neg pe_int)
  refine wpAny_Slice (thn (po_none.run pins s1 σ H1 (fun o H2 => o = none ∧ H2 = H1) I1 ⟨rfl, rfl⟩) fun vl s2 ⟨l, H2, I2, pl, el, e2⟩ => ?_)
  subst el e2
  refine thn (po_none.run pins s2 σ H2 (fun o H3 => o = none ∧ H3 = H2) I2 ⟨rfl, rfl⟩) fun vu s3 ⟨u, H3, I3, pu, eu, e3⟩ => ?_
  subst eu e3
  refine thn (hst.run pins s3 σ H3 (fun o H4 => o = some (-1) ∧ H4 = H3) I3 ⟨1, rfl, -1, rfl, rfl, rfl⟩) fun vs s4 ⟨o, H4, I4, ps, eo, e4⟩ => ?_
  subst eo e4
  cases pl
  cases pu
  have I5 : Inv X pins σ H4 { s4 with heap := s4.heap.push { cls := .type "slice", data := .fields #[.none, .none, vs] } } := I4.kept (t' := s4.toks) fun b ob q => Heap.get?_push_of_some _ q
  obtain ⟨its, r, ht, hz⟩ := I5.tuple hx
  have hlen := r.length
  show wpAny (model X.prog X.w) X.A (subscriptTail e (.Slice none none (some (.UnaryOp .USub (.Constant (.int 1) k p1) p2)) p3) (.ref a) (.ref s4.heap.objs.size)) (EP X pins σ Q) X.xe { s4 with heap := s4.heap.push { cls := .type "slice", data := .fields #[.none, .none, vs] } }
  refine tail_any (ops := [.ref a, .ref s4.heap.objs.size]) ht.typeIs (PyProof.Rows.slot_tuple_getitem.lookup) ?_ (by with_unfolding_all rfl)
  refine getItem_tuple_back ht (Heap.IsSliceOf.new _ .none .none vs) ps ?_ (by rw [List.size_toArray]; omega)
  refine ⟨.ref _, _, I5.laid (t' := s4.toks) (o := .tup xs.reverse) (fun b ob q => Heap.get?_push_of_some _ q) (Nat.le_refl _) ?_, rfl, q _ (I5.hok.fresh (Nat.le_refl _))⟩
  exact ⟨by rw [List.length_reverse]; exact hz, its.reverse, r.reverse, IsTup.new _ _⟩
end Sh
end

section
set_option Elab.async false
set_option linter.all false
set_option maxRecDepth 100000
set_option maxHeartbeats 4000000
/-! Rules of my own over HandS, part 4: len(set(xs)), xs a list of distinct texts. -/
namespace Sh
open PySem PySem.Spec PyProof.Rows L2
abbrev freshSet (led : Bool) : Obj := { cls := .type "set", dict := none, data := .set #[] 0 (.fresh 0 0 led) }
abbrev sK (prog : Program) (w : World) := PySem.strKind prog w
/-- the i texts that have been met -/
def met (xs : List Str) (i : Nat) : Str → Bool := fun k => decide (k ∈ xs.take i)
theorem met_step {xs : List Str} {i : Nat} {x : Str} (h : xs[i]? = some x) (k : Str) : (met xs i k || decide (k = x)) = met xs (i + 1) k := by
  unfold met
  rw [List.take_add_one, h]
  by_cases e : k ∈ xs.take i <;> by_cases q : k = x <;> simp [e, q]
theorem met_new {xs : List Str} (hn : xs.Nodup) {i : Nat} {x : Str} (h : xs[i]? = some x) : met xs i x = false := by
  unfold met
  refine decide_eq_false fun hm => ?_
  obtain ⟨j, hj, e⟩ := List.getElem_of_mem hm
  rw [List.length_take] at hj
  rw [List.getElem_take] at e
  have q : xs[j]? = some x := by rw [List.getElem?_eq_getElem (by omega), e]
  exact absurd (nd_ix hn q h) (by omega)
section
variable {prog : Program} {w : World} {A : Around} {R : Result → Shared → Prop} {I : Addr} {fp wr : List Addr} {G : Array GenState → Array GenState → Prop} {n : Nat} {P : Nat → Value → Prop} {St : Nat → Shared → Prop}
theorem set_loop (W : WalksS prog w A.in1 I fp wr G n P St) (S : Addr) (hSf : S ∉ fp) (xs : List Str) (hnd : xs.Nodup) (hsz : xs.length = n) (hroom : n + 1 < scanBound)
    (hval : ∀ i v, P i v → ∃ x t, xs[i]? = some x ∧ v = .str x t) (m : Nat) :
    ∀ (i : Nat) (s : Shared), n - i = m → i ≤ n → St i s → s.heap.SetOf (sK prog w) S (met xs i) i →
      (∀ s', Moved (S :: wr) G s s' → s'.heap.SetOf (sK prog w) S (met xs n) n → R (.ok (.ret .none)) s') →
      codeAny (model prog w) A (.builtin "set.update.loop" ⟨[.ref S, .ref I], []⟩) R s := by
  have hSw : S ∉ wr := fun h => hSf (W.sub _ h)
  have up : ∀ b ∈ wr, b ∈ S :: wr := fun b hb => List.mem_cons_of_mem _ hb
  have carry : ∀ {s s' : Shared} {i j : Nat}, Moved wr G s s' → s.heap.SetOf (sK prog w) S (met xs i) j → s'.heap.SetOf (sK prog w) S (met xs i) j := fun hm hS => by
    obtain ⟨o, es, ep, t, ho, r⟩ := hS
    exact ⟨o, es, ep, t, hm.heap S _ hSw ho, r⟩
  have enter : ∀ {s : Shared}, wpAny (model prog w) A.in1 (Builtin.«set.update.loop» ⟨[.ref S, .ref I], []⟩) (fun fin s' => match fin with | .done f => R (.ok f) s' | .again c' => c'.quiet = true ∧ codeAny (model prog w) A c' R s') (fun e s' => R (.error e) s') s →
      codeAny (model prog w) A (.builtin "set.update.loop" ⟨[.ref S, .ref I], []⟩) R s := fun h => by
    refine codeAny_builtin PyProof.Rows.F.entry_set_update_loop ?_
    rw [Around.under_plainId PyProof.Rows.F.plain_set_update_loop _]
    exact h
  induction m with
  | zero =>
    intro i s hk hi hst hS hR
    obtain rfl : i = n := by omega
    refine enter ?_
    show wpAny _ A.in1 (pyNext (.ref I) >>= _) _ _ s
    refine wpAny_bind (W.done s _ _ hst fun s' hm => ?_)
    exact wpAny_pure (hR s' (hm.mono up) (carry hm hS))
  | succ m ih =>
    intro i s hk hi hst hS hR
    have hlt : i < n := by omega
    refine enter ?_
    show wpAny _ A.in1 (pyNext (.ref I) >>= _) _ _ s
    refine wpAny_bind (W.item i s _ _ hlt hst fun v s' hP hst' hm => ?_)
    obtain ⟨x, t, hx, rfl⟩ := hval i v hP
    have hS' := carry hm hS
    show wpAny _ A.in1 (holding [Value.str x t] (setAdd S (.str x t)) >>= _) _ _ s'
    refine wpAny_bind (wpAny_holding ?_)
    unfold setAdd
    refine wpAny_holding (wpAny_bind ((sK prog w).pyHash (k := x) (strKind_is _ _ _ _) ?_))
    refine wpAny_setAddHashed_of (knd := sK prog w) (s := { s' with toks := s'.toks + 1 }) (strKind_is _ _ _ _) rfl hS' (by omega) fun h' hsb hS2 => ?_
    have hSi : h'.SetOf (sK prog w) S (met xs (i + 1)) (i + 1) := SetOf_congr hS2 (met_step hx) (by rw [met_new hnd hx]; rfl)
    have fr : ∀ b ∈ fp, b ≠ S := fun b hb e => hSf (e ▸ hb)
    refine wpAny_pure ⟨plainId_quiet PyProof.Rows.F.plain_set_update_loop _, ih (i + 1) _ (by omega) hlt (W.frame _ s' _ _ hst' (Nat.le_succ _) fun b hb o e => (hsb.2 b (fr b hb)).trans e) hSi fun s2 hm2 hS3 => ?_⟩
    refine hR s2 (Moved.trans W.gtrans ((hm.mono up).then_heap (Nat.le_succ _) fun b o hb e => ?_) hm2) hS3
    exact (hsb.2 b (fun h : b = S => hb (by rw [h]; exact List.mem_cons_self))).trans e
end
section
variable {prog : Program} {w : World} {A : Around} {E : Value → Shared → Prop} {s : Shared}
/-- set(xs): its new object, then what __init__ does with it -/
theorem set_of_list {l : Addr} {Q : Value → Shared → Prop} {T : Heap → Prop}
    (hin : ∀ (led : Bool) (R : Result → Shared → Prop), (∀ h' tk, T h' → R (.ok (.ret .none)) { s with heap := h', toks := tk }) →
      wpAny (model prog w) A.in1.in1 (Builtin.«set.__init__» ⟨[.ref s.heap.objs.size, .ref l], []⟩) (fun fin s' => match fin with | .done f => R (.ok f) s' | .again c' => c'.quiet = true ∧ codeAny (model prog w) A.in1 c' R s') (fun e s' => R (.error e) s')
        { s with heap := s.heap.push { cls := .type "set", dict := none, data := .set #[] 0 (.fresh 0 0 led) } })
    (h : ∀ (h' : Heap) (tk : Nat), T h' → Q (.ref s.heap.objs.size) { s with heap := h', toks := tk }) :
    wpAny (model prog w) A (call (.type "set") [.ref l]) Q E s := by
  obtain ⟨c, tl, hmro⟩ := PySem.F.called_set.mro
  have hmade := PySem.F.called_set.made
  have hsub := PySem.F.called_set.sub
  refine wpAny_call (codeAny_of_tree ?_)
  show wpAny _ _ (callAny (.type "set") _) _ _ _
  refine wpAny_pure ⟨Code.quiet_builtin _ (by decide +kernel), codeAny_builtin PySem.F.entry_type_call ?_⟩
  rw [Around.under_plain (weight_type_call_type "set" [.ref l] []) rfl]
  have h1 := PySem.F.called_set.notType
  have h2 := PySem.F.called_set.canCreate
  have hct := PySem.F.typeCall_set_1 (.ref l)
  repeat (any_goals (first | assumption | wp_step))
  refine codeAny_mono (code_set_new_1 (.ref l) (E := E) (Q₁ := fun obj s1 => ∃ led : Bool, obj = .ref s.heap.objs.size ∧ s1 = { s with heap := s.heap.push { cls := .type "set", dict := none, data := .set #[] 0 (.fresh 0 0 led) } }) fun led => ⟨led, rfl, rfl⟩) fun r s1 hr => ?_
  cases r with
  | error e => exact hr
  | ok fl =>
    cases fl with
    | ret obj =>
      obtain ⟨led, rfl, rfl⟩ := hr
      have hT : Shared.TypeIs { s with heap := s.heap.push { cls := .type "set", dict := none, data := .set #[] 0 (.fresh 0 0 led) } } (.ref s.heap.objs.size) "set" := ⟨_, Heap.get?_push_size _ rfl, rfl⟩
      have hli := PySem.F.called_set.init.lookup
      have hbi := PySem.F.called_set.init.bind (.ref s.heap.objs.size)
      repeat (any_goals (first | assumption | wp_step))
      refine codeAny_mono (codeAny_call_builtin (R := wants (fun r s2 => r = .none ∧ ∃ h' tk, s2 = { s with heap := h', toks := tk } ∧ T h') E) PySem.F.called_set.init.plain PySem.F.entry_set_init (check_set_init_1 hT ?_)) fun r2 s2 hr2 => ?_
      · exact hin led _ fun h' tk t => ⟨rfl, h', tk, rfl, t⟩
      · cases r2 with
        | error e => exact hr2
        | ok fl2 =>
          cases fl2 with
          | ret r =>
            obtain ⟨rfl, h', tk, rfl, t⟩ := hr2
            repeat (any_goals (first | assumption | wp_step))
            exact h _ _ t
          | _ => exact hr2
    | _ => exact hr
set_option maxHeartbeats 4000000 in
theorem set_of_strs {l : Addr} {items : Array Value} {xs : List Str} {Q : Value → Shared → Prop} (hh : A.handled = none) (hl : s.heap.IsList l items) (hi : Vals (xs.map V.str) items.toList) (hnd : xs.Nodup) (hroom : xs.length + 1 < scanBound)
    (h : ∀ (h' : Heap) (tk : Nat), h'.SetOf (sK prog w) s.heap.objs.size (met xs xs.length) xs.length → (∀ b o, s.heap.get? b = some o → h'.get? b = some o) → Q (.ref s.heap.objs.size) { s with heap := h', toks := tk }) :
    wpAny (model prog w) A (call (.type "set") [.ref l]) Q E s := by
  refine set_of_list (T := fun h' => h'.SetOf (sK prog w) s.heap.objs.size (met xs xs.length) xs.length ∧ ∀ b o, s.heap.get? b = some o → h'.get? b = some o) (fun led R hR => ?_) fun h' tk t => h h' tk t.1 t.2
  obtain ⟨⟨oc, od, odt, osl⟩, hol, hcl, nl, hdl⟩ := hl
  have hcl : oc = .type "list" := hcl
  have hdl : odt = .seq items nl := hdl
  subst hcl hdl
  have hlS : l < s.heap.objs.size := Heap.lt_size hol
  have hS : (s.heap.push (freshSet led)).get? s.heap.objs.size = some (freshSet led) := Heap.get?_push_size _ rfl
  have hol' : (s.heap.push (freshSet led)).get? l = some { cls := .type "list", dict := od, data := .seq items nl, slots := osl } := Heap.get?_push_of_some _ hol
  have hl1 : (s.heap.push (freshSet led)).IsList l items := ⟨_, hol', rfl, nl, rfl⟩
  have hsls := PySem.F.sub_list_set
  have hslf := PySem.F.sub_list_frozenset
  have hne : (Value.type "list" == Value.type "dict") = false := by decide
  unfold Builtin.«set.__init__» noKeywords Builtin.Frozenset.updateFrom
  generalize hPI : pyIter = PI
  wp_walk
  subst hPI
  refine wpAny_pyIter_list hl1 ?_
  refine wpAny_bind (wpAny_runValue ?_)
  have sz : (s.heap.push (freshSet led)).objs.size = s.heap.objs.size + 1 := Heap.size_push ..
  have hneI : l ≠ (s.heap.push (freshSet led)).objs.size := by rw [sz]; exact Nat.ne_of_lt (Nat.lt_succ_of_lt hlS)
  have hSf : s.heap.objs.size ∉ [(s.heap.push (freshSet led)).objs.size, l] := by
    rw [sz]
    simp only [List.mem_cons, List.mem_singleton, List.not_mem_nil, or_false, not_or]
    exact ⟨Nat.ne_of_lt (Nat.lt_succ_self _), Nat.ne_of_gt hlS⟩
  have hlen : xs.length = items.size := by rw [← Array.length_toList, ← hi.length, List.length_map]
  have hval : ∀ (i : Nat) (v : Value), items[i]? = some v → ∃ x t, xs[i]? = some x ∧ v = .str x t := fun i v hv => by
    have hv' : items.toList[i]? = some v := by rw [Array.getElem?_toList]; exact hv
    have hix : i < xs.length := by
      rw [hlen, ← Array.length_toList]
      exact (List.getElem?_eq_some_iff.mp hv').1
    have hx : (xs.map V.str)[i]? = some (V.str xs[i]) := by rw [List.getElem?_map, List.getElem?_eq_getElem hix]; rfl
    obtain ⟨u, hu, t, ru⟩ := hi.get hx
    rw [hv'] at hu
    cases hu
    exact ⟨xs[i], t, List.getElem?_eq_getElem hix, ru⟩
  refine set_loop ((Walks.list (by simp [hh]) _ l hneI items).toS) s.heap.objs.size hSf xs hnd hlen (by omega) hval (items.size - 0) 0 _ rfl (Nat.zero_le _) ⟨⟨_, Heap.get?_push_size _ rfl, rfl, rfl⟩, hl1.push _⟩ ?s0 ?sR
  case s0 =>
    have hget : ((s.heap.push (freshSet led)).push { cls := .type "list_iterator", data := .fields #[.ref l, .int 0 0] }).get? s.heap.objs.size = some (freshSet led) := Heap.get?_push_of_some _ hS
    refine PyProof.Rows.SetOf_congr ((PyProof.Rows.setObjOf_fresh (knd := sK prog w) led).setOf hget (by unfold scanBound; omega)) (fun k => ?_) rfl
    unfold met
    rw [List.take_zero]
    exact (decide_eq_false (by simp)).symm
  case sR =>
    intro s' hm hS'
    obtain ⟨h', g', d', tk', os'⟩ := s'
    have eg : g' = s.gens := hm.gens
    have ed : d' = s.drawn := hm.drawn
    have eo : os' = s.os := hm.os
    subst eg ed eo
    rw [← hlen] at hS'
    refine wpAny_pure ?_
    show wpAny _ _ (ret Value.none) _ _ _
    refine wpAny_pure (hR h' tk' ⟨hS', fun b o e => ?_⟩)
    have hb := Heap.lt_size e
    have hb2 : b ≠ (s.heap.push (freshSet led)).objs.size := by rw [sz]; exact Nat.ne_of_lt (Nat.lt_succ_of_lt hb)
    exact hm.heap b o (by simp only [List.mem_cons, List.mem_singleton, List.not_mem_nil, or_false, not_or]; exact ⟨Nat.ne_of_lt hb, hb2⟩) (Heap.get?_push_of_some _ (Heap.get?_push_of_some _ e))
end
def tLenSetS (K : PySem.W.Frag) (ta : TE) : TE := fun σ H Q => ta σ H fun x H1 => ∃ (l : Addr) (xs : List Str), x = V.ref l ∧ SqL K H1 l (xs.map V.str) ∧ xs.length < 64 ∧ xs.Nodup ∧ Q (.int xs.length) H1
theorem pe_lenSetS {X : Cx} {a : Expr} {ta : TE} {p p2 q pos : Pos} (hc : X.calm = true) (hg : Gl X "len") (hm : X.mg "len" = none) (hg2 : Gl X "set") (hm2 : X.mg "set" = none) (ha : PE X a ta)
    (na : starEach [a] X.env = (false, eval a X.env) :: starEach [] X.env := by rfl) : PE X (.Call (.Name "len" p) [.Call (.Name "set" p2) [a] [] q] [] pos) (tLenSetS X.K ta) := by
  refine ⟨fun pins s σ H Q I h => ?_⟩
  refine Call_ (ld_blt I hg hm PySem.boot_len ?_)
  refine PyProof.Rows.callWith_builtin1 (PyProof.Rows.args_cons ?_ rfl) rfl rfl
  refine Call_ (ld_blt I hg2 hm2 PyProof.Rows.boot_set ?_)
  refine PyProof.Rows.callWith_type1 (PyProof.Rows.args_cons (thn (ha.run pins s σ H _ I h) fun v s1 ⟨x, H1, I1, r1, q1⟩ => PyProof.Rows.args_nil ?_) na) na rfl
  obtain ⟨l, xs, rfl, hq, h1, hnd, q1⟩ := q1
  cases r1
  obtain ⟨its, r, pl, hz⟩ := I1.list hq
  refine set_of_strs (I1.ok.hd hc) pl.isList (xs := xs) (by simpa using r) hnd (by unfold scanBound; omega) fun h' tk hS hk => ?_
  refine PyProof.Rows.args_nil ?_
  obtain ⟨o, es, ep, t, ho, hex, hd, _, _, _, hf, hn⟩ := hS
  have I2 : Inv X pins σ H1 { s1 with heap := h', toks := tk } := I1.kept fun b o e => hk b o e
  refine call_len_set ho hex hd hf (by rw [hn] <;> omega) ⟨.int xs.length, H1, I2.tok _, ⟨_, by rw [hn]⟩, q1⟩
end Sh
end

section
set_option Elab.async false
set_option linter.all false
set_option maxRecDepth 100000
set_option maxHeartbeats 4000000
/-! Rules of my own over HandS, part 5: all(test for x in e), e a list. -/
namespace Sh
open PySem PySem.Spec PyProof.Rows L2 GxR
/-- the element of the generator's turn i, in the generator's own frame: tb i; what stood at s1 stands but for the table at P -/
def EltL (X : Cx) (s1 : Shared) (P : Addr) (scope : Scope) (x : Str) (elt : Expr) (its : List Value) (tb : Nat → Bool) : Prop :=
  ∀ (cenv : Env) (A' : Around) (E' : Value → Shared → Prop) (i : Nat) (v : Value) (s2 : Shared) (m2 : Str → Option Value), cenv.scope = scope → cenv.cells = cloFrom X.env.cells scope.names [] → cenv.globals = X.env.globals → cenv.builtins = builtinsNs →
    A'.handled = none → its[i]? = some v → s2.heap.Ns cenv.locals m2 → m2 x = some v → (∀ b o, b ≠ P → s1.heap.get? b = some o → s2.heap.get? b = some o) →
    wpAny (model X.prog X.w) A' (eval elt cenv) (fun y s3 => y = .bool (tb i) ∧ Keeps s2 s3) E' s2
/-- the table at P may have grown by a code object of the place g; else nothing has changed -/
def Grown (P : Addr) (g : Pos) (H1 H2 : Hp) : Prop := (∃ (ps more : Array Value), H1 P = some (.tbl ps) ∧ H2 P = some (.tbl (ps ++ more)) ∧ TriplesOk (ps ++ more).toList ∧ (more = #[] ∨ ∃ c, more = #[rawInt g.line, rawInt g.col, c])) ∧ ∀ b, b ≠ P → H2 b = H1 b
/-- the generator g, ready to be walked in n turns -/
def ReadyL (X : Cx) (pins : List (Addr × Obj)) (σ : L2.St) (H1 : Hp) (P : Addr) (gpos : Pos) (n : Nat) (tb : Nat → Bool) (g : Addr) (s5 : Shared) : Prop :=
  ∃ (fp wr : List Addr) (G : Array GenState → Array GenState → Prop) (F : Nat → Value → Prop) (St : Nat → Shared → Prop),
    WalksS X.prog X.w X.A.in1 g fp wr G n F St ∧ St 0 s5 ∧ TruthOf X.prog X.w X.A.in1 F tb ∧ ∀ s', Moved wr G s5 s' → ∃ H2, Grown P gpos H1 H2 ∧ Inv X pins σ H2 s'
section
variable {X : Cx} {pins : List (Addr × Obj)} {σ : L2.St} {H : Hp} {s : Shared}
theorem gen_list {c P : Addr} {elt iter : Expr} {x : Str} {px gpos : Pos} {scope : Scope} {te : TE} {k : Nat} {Q' : Value → Shared → Prop} {Ok : L2.St → Hp → List V → (Nat → Bool) → Prop} {Rr : Nat → (Nat → Bool) → Hp → Prop}
    (hr : Room k X.A) (TB : GxR.TabB X.base X.mg c P) (hcode : X.env.code = .ref c) (S : GenS X.env scope x) (hi : PE X iter te)
    (hel : ∀ (pins : List (Addr × Obj)) (s1 : Shared) (σ : L2.St) (H1 : Hp) (xs : List V) (its : List Value) (tb : Nat → Bool), Inv X pins σ H1 s1 → GxR.TabG H1 P → Vals xs its → Ok σ H1 xs tb → EltL X s1 P scope x elt its tb)
    (hs : ∀ v, genFold iter X.env v = pure v) (I : Inv X pins σ H s) (h : te σ H fun v H1 => ∃ (l : Addr) (xs : List V) (tb : Nat → Bool), v = .ref l ∧ SqL X.K H1 l xs ∧ GxR.TabG H1 P ∧ Ok σ H1 xs tb ∧ Rr xs.length tb H1)
    (hQ : ∀ n tb H1 g s5, Rr n tb H1 → ReadyL X pins σ H1 P gpos n tb g s5 → Q' (.ref g) s5) :
    wpAny (model X.prog X.w) X.A (eval (.GeneratorExp elt [⟨.Name x px, iter, [], 0⟩] scope gpos) X.env) Q' X.xe s := by
  refine wpAny_GeneratorExp_walksQ hr.hd S.co (closure_ok S.free) S.cell S.dot S.loc S.kind (by have := hr.dp; omega) ?_ hs
  refine thn (hi.run pins s σ H _ I h) fun xv s1 ⟨v, H1, I1, r1, q1⟩ => ?_
  obtain ⟨l, xs, tb, rfl, hL, tg, hok, q1⟩ := q1
  obtain ⟨ps, hP, ht⟩ := id tg
  cases r1
  obtain ⟨its, rv, pl, hz⟩ := I1.list hL
  have hn : xs.length = its.toArray.size := by rw [List.size_toArray]; exact rv.length
  have hE := hel pins s1 σ H1 xs its tb I1 tg rv hok
  have hlP : l ≠ P := by
    intro e
    obtain ⟨o, n, ho, hc, hd, hdat⟩ := pl
    have e1 : s1.heap.get? P = some { cls := .none, data := .fields ps } := I1.hok P _ hP
    rw [← e, ho] at e1
    cases e1
    cases hc
  refine wpAny_pyIter_list pl.isList ?_
  generalize hob : ({ cls := .type "list_iterator", data := .fields #[.ref l, .int 0 0] } : Obj) = o
  have hPs : s1.heap.get? P = some { cls := .none, data := .fields ps } := I1.hok P _ hP
  have hPlt : P < s1.heap.objs.size := Heap.lt_size hPs
  have hP2 : (s1.heap.push o).get? P = some { cls := .none, data := .fields ps } := Heap.get?_push_of_some _ hPs
  have cd : PySem.W.CodeHd (s1.heap.push o) c P := TB.code.keeps fun b u e => Heap.get?_push_of_some _ (I1.bk b u e)
  have lim2 : (s1.heap.push o).NoLimit := I1.nolimit.push o
  have isz : (s1.heap.push o).objs.size = s1.heap.objs.size + 1 := Heap.size_push ..
  have hit : (s1.heap.push o).get? s1.heap.objs.size = some o := Heap.get?_push_size _ (by rw [← hob]; rfl)
  have cont : ∀ (code : Value) (h3 : Heap) (tk : Nat) (ps' : Array Value), Heap.ExtBut P (s1.heap.push o) h3 → (s1.heap.push o).objs.size ≤ h3.objs.size → h3.get? P = some { cls := .none, data := .fields ps' } → (∃ more, ps' = ps ++ more ∧ (more = #[] ∨ ∃ c, more = #[rawInt gpos.line, rawInt gpos.col, c])) → TriplesOk ps'.toList →
      wpAny (model X.prog X.w) X.A (builtinsFor X.env.globals X.env.builtins) (fun bi s4 =>
        ∃ Ia fp wr n0 Pf St0 pz F, Value.ref s1.heap.objs.size = .ref Ia ∧ (∀ A' : Around, A'.handled = none → Walks X.prog X.w A' Ia fp wr n0 Pf St0) ∧ St0 0 s4.heap ∧ (∀ b ∈ fp, b < s4.heap.objs.size) ∧ s4.heap.NoLimit ∧ cStatics ∉ wr ∧
          (∀ href : Heap, (∀ b o, s4.heap.get? b = some o → href.get? b = some o) →
            QuietGen X.prog X.w (genEnv scope (cloFrom X.env.cells scope.names []) s4.heap.objs.size code bi X.env) x [] elt (List.range s4.heap.objs.size) wr Pf pz F href) ∧
          (∀ a h5 tk gs, gs.bare = true → s4.heap.objs.size < a → h5.objs.size = a + 1 → (∀ b o, s4.heap.get? b = some o → h5.get? b = some o) →
            WalksS X.prog X.w X.A.in4 a (a :: s4.heap.objs.size :: List.range s4.heap.objs.size) (s4.heap.objs.size :: wr) (GenOnlyQ s4.gens.size) (passing pz n0 0).length
              (fun j y => ∃ i, (passing pz n0 0)[j]? = some i ∧ F i y) (GenAt X.prog X.w X.A.in4 a s4.gens.size s4.heap.objs.size (List.range s4.heap.objs.size) wr pz n0 F) →
            GenAt X.prog X.w X.A.in4 a s4.gens.size s4.heap.objs.size (List.range s4.heap.objs.size) wr pz n0 F 0 { s4 with gens := s4.gens.push gs, toks := tk, heap := h5 } →
            Q' (.ref a) { s4 with gens := s4.gens.push gs, toks := tk, heap := h5 })) X.xe { s1 with heap := h3, toks := tk } := by
    intro code h3 tk ps' hx hsz hP3 hmore ht3
    obtain ⟨bm, ob, e1, e2, e3, e4, e5, e6, e7, e8⟩ := TB.bm
    have hcP : cStatics ≠ P := fun e => by
      obtain ⟨_, hns, _⟩ := I1.nolimit
      obtain ⟨o', es, ep, ho, hd, _⟩ := hns
      rw [e, hPs] at ho
      cases ho
      cases hd
    have hcl : cStatics < s1.heap.objs.size := let ⟨_, hns, _⟩ := I1.nolimit; hns.lt
    have keep3 : ∀ b u, b ≠ P → s1.heap.get? b = some u → h3.get? b = some u := fun b u hb e => hx b u hb (Heap.get?_push_of_some _ e)
    have hIP : s1.heap.objs.size ≠ P := Nat.ne_of_gt hPlt
    have it3 : h3.get? s1.heap.objs.size = some o := hx _ _ hIP hit
    have hll : l < s1.heap.objs.size := by
      obtain ⟨ol, _, ho, _⟩ := pl
      exact Heap.lt_size ho
    have l3 : h3.IsList l its.toArray := pl.isList.at fun o e => keep3 l o hlP e
    refine wpAny_builtinsFor (m := X.mg) (by rw [I1.ok.glob]; exact ((I1.mod.glob.keeps I1.bk).push o).extBut hx TB.gP) e1 e2 (keep3 _ _ e4 (I1.bk _ _ e5)) e6 e7 e8 ?_
    refine ⟨s1.heap.objs.size, [s1.heap.objs.size, l], [s1.heap.objs.size], its.toArray.size, (fun i v => its.toArray[i]? = some v), (fun i h => h.IsListIter s1.heap.objs.size l i ∧ h.IsList l its.toArray), (fun _ => true), (fun i y => y = .bool (tb i)), rfl,
      fun A' hA => Walks.list hA _ l (Nat.ne_of_lt hll) its.toArray, ⟨⟨o, it3, by rw [← hob], by rw [← hob]; rfl⟩, l3⟩, ?_, lim2.extBut hx hcP, ?_, ?_, ?_⟩
    · intro b hb
      have hlt : ∀ b : Addr, b < s1.heap.objs.size + 1 → b < h3.objs.size := fun b q => Nat.lt_of_lt_of_le q (by rw [← isz]; exact hsz)
      rcases List.mem_cons.mp hb with z | z
      · rw [z]
        exact hlt _ (Nat.lt_succ_self _)
      · rcases List.mem_cons.mp z with z | z
        · rw [z]
          exact hlt _ (Nat.lt_succ_of_lt hll)
        · cases z
    · intro z
      rcases List.mem_cons.mp z with z | z
      · exact Nat.ne_of_lt hcl z
      · cases z
    · intro href hhref
      refine ⟨fun A' E' i v s2 m2 hA hPv hn2 hm2 hk => ?_, fun A' E' i v s2 m2 hA hPv hp hn2 hm2 hk => ?_⟩
      · simp only [List.forIn_nil]
        exact wpAny_pure ⟨rfl, keeps_refl _⟩
      · refine wpAny_mono (hE _ A' E' i v s2 m2 rfl rfl rfl rfl hA (by simpa using hPv) hn2 hm2 fun b u hb e => ?_) (fun y s3 r => r) fun _ _ e => e
        have hb3 := keep3 b u hb e
        refine hk b (List.mem_range.mpr (Heap.lt_size hb3)) (fun z => ?_) u (hhref b u hb3)
        rcases List.mem_cons.mp z with z | z
        · have := Heap.lt_size e
          rw [z] at this
          exact Nat.lt_irrefl _ this
        · cases z
    · intro g h5 tk5 gs hgb hag hsz5 hk5 W5 hat
      simp only [GxR.passing_true, List.length_range] at W5
      rw [hn] at q1
      refine hQ _ tb H1 g _ q1 ⟨_, _, _, _, _, W5.in4_1, hat, ?_, fun s' hm => ?_⟩
      · intro j y sj Qj Ej hy hQj
        obtain ⟨i, hij, rfl⟩ := hy
        obtain ⟨hj, ej⟩ := List.getElem?_eq_some_iff.mp hij
        rw [List.getElem_range] at ej
        subst ej
        exact wpAny_truthy_bool hQj
      · obtain ⟨more, em, hm2⟩ := hmore
        have nwr : ∀ b u, s1.heap.get? b = some u → b ∉ h3.objs.size :: [s1.heap.objs.size] := fun b u e hb => by
          have hl := Heap.lt_size e
          rcases List.mem_cons.mp hb with z | z
          · rw [z] at hl
            have h9 : (h3.objs.size : Nat) < s1.heap.objs.size := hl
            omega
          · rcases List.mem_cons.mp z with z | z
            · rw [z] at hl
              exact Nat.lt_irrefl _ hl
            · cases z
        have J := inv_tab (more := more) (h' := s'.heap) (g' := s'.gens) (d' := s'.drawn) (t' := s'.toks) I1 hP (fun b u hb e => hm.heap b u (nwr b u e) (hk5 b u (keep3 b u hb e)))
          (by rw [← em]; exact hm.heap P _ (nwr P _ hPs) (hk5 P _ hP3)) (AllBare.movedS (I1.bare.push hgb) hm)
        rw [sh_eta s1 s' hm.os] at J
        refine ⟨upd H1 P (.tbl (ps ++ more)), ⟨⟨ps, more, hP, upd_same, by rw [← em]; exact ht3, hm2⟩, fun b hb => upd_ne hb⟩, J⟩
  refine ⟨lim2, ?_⟩
  cases hf : codeAmong gpos ps.toList with
  | none =>
    refine wpAny_genexprCodeX hcode (cd.code hP2 ht) (cd.tab hP2) hf fun c' h' tk hx hge hlt hco' _ htab' _ => ?_
    obtain ⟨o1, vs, f1, tf, fl, tg, inF, tx, tt, op, _, _, _, _, _, _, _, _, _, htr, _⟩ := hco'
    exact cont _ h' tk _ hx (Nat.le_trans hge (Nat.le_of_lt hlt)) htab'.2 ⟨_, rfl, .inr ⟨_, rfl⟩⟩ htr
  | some cv =>
    refine wpAny_genexprCode_hit hcode (cd.code hP2 ht) hf ?_
    exact cont cv (s1.heap.push o) s1.toks ps (Heap.ExtBut.refl _ _) (Nat.le_refl _) hP2 ⟨#[], by simp, .inl rfl⟩ ht
/-- all(test for x in e), e a list; behind it the def's table may have grown -/
def tAllL (K : PySem.W.Frag) (P : Addr) (gpos : Pos) (Ok : L2.St → Hp → List V → (Nat → Bool) → Prop) (te : TE) : TE := fun σ H Q => te σ H fun v H1 => ∃ (l : Addr) (xs : List V) (tb : Nat → Bool), v = .ref l ∧ SqL K H1 l xs ∧ GxR.TabG H1 P ∧ Ok σ H1 xs tb ∧
  ∀ H2, Grown P gpos H1 H2 → Q (.bl ((List.range xs.length).all tb)) H2
theorem pe_allL {c P : Addr} {elt iter : Expr} {x : Str} {px p pos gpos : Pos} {scope : Scope} {te : TE} {k : Nat} {Ok : L2.St → Hp → List V → (Nat → Bool) → Prop}
    (hr : Room k X.A) (hg : Gl X "all") (hm : X.mg "all" = none) (hb : bootBuiltins "all" = some (.builtin "all")) (TB : GxR.TabB X.base X.mg c P) (hcode : X.env.code = .ref c) (S : GenS X.env scope x) (hi : PE X iter te)
    (hel : ∀ (pins : List (Addr × Obj)) (s1 : Shared) (σ : L2.St) (H1 : Hp) (xs : List V) (its : List Value) (tb : Nat → Bool), Inv X pins σ H1 s1 → GxR.TabG H1 P → Vals xs its → Ok σ H1 xs tb → EltL X s1 P scope x elt its tb)
    (hs : ∀ v, genFold iter X.env v = pure v)
    (he : starEach [.GeneratorExp elt [⟨.Name x px, iter, [], 0⟩] scope gpos] X.env = (false, eval (.GeneratorExp elt [⟨.Name x px, iter, [], 0⟩] scope gpos) X.env) :: starEach [] X.env := by rfl) :
    PE X (.Call (.Name "all" p) [.GeneratorExp elt [⟨.Name x px, iter, [], 0⟩] scope gpos] [] pos) (tAllL X.K P gpos Ok te) := by
  refine ⟨fun pins s σ H Q I h => ?_⟩
  refine wpAny_Call_Name_kw (ld_blt I hg hm hb ?_)
  refine PyProof.Rows.callWith_builtin1 ?_ he (by rfl)
  rw [he]
  show wpAny _ _ (spliced ((false, eval (.GeneratorExp elt [⟨.Name x px, iter, [], 0⟩] scope gpos) X.env) :: backTo pos (starEach [] X.env))) _ _ s
  refine Calls.spliced_cons (gen_list (Ok := Ok) (Rr := fun n tb H1 => ∀ H2, Grown P gpos H1 H2 → Q (.bl ((List.range n).all tb)) H2) hr TB hcode S hi hel hs I h fun n tb H1 g s5 hR hG => ?_)
  obtain ⟨fp, wr, G, F, St, W, hst, htr, hI⟩ := hG
  refine Calls.spliced_nil ?_
  refine call_all_walkS (W.self 0 _ _ _ hst ⟨g, fp, wr, G, _, F, St, _, rfl, W, hst, htr, fun s' hmv => ?_⟩)
  obtain ⟨H2, hT, J⟩ := hI s' hmv
  exact ⟨.bl _, H2, J, rfl, hR H2 hT⟩
end
end Sh
end

section
set_option Elab.async false
set_option linter.all false
set_option maxRecDepth 100000
set_option maxHeartbeats 4000000
/-! Rules of my own over HandS, part 6: the element  len([y for y in x if y not in l]) <= n  in a generator's frame. -/
namespace Sh
open PySem PySem.Spec PyProof.Rows L2 GxR
section
variable {X : Cx} {pins : List (Addr × Obj)} {σ : L2.St} {H : Hp} {s : Shared}
/-- the raw value of a captured name -/
theorem cap_at {P : Addr} (I : Inv X pins σ H s) (hP : ∃ ps, H P = some (.tbl ps)) {i : Nat} {y : Str} {v : V} (hN : X.N[i]? = some y) (hσ : σ[i]? = some (some v)) (hc : X.env.scope.names.lookup y = some .cell) :
    ∃ c u, X.env.cells.lookup y = some c ∧ c ≠ P ∧ RelV v u ∧ s.heap.IsCell c (some u) := by
  obtain ⟨m, hn, hl⟩ := I.loc
  obtain ⟨u, r, q⟩ := hl i y v hN hσ (.inr (.inl hc))
  rcases q with ⟨hk, _⟩ | ⟨_, c, hcl, hcell⟩
  · rw [show X.env.kindOf y = X.env.scope.names.lookup y from rfl, hc] at hk
    cases hk
  · refine ⟨c, u, hcl, fun e => ?_, r, hcell⟩
    obtain ⟨ps, hp⟩ := hP
    have := I.freeC y c hcl
    rw [e, hp] at this
    cases this
/-- what the tests of the turns are -/
def Fits (ir il : Nat) : L2.St → Hp → List V → (Nat → Bool) → Prop := fun σ H xs tb => ∃ (R : Int) (l : Addr) (less : List Str), σ[ir]? = some (some (.int R)) ∧ σ[il]? = some (some (.ref l)) ∧ H l = some (.lst (less.map V.str)) ∧
  ∀ i x, xs[i]? = some x → ∃ (t : Addr) (ys : List Str), x = .ref t ∧ H t = some (.tup (ys.map V.str)) ∧ tb i = decide ((((ys.filter fun y => !decide (y ∈ less)).length : Nat) : Int) ≤ R)
def pOut (less : List Str) (v : Value) : Bool := match v with
  | .str y _ => !decide (y ∈ less)
  | _ => false
theorem filter_out {less : List Str} : ∀ {ys : List Str} {vs : List Value}, Vals (ys.map V.str) vs → (vs.filter (pOut less)).length = (ys.filter fun y => !decide (y ∈ less)).length
  | [], _, .nil => rfl
  | y :: ys, _, .cons r t => by
    obtain ⟨k, rfl⟩ := r
    have ih := filter_out (less := less) t
    have e : pOut less (.str y k) = !decide (y ∈ less) := rfl
    rw [List.filter_cons, List.filter_cons, e]
    split
    · rw [List.length_cons, List.length_cons, ih]
    · exact ih
theorem flat_strs (ys : List Str) : (ys.map V.str).all flatV = true := by
  rw [List.all_eq_true]
  intro x hx
  obtain ⟨y, _, rfl⟩ := List.mem_map.mp hx
  rfl
theorem inV_strs (y : Str) (ys : List Str) : ((ys.map V.str).any fun z => eqV z (.str y)) = decide (y ∈ ys) := by
  induction ys with
  | nil => rfl
  | cons a r ih =>
    rw [List.map_cons, List.any_cons, ih]
    have e : eqV (.str a) (.str y) = decide (a = y) := by
      show (a == y) = decide (a = y)
      by_cases q : a = y
      · subst q; simp
      · rw [decide_eq_false q]; exact beq_eq_false_iff_ne.mpr q
    rw [e]
    by_cases q : a = y
    · subst q; simp
    · have q' : ¬ y = a := fun z => q z.symm
      simp [q, q']
theorem elt_fits {P : Addr} {scope sc2 : Scope} {ir il : Nat} {x o lz rz : Str} {p1 p2 p3 p4 p5 p6 p7 p8 p9 p10 p11 : Pos}
    (TB : GxR.TabB X.base X.mg P P ∨ ∃ c, GxR.TabB X.base X.mg c P) (hml : X.mg "len" = none)
    (k1 : scope.kind = .function) (hx : scope.names.lookup x = some .local) (hll : scope.names.lookup lz = some .free) (hlr : scope.names.lookup rz = some .free) (hlen : scope.names.lookup ("len" : Str) = some .globalImplicit)
    (k2 : sc2.kind = .function) (hcell2 : ∀ y ∈ sc2.names, y.2 ≠ .cell) (hu2 : ∀ y ∈ sc2.names, y.2 = .local → sc2.names.lookup y.1 = some .local) (ho2 : sc2.names.lookup o = some .local) (hf2 : ∀ y ∈ sc2.names, y.2 = .free → y.1 = lz)
    (hrel : ∀ e : Env, e.scope = scope → (relabel sc2 e).names.lookup lz = some .free) (hrel2 : ∀ e : Env, e.scope = scope → (relabel sc2 e).names.lookup o = some .local)
    (hl2 : (lz, NameKind.free) ∈ sc2.names) (hfl : (lz, NameKind.free) ∈ scope.names) (hfr : (rz, NameKind.free) ∈ scope.names)
    (nr : X.N[ir]? = some rz) (nl : X.N[il]? = some lz) (cr : X.env.scope.names.lookup rz = some .cell) (cl : X.env.scope.names.lookup lz = some .cell)
    (dx : (x == ("__debug__" : Str)) = false) (dq : (o == ("__debug__" : Str)) = false) (dl : (lz == ("__debug__" : Str)) = false) (dr : (rz == ("__debug__" : Str)) = false) (cll : (lz == ("__classdict__" : Str)) = false) (clr : (rz == ("__classdict__" : Str)) = false) :
    ∀ (pins : List (Addr × Obj)) (s1 : Shared) (σ : L2.St) (H1 : Hp) (xs : List V) (its : List Value) (tb : Nat → Bool), Inv X pins σ H1 s1 → GxR.TabG H1 P → Vals xs its → Fits ir il σ H1 xs tb →
      EltL X s1 P scope x (.Compare (.Call (.Name "len" p1) [.ListComp (.Name o p2) [⟨.Name o p3, .Name x p4, [.Compare (.Name o p5) [.NotIn] [.Name lz p6] p7], 0⟩] sc2 p8] [] p9) [.LtE] [.Name rz p10] p11) its tb := by
  intro pins s1 σ H1 xs its tb I tg rv ok cenv A' E' i v s2 m2 ec ecl eg eb hA hv hn hm hk
  obtain ⟨R, l, less, hr, hl, hH, hit⟩ := ok
  obtain ⟨ps, hP, _⟩ := tg
  have hgP : mainGlobals ≠ P := by
    rcases TB with T | ⟨c, T⟩ <;> exact T.gP
  -- the item
  have hi : i < xs.length := by rw [rv.length]; exact (List.getElem?_eq_some_iff.mp hv).1
  obtain ⟨t, ys, ex, ht, etb⟩ := hit i _ (List.getElem?_eq_getElem hi)
  obtain ⟨v', hv', rel⟩ := rv.get (List.getElem?_eq_getElem hi)
  rw [hv] at hv'
  cases hv'
  rw [ex] at rel
  obtain rfl : v = Value.ref t := rel
  have ntP : t ≠ P := ne_of ht hP (by intro z; cases z)
  have nlP : l ≠ P := ne_of hH hP (by intro z; cases z)
  obtain ⟨_, yvs, ry, ot, hot, hct, nt, hdt⟩ := (show ObjOk X.prog X.w H1 s1.heap t (.tup (ys.map V.str)) from I.hok t _ ht)
  obtain ⟨_, lvs, n2, rl, hol⟩ := (show ObjOk X.prog X.w H1 s1.heap l (.lst (less.map V.str)) from I.hok l _ hH)
  obtain ⟨cR, uR, c1, c2, c3, c4⟩ := cap_at I ⟨ps, hP⟩ nr hr cr
  obtain ⟨cL, uL, d1, d2, d3, d4⟩ := cap_at I ⟨ps, hP⟩ nl hl cl
  obtain ⟨tR, rfl⟩ := (show ∃ t, uR = Value.int R t from c3)
  obtain rfl : uL = Value.ref l := d3
  have cells : ∀ {y : Str} {c : Addr}, (y, NameKind.free) ∈ scope.names → X.env.cells.lookup y = some c → cenv.cells.lookup y = some c := fun {y c} hm hc => by
    rw [ecl]
    obtain ⟨c', hc'⟩ := mem_lookup (cloFrom_has (cells := X.env.cells) (acc := []) hm)
    rcases cloFrom_mem (PySem.mem_of_lookup hc') with z | ⟨_, z⟩
    · cases z
    · rw [hc', z, hc] <;> rfl
  have kR : cenv.cells.lookup rz = some cR := cells hfr c1
  have kL : cenv.cells.lookup lz = some cL := cells hfl d1
  have ck : cenv.scope.kind = .function := by rw [ec]; exact k1
  -- len([..]) <= n
  refine wpAny_Compare1 ?_
  refine wpAny_Call_Name_kw (Calls.Name_function_global ck (show cenv.scope.names.lookup _ = _ by rw [ec]; exact hlen) ?_ (by decide))
  have gl : s2.heap.Ns cenv.globals X.mg := by
    rw [eg, I.ok.glob]
    obtain ⟨ob, es, ep, h1, h2⟩ := I.mod.glob.keeps I.bk
    exact ⟨ob, es, ep, hk _ _ hgP h1, h2⟩
  obtain ⟨mb, hb1, hb2⟩ := I.mod.blt
  have bl : s2.heap.Ns cenv.builtins mb := by
    rw [eb]
    obtain ⟨ob, es, ep, h1, h2, h3⟩ := hb1.keeps I.bk
    refine ⟨ob, es, ep, hk _ _ (fun e => ?_) h1, h2, h3⟩
    have q : s1.heap.get? P = some { cls := .none, data := .fields ps } := I.hok P _ hP
    rw [← e, h1] at q
    cases q
    cases h2
  refine Calls.loadGlobal_builtin gl hml bl ((hb2 _ (by decide)).trans PySem.boot_len) ?_
  refine PyProof.Rows.callWith_builtin1 (PyProof.Rows.args_cons ?_ rfl) rfl rfl
  -- the comprehension
  have hclos : closureFor sc2 cenv = pure (cloFrom cenv.cells sc2.names []) := closure_ok fun y hy e => by
    rw [hf2 y hy e]
    exact ⟨cL, kL⟩
  have kL2 : (cloFrom cenv.cells sc2.names []).lookup lz = some cL := by
    obtain ⟨c', hc'⟩ := mem_lookup (cloFrom_has (cells := cenv.cells) (acc := []) hl2)
    rcases cloFrom_mem (PySem.mem_of_lookup hc') with z | ⟨_, z⟩
    · cases z
    · rw [hc', z, kL] <;> rfl
  refine wpAny_ListComp_free (pOut less) (fun v y => y = v) hclos hcell2 k2 hu2 ho2 ?_
  refine wpAny_Name (wpAny_loadName_local ck (show cenv.scope.names.lookup _ = _ by rw [ec]; exact hx) hn hm ?_) dx
  have ht2 : s2.heap.IsTuple t yvs.toArray := ⟨ot, hk _ _ ntP hot, hct, nt, hdt⟩
  have hl2' : s2.heap.IsList l lvs.toArray := ⟨_, hk _ _ nlP hol, rfl, n2, rfl⟩
  have htl : t < s2.heap.objs.size := Heap.lt_size (hk _ _ ntP hot)
  have cell2 : s2.heap.IsCell cL (some (.ref l)) := by
    obtain ⟨oc, h1, h2⟩ := d4
    exact ⟨oc, hk _ _ d2 h1, h2⟩
  refine wpAny_pyIter_tuple ht2 ?_
  generalize hN : ({ cls := .type "tuple_iterator", data := .fields #[.ref t, .int 0 0] } : Obj) = N
  have keepN : ∀ b u, s2.heap.get? b = some u → (s2.heap.push N).get? b = some u := fun b u e => Heap.get?_push_of_some _ e
  have isz : (s2.heap.push N).objs.size = s2.heap.objs.size + 1 := Heap.size_push ..
  have hlen2 : yvs.length = ys.length := by rw [← ry.length, List.length_map]
  refine ⟨s2.heap.objs.size, [s2.heap.objs.size, t], [s2.heap.objs.size], yvs.toArray.size, (fun i v => yvs.toArray[i]? = some v), (fun i h => h.IsTupleIter s2.heap.objs.size t i ∧ h.IsTuple t yvs.toArray), rfl,
    Walks.tuple hA _ t (Nat.ne_of_lt htl) yvs.toArray, ?_, ⟨⟨N, Heap.get?_push_size _ (by rw [← hN]; rfl), by rw [← hN], by rw [← hN]; rfl⟩, ht2.at fun o e => keepN _ _ e⟩, ?_, ⟨?_, ?_⟩, ?_⟩
  · rw [List.size_toArray, hlen2]
    have : (ys.map V.str).length ≤ sizeLine := by assumption
    rw [List.length_map] at this
    exact this
  · intro b hb
    rcases List.mem_cons.mp hb with z | z
    · rw [z]
      show s2.heap.objs.size < (s2.heap.push N).objs.size
      rw [isz]
      exact Nat.lt_succ_self _
    · rcases List.mem_cons.mp z with z | z
      · rw [z]
        show t < (s2.heap.push N).objs.size
        rw [isz]
        exact Nat.lt_succ_of_lt htl
      · cases z
  · intro C j w' s3 m3 E3 hC hw hn3 hm3 hk3 _
    have hw' : yvs[j]? = some w' := by simpa using hw
    have hj : j < ys.length := by rw [← hlen2]; exact (List.getElem?_eq_some_iff.mp hw').1
    obtain ⟨u, hu, k, ru⟩ := ry.get (i := j) (x := V.str ys[j]) (by rw [List.getElem?_map, List.getElem?_eq_getElem hj]; rfl)
    rw [hw'] at hu
    cases hu
    subst ru
    have old : ∀ b u, s2.heap.get? b = some u → s3.heap.get? b = some u := fun b u e => hk3 b u (fun z => by
      rcases List.mem_cons.mp z with z | z
      · have := Heap.lt_size e
        rw [z] at this
        exact Nat.lt_irrefl _ this
      · cases z) (keepN b u e)
    refine wpAny_tests_one (wpAny_isTrue_Compare1 ?_)
    refine wpAny_Name (wpAny_loadName_local k2 (hrel2 cenv ec) hn3 hm3 ?_) dq
    refine wpAny_Name (wpAny_loadName_free k2 (hrel cenv ec) kL2 (show s3.heap.IsCell cL (some (.ref l)) from let ⟨oc, h1, h2⟩ := cell2; ⟨oc, old _ _ h1, h2⟩) ?_ cll) dl
    have hl3 : s3.heap.IsList l lvs.toArray := hl2'.at fun o e => old _ _ e
    refine SeqAt.notIn_listAt (eqU (.str ys[j])) hl3 (fun z hz => mem_eqAt (x := V.str ys[j]) ⟨k, rfl⟩ rfl rl (flat_strs less) z (by simpa using hz)) ?_
    refine wpAny_truthy_bool ⟨?_, keeps_refl _⟩
    have e1 : (lvs.toArray.any (eqU (.str ys[j]))) = decide (ys[j] ∈ less) := by
      rw [show lvs.toArray.any (eqU (.str ys[j])) = lvs.any (eqU (.str ys[j])) by simp, any_eqU rl (flat_strs less), inV_strs]
    rw [e1]
    rfl
  · intro C j w' s3 m3 E3 hC hw _ hn3 hm3 hk3 _
    exact wpAny_Name (wpAny_loadName_local k2 (hrel2 cenv ec) hn3 hm3 ⟨rfl, keeps_refl _⟩) dq
  · intro D h' tk zs vs hDn hD _ hvl hvP hF hk3
    have ev : vs = yvs := by
      refine List.ext_getElem? fun j => ?_
      by_cases hj : j < vs.length
      · have := hvP j _ (List.getElem?_eq_getElem hj)
        rw [List.getElem?_eq_getElem hj, ← this]
        simp
      · rw [List.getElem?_eq_none (by omega), List.getElem?_eq_none (by rw [hvl, List.size_toArray] at hj; omega)]
    subst ev
    have hz : zs.size = (ys.filter fun y => !decide (y ∈ less)).length := by
      rw [← filter_out ry, ← Array.length_toList, ← hF.length]
    have hzl : zs.size ≤ ys.length := by rw [hz]; exact List.length_filter_le _ _
    have hsl : (ys.map V.str).length ≤ sizeLine := by assumption
    rw [List.length_map] at hsl
    refine PyProof.Rows.args_nil ?_
    refine Calls.call_len_list hD (by have : (sizeLine : Nat) < 2 ^ 63 := by decide
                                      omega) ?_
    have old : ∀ b u, s2.heap.get? b = some u → h'.get? b = some u := fun b u e => hk3 b u (fun z => by
      rcases List.mem_cons.mp z with z | z
      · have := Heap.lt_size e
        rw [z] at this
        exact Nat.lt_irrefl _ this
      · cases z) (keepN b u e)
    refine wpAny_Name (wpAny_loadName_free ck (show cenv.scope.names.lookup _ = _ by rw [ec]; exact hlr) kR (show Heap.IsCell h' cR (some (.int R tR)) from let ⟨oc, h1, h2⟩ := c4; ⟨oc, old _ _ (hk _ _ c2 h1), h2⟩) ?_ clr) dr
    refine PyProof.Rows.le_int ?_
    refine ⟨?_, h', _, rfl, old⟩
    rw [etb, hz]
end
end Sh
end

section
set_option Elab.async false
set_option linter.all false
set_option maxRecDepth 100000
set_option maxHeartbeats 4000000
/-! Rules of my own over HandS, part 7: sorted(xs, key=lambda y: 0 - d[y]), xs texts. -/
namespace Sh
open PySem PySem.Spec PyProof.Rows L2 GxR
/-- what the table at P tells of the place pos is a code object of the name q -/
def TabQ (H : Hp) (P : Addr) (pos : Pos) (q : Str) : Prop := ∃ ps : Array Value, H P = some (.tbl ps) ∧ TriplesOk ps.toList ∧ ∀ cv, codeAmong pos ps.toList = some cv → ∃ c, cv = .ref c ∧ H c = some (LamX.CodeO c q)
theorem TabQ.nil {H : Hp} {P : Addr} {pos : Pos} {q : Str} (h : H P = some (.tbl #[])) : TabQ H P pos q := ⟨#[], h, True.intro, fun cv hc => by
  have z : codeAmong pos [] = some cv := hc
  simp [codeAmong] at z⟩
theorem TabQ.tab {H : Hp} {P : Addr} {pos : Pos} {q : Str} (t : TabQ H P pos q) : TabG H P := let ⟨ps, h1, h2, _⟩ := t; ⟨ps, h1, h2⟩
theorem TabQ.ext {H H' : Hp} {P : Addr} {pos : Pos} {q : Str} (t : TabQ H P pos q) (e : ∀ b o, H b = some o → H' b = some o) : TabQ H' P pos q := by
  obtain ⟨ps, h1, h2, h3⟩ := t
  refine ⟨ps, e _ _ h1, h2, fun cv hc => ?_⟩
  obtain ⟨c, e1, e2⟩ := h3 cv hc
  exact ⟨c, e1, e _ _ e2⟩
theorem TabQ.grown {H H' : Hp} {P : Addr} {pos g : Pos} {q : Str} (t : TabQ H P pos q) (e : Grown P g H H') (n : g.line ≠ pos.line ∨ g.col ≠ pos.col) : TabQ H' P pos q := by
  obtain ⟨ps, h1, h2, h3⟩ := t
  obtain ⟨⟨ps', more, e1, e2, e3, e4⟩, e5⟩ := e
  rw [h1] at e1
  cases e1
  have keep : ∀ c, H c = some (LamX.CodeO c q) → H' c = some (LamX.CodeO c q) := fun c hc => by
    rw [e5 c (fun z => by rw [z, h1] at hc; exact LamX.codeO_ne _ (Option.some.inj hc).symm)]
    exact hc
  refine ⟨_, e2, e3, fun cv hc => ?_⟩
  rcases e4 with e4 | ⟨c, e4⟩
  · subst e4
    obtain ⟨c, a, b⟩ := h3 cv (by simpa using hc)
    exact ⟨c, a, keep c b⟩
  · subst e4
    have eL : (ps ++ #[rawInt g.line, rawInt g.col, c]).toList = ps.toList ++ [rawInt g.line, rawInt g.col, c] := by simp
    rw [eL] at hc
    rcases NdefX.among_app2 _ h2 hc with z | ⟨_, z1, z2⟩
    · obtain ⟨c, a, b⟩ := h3 cv z
      exact ⟨c, a, keep c b⟩
    · rcases n with n | n
      · exact absurd z1 n
      · exact absurd z2 n
section
variable {X : Cx} {pins : List (Addr × Obj)} {σ : L2.St} {H : Hp} {s : Shared}
theorem lam_make3 {c P : Addr} {params : Arguments} {body : Expr} {scope : Scope} {pos : Pos} {E : Value → Shared → Prop} {Q : Value → Shared → Prop} (I : Inv X pins σ H s) (TB : GxR.TabB X.base X.mg c P) (hcode : X.env.code = .ref c)
    (hT : TabQ H P pos (X.env.qual ++ "<lambda>")) (hdef : defaultsOf params X.env = ([], [])) (hfree : ∀ y ∈ scope.names, y.2 = .free → ∃ c, X.env.cells.lookup y.1 = some c)
    (h : ∀ (f c' : Addr) (pm ctv : Value) (H1 : Hp) (s' : Shared), Inv X pins σ H1 s' → LamX.ExtN H H1 → TabQ H1 P pos (X.env.qual ++ "<lambda>") →
      s'.heap.get? f = some (PySem.W.kla_obj "<lambda>" (X.env.qual ++ "<lambda>") params body scope (cloFrom X.env.cells scope.names []) pm c' ctv) → H1 f = none → (∀ p, H1 p = none → H p = none) → H1 c' = some (LamX.CodeO c' (X.env.qual ++ "<lambda>")) → Q (.ref f) s') :
    wpAny (model X.prog X.w) X.A (eval (.Lambda params body scope pos) X.env) Q E s := by
  obtain ⟨ps, hP, ht, ha⟩ := hT
  refine PySem.W.kla_eval hdef ?_
  have bP : s.heap.BuiltinsAt X.mg P := TB.bm.keeps I.bk
  have hP' : s.heap.get? P = some { cls := .none, data := .fields ps } := I.hok P _ hP
  cases hc : codeAmong pos ps.toList with
  | none =>
    refine PySem.W.kla_makeFunction (mg := X.mg) (c := c) (P := P) (ps := ps) (closure_ok hfree) I.ok.glob (I.mod.glob.keeps I.bk) hcode (TB.code.keeps I.bk) hP' ht hc TB.gP bP fun c' ctv h' tk hx hge hlt hrec htb => ?_
    obtain ⟨c2, oc, vs, t, e2, hoc, hd, hv⟩ := hrec
    cases e2
    have hsz : s.heap.objs.size ≤ h'.objs.size := Nat.le_trans hge (Nat.le_of_lt hlt)
    have nC : H c' = none := I.hok.fresh hge
    have I1 := LamX.inv_table (t' := tk) (more := #[rawInt pos.line, rawInt pos.col, .ref c']) (h' := h'.push (PySem.W.kla_obj "<lambda>" (X.env.qual ++ "<lambda>") params body scope (cloFrom X.env.cells scope.names []) ((X.mg "__name__").getD .none) c' ctv)) I hP
      (fun b o hb e => Heap.get?_push_of_some _ (hx b o hb e)) (Heap.get?_push_of_some _ htb) hge ⟨oc, vs, t, Heap.get?_push_of_some _ hoc, hd, hv⟩
    have hE : LamX.ExtN H (upd (upd H P (.tbl (ps ++ #[rawInt pos.line, rawInt pos.col, .ref c']))) c' (LamX.CodeO c' (X.env.qual ++ "<lambda>"))) := fun b o e n => by
      rw [upd_ne (ne_of_none e nC), upd_ne (fun z => n ps (Option.some.inj (e.symm.trans (by rw [z]; exact hP))))]
      exact e
    have eL : (ps ++ #[rawInt pos.line, rawInt pos.col, .ref c']).toList = ps.toList ++ [rawInt pos.line, rawInt pos.col, .ref c'] := by simp
    refine h h'.objs.size c' ((X.mg "__name__").getD .none) ctv _ _ I1 hE ?_ (Heap.get?_push_size _ rfl) ?_ (fun p hp => ?_) upd_same
    · refine ⟨_, by rw [upd_ne (ne_of_none hP nC), upd_same], by rw [eL]; exact PySem.TriplesOk_snoc _ _ _ _ ht, fun cv hcv => ?_⟩
      rw [eL] at hcv
      rcases LamX.among_app _ ht hcv with z | z
      · obtain ⟨c0, e1, e2⟩ := ha cv z
        exact ⟨c0, e1, hE _ _ e2 LamX.codeO_ne⟩
      · exact ⟨c', z, upd_same⟩
    · have n1 : h'.objs.size ≠ c' := Nat.ne_of_gt hlt
      have n2 : h'.objs.size ≠ P := Nat.ne_of_gt (Nat.lt_of_lt_of_le (Heap.lt_size hP') hsz)
      rw [upd_ne n1, upd_ne n2]
      exact I.hok.fresh hsz
    · by_cases h1 : p = c'
      · rw [h1, upd_same] at hp
        cases hp
      · rw [upd_ne h1] at hp
        by_cases h2 : p = P
        · rw [h2, upd_same] at hp
          cases hp
        · rw [upd_ne h2] at hp
          exact hp
  | some cv =>
    obtain ⟨c', e, hco⟩ := ha cv hc
    subst e
    refine PySem.W.kla_makeFunctionHit (mg := X.mg) (c := c) (P := P) (ps := ps) (closure_ok hfree) I.ok.glob (I.mod.glob.keeps I.bk) hcode (TB.code.keeps I.bk) hP' ht hc bP fun ctv h' tk hx hsz => ?_
    have I1 : Inv X pins σ H { s with heap := h'.push (PySem.W.kla_obj "<lambda>" (X.env.qual ++ "<lambda>") params body scope (cloFrom X.env.cells scope.names []) ((X.mg "__name__").getD .none) c' ctv), toks := tk } := I.kept fun b o e => Heap.get?_push_of_some _ (hx b o e)
    exact h h'.objs.size c' ((X.mg "__name__").getD .none) ctv H _ I1 (LamX.ExtN.refl H) ⟨ps, hP, ht, ha⟩ (Heap.get?_push_size _ rfl) (I.hok.fresh hsz) (fun _ e => e) hco
end
end Sh
end

section
set_option Elab.async false
set_option linter.all false
set_option maxRecDepth 100000
set_option maxHeartbeats 4000000
/-! Rules of my own over HandS, part 8: sorted(xs, key=lambda y: 0 - d[y]), xs texts. -/
namespace Sh
open PySem PySem.Spec PyProof.Rows L2 GxR
section
variable {X : Cx} {pins : List (Addr × Obj)} {σ : L2.St} {H : Hp} {s : Shared}
def isS (v : Value) (y : Str) : Prop := ∃ t, v = .str y t
theorem vals_each {ys : List Str} {us : List Value} (r : Vals (ys.map V.str) us) : PySem.W.EachIs isS us ys := by
  induction ys generalizing us with
  | nil => cases r; exact .nil
  | cons y ys ih => cases r with
    | cons a b => exact .cons a (ih b)
theorem each_vals : ∀ {us : List Value} {ys : List Str}, PySem.W.EachIs isS us ys → Vals (ys.map V.str) us
  | _, _, .nil => .nil
  | _, _, .cons a b => .cons a (each_vals b)
/-- sorted(xs, key=lambda y: 0 - d[y]) -/
def tSortL (K : PySem.W.Frag) (P : Addr) (lpos : Pos) (q : Str) (iw : Nat) (te : TE) : TE := fun σ H Q => te σ H fun v H1 => ∃ (l d : Addr) (ys : List Str) (kvs : List (Key × V)) (wt : Str → Int), v = .ref l ∧ H1 l = some (.lst (ys.map V.str)) ∧ ys.length ≤ 1000 ∧ σ[iw]? = some (some (.ref d)) ∧ H1 d = some (.dK kvs) ∧
  (∀ y ∈ ys, valV kvs (Sum.inr y) = some (.int (wt y))) ∧ TabQ H1 P lpos q ∧ ∀ H2 p (zs : List Str), H1 p = none → zs.Perm ys → LamX.ExtN H1 H2 → TabQ H2 P lpos q → H2 p = some (.lst (zs.map V.str)) → Q (.ref p) H2
theorem pe_sortL {c P : Addr} {params : Arguments} {scope : Scope} {o w : Str} {e : Expr} {te : TE} {k iw j : Nat} {p p3 p4 p5 p6 p7 pos lpos kpos : Pos}
    (hr : Room k X.A) (hg : Gl X "sorted") (hm : X.mg "sorted" = none) (hb : bootBuiltins "sorted" = some (.builtin "sorted")) (TB : GxR.TabB X.base X.mg c P) (hcode : X.env.code = .ref c) (hi : PE X e te)
    (hdef : defaultsOf params X.env = ([], [])) (sk : scope.kind = .function) (sco : scope.isCoroutine = false) (sg : scope.isGenerator = false) (scell : ∀ y ∈ scope.names, y.2 ≠ .cell) (so : scope.names.lookup o = some .local) (sw : scope.names.lookup w = some .free)
    (sw2 : (w, NameKind.free) ∈ scope.names) (sfree : ∀ y ∈ scope.names, y.2 = .free → y.1 = w)
    (nw : X.N[iw]? = some w) (cw : X.env.scope.names.lookup w = some .cell)
    (hbind : ∀ (q : Str) (cl : List (Str × Addr)) (pm cv ctv v : Value), bindArgs (PySem.W.kla_fn "<lambda>" q params (.BinOp (.Constant (.int 0) j p3) .Sub (.Subscript (.Name w p4) (.Name o p5) p6) p7) scope cl pm cv ctv) ⟨[v], []⟩ = pure [(o, v)])
    (dw : (w == ("__debug__" : Str)) = false) (d_o : (o == ("__debug__" : Str)) = false) (cdw : (w == ("__classdict__" : Str)) = false)
    (he : backTo pos (starEach [e] X.env) = (false, eval e X.env) :: backTo pos (starEach [] X.env) := by rfl) :
    PE X (.Call (.Name "sorted" p) [e] [⟨some "key", .Lambda params (.BinOp (.Constant (.int 0) j p3) .Sub (.Subscript (.Name w p4) (.Name o p5) p6) p7) scope lpos, kpos⟩] pos) (tSortL X.K P lpos (X.env.qual ++ "<lambda>") iw te) := by
  refine ⟨fun pins s σ H Q I h => ?_⟩
  refine wpAny_Call_Name_kw (ld_blt I hg hm hb ?_)
  refine PyProof.Rows.callWith_kw ?_ he (by rw [he]; rfl) (by rfl) (by rfl)
  rw [he]
  refine Calls.spliced_cons (thn (hi.run pins s σ H _ I h) fun xv s1 ⟨v, H1, I1, r1, q1⟩ => ?_)
  refine Calls.spliced_nil ?_
  obtain ⟨l, d, ys, kvs, wt, rfl, hL, hyl, hσ, hd, hwt, hT, q1⟩ := q1
  cases r1
  show wpAny _ _ (evalAll ((do let v ← eval (.Lambda params (.BinOp (.Constant (.int 0) j p3) .Sub (.Subscript (.Name w p4) (.Name o p5) p6) p7) scope lpos) X.env; standAt pos; pure v) :: [])) _ _ s1
  have hfree : ∀ y ∈ scope.names, y.2 = .free → ∃ c, X.env.cells.lookup y.1 = some c := fun y hy e => by
    rw [sfree y hy e]
    exact I1.ok.has _ (.inl cw)
  refine wpAny_evalAll_cons (wpAny_bind (lam_make3 I1 TB hcode hT hdef hfree fun f c' pm ctv H2 s2 I2 eN T2 hf hfn hnn hco => wpAny_bind (wpAny_standAt (wpAny_pure ?_))))
  refine wpAny_evalAll_nil ?_
  show wpAny _ _ (call (.builtin "sorted") [.ref l] [(Str.ofString "key", .ref f)]) _ _ s2
  have hL2 : H2 l = some (.lst (ys.map V.str)) := eN _ _ hL (fun _ z => by cases z)
  have hd2 : H2 d = some (.dK kvs) := eN _ _ hd (fun _ z => by cases z)
  obtain ⟨hz, lvs, n2, rl, hol⟩ := (show ObjOk X.prog X.w H2 s2.heap l (.lst (ys.map V.str)) from I2.hok l _ hL2)
  obtain ⟨z, hdm, va, ra, da⟩ := dk_of I2.hok hd2
  obtain ⟨⟨oc, vs, t, hoc, hdc, hvc⟩, _, _⟩ := I2.hok c' _ hco
  obtain ⟨cW, uW, c1, c2, c3, c4⟩ := cap_at I2 (let ⟨ps, e, _⟩ := T2.tab; ⟨ps, e⟩) nw hσ cw
  obtain rfl : uW = Value.ref d := c3
  have hrl : ys.length ≤ sizeLine := Nat.le_of_lt (small1000 hyl)
  refine PySem.W.sorted_key_data (b := false) (R := isS) (bs := ys) (vs := lvs) (fun y : Str => PyData.int (0 - wt y)) ⟨_, hol, rfl, n2, rfl⟩ (vals_each rl) (PySem.W.AllAlike.of fun _ _ => by simp [PySem.W.alike]) (PySem.W.Sortable.others fun _ => ⟨by simp, by simp⟩) hrl (fun y _ => ?_) (PyProof.Rows.ksk_s1 _ _) (fun _ => PyProof.Rows.ksk_l1 _ _) (fun _ => PyProof.Rows.ksk_t1 _ _) ?turn fun out c0 h' tk kp hn0 hD hlen eo => ?_
  case turn =>
    intro v y ⟨tv, ev⟩ hy h tk kp
    subst ev
    have hwy := hwt y hy
    refine wpAny_call (PySem.W.kla_callFunE (by have := hr.dp; show X.A.depth < _; omega) (kp _ _ hf) rfl sco sg rfl ⟨c', oc, vs, t, rfl, kp _ _ hoc, hdc, hvc⟩ ?_)
    rw [hbind]
    refine wpAny_pure (wpAny_newFunctionEnv scell (fun y hy => ?_) (fun h₁ hns hsb => ⟨(I2.nolimit.keeps kp).fresh _ hsb, ?_⟩) sk)
    · rcases List.mem_cons.mp hy with e | e
      · rw [e]; exact so
      · cases e
    have kp1 : ∀ b o, h.get? b = some o → h₁.get? b = some o := fun b o e => hsb.extBut b o (Nat.ne_of_lt (Heap.lt_size e)) (Heap.get?_push_of_some _ e)
    have kp2 : ∀ b o, s2.heap.get? b = some o → h₁.get? b = some o := fun b o e => kp1 b o (kp b o e)
    have dd : Heap.DictOf (mixKind X.prog X.w) h₁ d va := PySem.Heap.DictOf.keep da kp2
    have cell : Heap.IsCell h₁ cW (some (.ref d)) := let ⟨oc, h1, h2⟩ := c4; ⟨oc, kp2 _ _ h1, h2⟩
    obtain ⟨cW', hcW'⟩ := mem_lookup (cloFrom_has (cells := X.env.cells) (acc := []) sw2)
    have ecW : cW' = cW := by
      rcases cloFrom_mem (PySem.mem_of_lookup hcW') with z | ⟨_, z⟩
      · cases z
      · rw [z, c1] <;> rfl
    subst ecW
    refine PySem.W.kla_codeExpr (wpAny_BinOp (wpAny_Constant_int ?_))
    refine subD_of (T := "dict") PySem.F.slot_dict_getitem.lookup (fun _ _ => rfl) ?_
    refine wpAny_Name (wpAny_loadName_free sk sw hcW' cell ?_ cdw) dw
    refine wpAny_Name (wpAny_loadName_local sk so hns (by show List.lookup o [(o, _)] = some _; rw [List.lookup_cons_self]) ?_) d_o
    refine ⟨Heap.DictOf.typeIs dd, ?_⟩
    obtain ⟨u, hu, ru⟩ := RelO.some_of (v := V.int (wt y)) (o := valueAt va (Sum.inr y)) (by rw [← hwy]; exact ra.val _)
    obtain ⟨tu, rfl⟩ := ru
    refine wpAny_getItem_of (kV_is (k := Sum.inr y) ⟨tv, rfl⟩) dd.mapOf hu ?_
    refine sub_int ?_
    exact ⟨_, _, rfl, fun b o e => kp1 b o e, .int _ _⟩
  · have h1 : (PyData.int (0 - wt y)).depth = 0 := by simp [PyData.depth]
    rw [h1]
    have := hr.un
    show X.A.units + 2 + 0 < cLine
    omega
  · have hp0 : H2 (s2.heap.objs.size + 1) = none := I2.hok.fresh (Nat.le_succ _)
    have rv := each_vals eo
    have hzl : ((ys.mergeSort (PySem.W.dataLe false fun y => PyData.int (0 - wt y))).map V.str).length ≤ sizeLine := by rw [List.length_map, (List.mergeSort_perm _ _).length_eq]; exact hrl
    have J := I2.laid (t' := tk) (a := s2.heap.objs.size + 1) (o := .lst ((ys.mergeSort (PySem.W.dataLe false fun y => PyData.int (0 - wt y))).map V.str)) (h' := h') kp (Nat.le_succ _) ⟨hzl, out, c0, rv, hD⟩
    refine ⟨.ref _, _, J, rfl, q1 _ _ _ (hnn _ hp0) (List.mergeSort_perm _ _) ?_ (T2.ext fun b o e => ?_) upd_same⟩
    · exact eN.trans fun b o e _ => by rw [upd_ne (ne_of_none e hp0)]; exact e
    · rw [upd_ne (ne_of_none e hp0)]; exact e
end
end Sh
end

section
set_option Elab.async false
set_option linter.all false
set_option maxRecDepth 100000
set_option maxHeartbeats 4000000
/-! The program's texts, how its defs are called, its data. -/
namespace Sh
open PySem PySem.Spec PyProof.Rows L2 Evl
def top (i : Nat) : Stmt := PySem.Challenge.pw_stopsheld_k10_spilled_fit.main.body.getD i (.Pass ⟨0, 0, 0, 0⟩)
def inCl (st : Stmt) (i : Nat) : Stmt := match st with
  | .ClassDef _ _ _ b .. => b.getD i (.Pass ⟨0, 0, 0, 0⟩)
  | _ => .Pass ⟨0, 0, 0, 0⟩
abbrev FnP (K : PySem.W.Frag) (x q : Str) (st : Stmt) (f : Addr) (fd : FuncData) : Prop := FunD K x q (defArgs st) (defBody st) (defScope st) [] [] f fd
/-- a def that may be called by its name -/
structure Cal (P : Program) (w : World) (K : PySem.W.Frag) (mg : Str → Option Value) (base : Heap) (x : Str) (k : Nat) (ps : List Str) (sp : Sp) : Prop where
  ex : ∃ (f : Addr) (fd : FuncData), FnOk P w K mg base CX0 k f fd ps sp ∧ mg x = some (.ref f) ∧ PySem.W.keepIn K (.ref f) = true ∧ Binds K fd ps []
theorem pe_cal {X : Cx} {k : Nat} {x : Str} {ps : List Str} {sp : Sp} {e : Expr} {es : List Expr} {p pos : Pos} {t : TA} (c : Cal X.prog X.w X.K X.mg X.base x k ps sp) (hr : Room k X.A) (hg : Gl X x) (ha : PA X (e :: es) t)
    (hdb : (x == ("__debug__" : Str)) = false := by decide) (he : starEach (e :: es) X.env = (false, eval e X.env) :: starEach es X.env := by rfl) (hpl : (backTo pos (starEach es X.env)).any (·.1) = false := by rfl) :
    PE X (.Call (.Name x p) (e :: es) [] pos) (tCall sp [] E0 t) := by
  obtain ⟨f, fd, F, hm, kp, b⟩ := c.ex
  exact pe_call F hr hg hm kp b .nil pass0 ha hdb he hpl
/-- the built-ins that the program calls -/
structure Blt (mg : Str → Option Value) : Prop where
  len : mg "len" = none
  range : mg "range" = none
  tuple : mg "tuple" = none
  list : mg "list" = none
  dict : mg "dict" = none
  enumerate : mg "enumerate" = none
  max : mg "max" = none
  min : mg "min" = none
  set : mg "set" = none
  str : mg "str" = none
  int : mg "int" = none
  all : mg "all" = none
  sorted : mg "sorted" = none

/-! ### the heap: all but tables stays; tuples stay -/
abbrev ExN := LamX.ExtN
def TX (H H' : Hp) : Prop := ∀ a xs, H a = some (.tup xs) → H' a = some (.tup xs)
theorem TX.refl (H : Hp) : TX H H := fun _ _ h => h
theorem TX.trans {H H1 H2 : Hp} (a : TX H H1) (b : TX H1 H2) : TX H H2 := fun c o h => b c o (a c o h)
theorem tx_n {H H' : Hp} (e : ExN H H') : TX H H' := fun a xs h => e a _ h fun _ z => by cases z
theorem tx {H H' : Hp} (e : Ex H H') : TX H H' := fun a xs h => e a _ h
/-- an object that is no tuple is written -/
theorem tx_upd {H : Hp} {p : Addr} {o : HO} (h : ∀ xs, H p ≠ some (.tup xs)) : TX H (upd H p o) := fun a xs e => by
  rw [upd_ne (fun z => h xs (by rw [← z]; exact e))]
  exact e
theorem tx_of {H : Hp} {p : Addr} {o u : HO} (h : H p = some u) (n : ∀ xs, u ≠ .tup xs) : TX H (upd H p o) := tx_upd fun xs z => n xs (Option.some.inj (h.symm.trans z))

/-! ### the program's data -/
inductive Row where
  | con (x : Str) (k : Int)
  | rd (x : Str)
  | pr (x : Str)
  | op (x o y z : Str)
  | ret (x : Str)
  | jmp (l : Str) (as : List Str)
  | br (x l1 : Str) (a1 : List Str) (l2 : Str) (a2 : List Str)
def dby : Row → Option Str
  | .con x _ => some x
  | .rd x => some x
  | .op x _ _ _ => some x
  | _ => none
def uses : Row → List Str
  | .op _ _ y z => [y, z]
  | .pr x => [x]
  | .ret x => [x]
  | .jmp _ as => as
  | .br x _ a1 _ a2 => x :: (a1 ++ a2)
  | _ => []
def targs : Row → List Str
  | .jmp l _ => [l]
  | .br _ l1 _ l2 _ => [l1, l2]
  | _ => []
def optV : Option Str → V
  | some x => .str x
  | none => .non
structure PB where
  name : Str
  params : List Str
  ins : List Row
  fin : Row
def TupAt (H : Hp) (v : V) (xs : List V) : Prop := ∃ a, v = .ref a ∧ H a = some (.tup xs)
def StrsAt (H : Hp) (v : V) (ss : List Str) : Prop := TupAt H v (ss.map V.str)
def RowAt (H : Hp) (v : V) : Row → Prop
  | .con x k => TupAt H v [.str "const", .str x, .int k]
  | .rd x => TupAt H v [.str "read", .str x]
  | .pr x => TupAt H v [.str "print", .str x]
  | .op x o y z => TupAt H v [.str "op", .str x, .str o, .str y, .str z]
  | .ret x => TupAt H v [.str "return", .str x]
  | .jmp l as => ∃ va, TupAt H v [.str "jump", .str l, va] ∧ StrsAt H va as
  | .br x l1 a1 l2 a2 => ∃ v1 v2, TupAt H v [.str "branch", .str x, .str l1, v1, .str l2, v2] ∧ StrsAt H v1 a1 ∧ StrsAt H v2 a2
/-- a tuple whose items are so -/
def TAll {α : Type} (R : Hp → V → α → Prop) (H : Hp) (v : V) (xs : List α) : Prop := ∃ vs, TupAt H v vs ∧ Paired (R H) vs xs
def BlkAt (H : Hp) (v : V) (B : PB) : Prop := ∃ vp vi vf, TupAt H v [.str B.name, vp, vi, vf] ∧ StrsAt H vp B.params ∧ TAll RowAt H vi B.ins ∧ RowAt H vf B.fin
def ProgAt (H : Hp) (v : V) (G : List PB) : Prop := TAll BlkAt H v G
section
variable {H H' : Hp} {v : V}
theorem TupAt.mono {xs : List V} (e : TX H H') (h : TupAt H v xs) : TupAt H' v xs := let ⟨a, e1, e2⟩ := h; ⟨a, e1, e _ _ e2⟩
theorem StrsAt.mono {xs : List Str} (e : TX H H') (h : StrsAt H v xs) : StrsAt H' v xs := TupAt.mono e h
theorem RowAt.mono (e : TX H H') : ∀ {r : Row}, RowAt H v r → RowAt H' v r
  | .con _ _, h => TupAt.mono e h
  | .rd _, h => TupAt.mono e h
  | .pr _, h => TupAt.mono e h
  | .op _ _ _ _, h => TupAt.mono e h
  | .ret _, h => TupAt.mono e h
  | .jmp _ _, ⟨va, h, h1⟩ => ⟨va, h.mono e, h1.mono e⟩
  | .br _ _ _ _ _, ⟨v1, v2, h, h1, h2⟩ => ⟨v1, v2, h.mono e, h1.mono e, h2.mono e⟩
theorem TAll.mono {α : Type} {R : Hp → V → α → Prop} (hR : ∀ v x, R H v x → R H' v x) (e : TX H H') {xs : List α} (h : TAll R H v xs) : TAll R H' v xs :=
  let ⟨vs, h1, h2⟩ := h; ⟨vs, h1.mono e, Paired.mapP h2 hR⟩
theorem BlkAt.mono (e : TX H H') {B : PB} (h : BlkAt H v B) : BlkAt H' v B :=
  let ⟨vp, vi, vf, h1, h2, h3, h4⟩ := h; ⟨vp, vi, vf, h1.mono e, h2.mono e, h3.mono (fun _ _ => RowAt.mono e) e, h4.mono e⟩
theorem ProgAt.mono (e : TX H H') {G : List PB} (h : ProgAt H v G) : ProgAt H' v G := TAll.mono (fun _ _ => BlkAt.mono e) e h
end
theorem pd_get {α β : Type} {F : α → β → Prop} : ∀ {l : List α} {m : List β}, Paired F l m → ∀ {i : Nat} {x : α}, l[i]? = some x → ∃ y, m[i]? = some y ∧ F x y
  | _, _, .nil, i, x, h => by simp at h
  | _, _, .cons h t, 0, x, e => by
    simp at e
    subst e
    exact ⟨_, rfl, h⟩
  | _, _, .cons h t, i + 1, x, e => by
    simp at e
    obtain ⟨y, e1, e2⟩ := pd_get t e
    exact ⟨y, by simpa using e1, e2⟩
theorem pd_get' {α β : Type} {F : α → β → Prop} : ∀ {l : List α} {m : List β}, Paired F l m → ∀ {i : Nat} {y : β}, m[i]? = some y → ∃ x, l[i]? = some x ∧ F x y
  | _, _, .nil, i, x, h => by simp at h
  | _, _, .cons h t, 0, x, e => by
    simp at e
    subst e
    exact ⟨_, rfl, h⟩
  | _, _, .cons h t, i + 1, x, e => by
    simp at e
    obtain ⟨y, e1, e2⟩ := pd_get' t e
    exact ⟨y, by simpa using e1, e2⟩
theorem pd_len {α β : Type} {F : α → β → Prop} {l : List α} {m : List β} (h : Paired F l m) : l.length = m.length := Paired.length h
theorem pd_map {α β γ : Type} {F : α → β → Prop} {G : α → γ → Prop} (f : β → γ) (hf : ∀ a b, F a b → G a (f b)) : ∀ {l : List α} {m : List β}, Paired F l m → Paired G l (m.map f)
  | _, _, .nil => .nil
  | _, _, .cons h t => .cons (hf _ _ h) (pd_map f hf t)
theorem pd_snoc {α β : Type} {F : α → β → Prop} {l : List α} {m : List β} {a : α} {b : β} (h : Paired F l m) (x : F a b) : Paired F (l ++ [a]) (m ++ [b]) := Paired.snoc h x
theorem pd_append {α β : Type} {F : α → β → Prop} : ∀ {l l' : List α} {m m' : List β}, Paired F l m → Paired F l' m' → Paired F (l ++ l') (m ++ m')
  | _, _, _, _, .nil, h => h
  | _, _, _, _, .cons x t, h => .cons x (pd_append t h)
/-- the same block in the plain law -/
def numOf (G : List PB) (l : Str) : Nat := G.findIdx fun B => B.name == l
def toBk (G : List PB) (B : PB) : SF.Bk Str := ⟨B.params, B.ins.map fun r => (dby r, uses r), uses B.fin, (targs B.fin).map (numOf G)⟩
def toPg (G : List PB) : SF.Pg Str := G.map (toBk G)
/-- small, its names told apart -/
structure Small (G : List PB) : Prop where
  len : G.length ≤ 10
  ins : ∀ B ∈ G, B.ins.length ≤ 20
  par : ∀ B ∈ G, B.params.length ≤ 20
  us : ∀ B ∈ G, ∀ r ∈ B.fin :: B.ins, (uses r).length ≤ 50
  names : (G.map (·.name)).Nodup
  tg : ∀ B ∈ G, ∀ l ∈ targs B.fin, l ∈ G.map (·.name)
  fd : ∀ B ∈ G, dby B.fin = none
end Sh
end

section
set_option Elab.async false
set_option linter.all false
set_option maxRecDepth 100000
set_option maxHeartbeats 4000000
/-! What evaluates to what: more of Evl. -/
namespace Sh
open PySem PySem.Spec PyProof.Rows L2 Evl
section
variable {K : PySem.W.Frag} {σ : L2.St} {H H' : Hp} {ta tb te tx td ty tk tv : TE} {t u : TT} {x y z v : V} {r : R2}
/-- evaluates to some v of which R -/
def EvR (R : Hp → V → Prop) (te : TE) (σ : L2.St) (H : Hp) : Prop := ∀ H1, Ex H H1 → ∀ Q : VK, (∀ v H2, Ex H1 H2 → R H2 v → Q v H2) → te σ H1 Q
theorem EvR.mono {R : Hp → V → Prop} (e : Ex H H') (h : EvR R te σ H) : EvR R te σ H' := fun H1 a Q q => h H1 (e.trans a) Q q
theorem evr {R : Hp → V → Prop} (h : Ev te σ H v) (hR : ∀ H2, Ex H H2 → R H2 v) : EvR R te σ H := fun H1 e Q q => h H1 e Q fun H2 e2 => q v H2 e2 (hR H2 (e.trans e2))
theorem evr_eq (h : Ev te σ H v) : EvR (fun _ y => y = v) te σ H := evr h fun _ _ => rfl
/-- a new dict -/
def EvD (te : TE) (σ : L2.St) (H : Hp) (kvs : List (Key × V)) : Prop := ∀ H1, Ex H H1 → ∀ Q : VK, (∀ p H2, H1 p = none → Ex H1 H2 → H2 p = some (.dK kvs) → Q (.ref p) H2) → te σ H1 Q
theorem EvD.mono {kvs : List (Key × V)} (e : Ex H H') (h : EvD te σ H kvs) : EvD te σ H' kvs := fun H1 a Q q => h H1 (e.trans a) Q q
theorem ed_new : EvD tDNewK σ H [] := fun H1 e Q q => fun p hp => q p _ hp (Ex.new hp) upd_same
theorem EvU.mono {xs : List V} (e : Ex H H') (h : EvU te σ H xs) : EvU te σ H' xs := fun H1 a Q q => h H1 (e.trans a) Q q
/-- a tuple, new or not -/
def EvW (te : TE) (σ : L2.St) (H : Hp) (xs : List V) : Prop := ∀ H1, Ex H H1 → ∀ Q : VK, (∀ p H2, Ex H1 H2 → H2 p = some (.tup xs) → Q (.ref p) H2) → te σ H1 Q
theorem EvW.mono {xs : List V} (e : Ex H H') (h : EvW te σ H xs) : EvW te σ H' xs := fun H1 a Q q => h H1 (e.trans a) Q q
theorem ew_new {xs : List V} (h : EvU te σ H xs) : EvW te σ H xs := fun H1 e Q q => h H1 e Q fun p H2 _ e2 h2 => q p H2 e2 h2
theorem ew_old {xs : List V} {p : Addr} (h : Ev te σ H (.ref p)) (hp : H p = some (.tup xs)) : EvW te σ H xs := fun H1 e Q q => h H1 e Q fun H2 e2 => q p H2 e2 (e2 _ _ (e _ _ hp))
/-- places -/
theorem ev_ixT {p : Addr} {xs : List V} {i : Int} (ha : Ev ta σ H (.ref p)) (hp : H p = some (.tup xs)) (hb : Ev tb σ H (.int i)) (h : atI xs i = some v) : Ev (tOp (rIxT K) ta tb) σ H v := ev_op ha hb (rv_ixT (st_of hp) h)
theorem ev_ixL {p : Addr} {xs : List V} {i : Int} (ha : Ev ta σ H (.ref p)) (hp : H p = some (.lst xs)) (hb : Ev tb σ H (.int i)) (h : atI xs i = some v) : Ev (tOp (rIxL K) ta tb) σ H v := ev_op ha hb (rv_ixL (sq_of hp) h)
theorem ev_ixW {xs : List V} {i : Int} (ha : EvW ta σ H xs) (hb : Ev tb σ H (.int i)) (h : atI xs i = some v) : Ev (tOp (rIxT K) ta tb) σ H v := fun H1 e Q q =>
  ha H1 e _ fun p H2 e2 hp => hb H2 (e.trans e2) _ fun H3 e3 => rv_ixT (H := H2) (st_of hp) h H3 e3 Q fun H4 e4 => q H4 (e2.trans (e3.trans e4))
theorem ev_ixN {xs : List V} {i : Int} (ha : EvL ta σ H xs) (hb : Ev tb σ H (.int i)) (h : atI xs i = some v) : Ev (tOp (rIxL K) ta tb) σ H v := fun H1 e Q q =>
  ha H1 e _ fun p H2 hn e2 hp => hb H2 (e.trans e2) _ fun H3 e3 => rv_ixL (H := H2) (sq_of hp) h H3 e3 Q fun H4 e4 => q H4 (e2.trans (e3.trans e4))
theorem ev_dget {a : Addr} {kvs : List (Key × V)} {k : Key} (hd : Ev td σ H (.ref a)) (hy : Ev ty σ H (kV k)) (ha : H a = some (.dK kvs)) (hv : valV kvs k = some v) : Ev (tDGet td ty) σ H v := fun H1 e Q q =>
  hd H1 e _ fun H2 e2 => hy H2 (e.trans e2) _ fun H3 e3 => ⟨a, v, rfl, hv ▸ DGet.k (((e.trans e2).trans e3) _ _ ha), q H3 (e2.trans e3)⟩
theorem ev_din {a : Addr} {kvs : List (Key × V)} {k : Key} {b : Bool} (hy : Ev ty σ H (kV k)) (hd : Ev td σ H (.ref a)) (ha : H a = some (.dK kvs)) (hv : (valV kvs k).isSome = b) : Ev (tDIn ty td) σ H (.bl b) := fun H1 e Q q =>
  hy H1 e _ fun H2 e2 => hd H2 (e.trans e2) _ fun H3 e3 => ⟨a, _, rfl, DGet.k (((e.trans e2).trans e3) _ _ ha), hv ▸ q H3 (e2.trans e3)⟩
theorem ev_dnotin {a : Addr} {kvs : List (Key × V)} {k : Key} {b : Bool} (hy : Ev ty σ H (kV k)) (hd : Ev td σ H (.ref a)) (ha : H a = some (.dK kvs)) (hv : (!(valV kvs k).isSome) = b) : Ev (tDNotIn ty td) σ H (.bl b) := fun H1 e Q q =>
  hy H1 e _ fun H2 e2 => hd H2 (e.trans e2) _ fun H3 e3 => ⟨a, _, rfl, DGet.k (((e.trans e2).trans e3) _ _ ha), hv ▸ q H3 (e2.trans e3)⟩
theorem et_T {b : Bool} (h : Ev te σ H (.bl b)) : EvT (tTest te) σ H b := et_test h
theorem ev_lenT {p : Addr} {xs : List V} (ha : Ev ta σ H (.ref p)) (h : H p = some (.tup xs)) : Ev (tCB (rLenS K) (tCons ta tNil)) σ H (.int (xs.length : Int)) := fun H1 e Q q =>
  ha H1 e _ fun H2 e2 => ⟨p, xs, rfl, .inr (st_of ((e.trans e2) _ _ h)), q H2 e2⟩
theorem ev_lenL {p : Addr} {xs : List V} (ha : Ev ta σ H (.ref p)) (h : H p = some (.lst xs)) : Ev (tCB (rLenS K) (tCons ta tNil)) σ H (.int (xs.length : Int)) := ev_len ha (sq_of h)
def rTupS (K : PySem.W.Frag) : List V → Hp → VK → Prop := fun xs H Q => ∃ p ys, xs = [.ref p] ∧ ((SqL K H p ys ∧ ∀ l, H l = none → Q (.ref l) (upd H l (.tup ys))) ∨ (SqT K H p ys ∧ Q (.ref p) H))
theorem eu_tuple {xs : List V} {p : Addr} (ha : Ev ta σ H (.ref p)) (h : H p = some (.lst xs)) : EvU (tCB (rTupS K) (tCons ta tNil)) σ H xs := fun H1 e Q q =>
  ha H1 e _ fun H2 e2 => ⟨p, xs, rfl, .inl ⟨sq_of ((e.trans e2) _ _ h), fun l hl => q l _ (fresh_back e2 hl) (e2.trans (Ex.new hl)) upd_same⟩⟩
theorem eu_tupleN {xs : List V} (ha : EvL ta σ H xs) : EvU (tCB (rTupS K) (tCons ta tNil)) σ H xs := fun H1 e Q q =>
  ha H1 e _ fun p H2 hn e2 h => ⟨p, xs, rfl, .inl ⟨sq_of h, fun l hl => q l _ (fresh_back e2 hl) (e2.trans (Ex.new hl)) upd_same⟩⟩
theorem evr_call {sp : Sp} {dvs vs : List V} {E : XK} {ta : TA} {R : Hp → V → Prop} (h : EvA ta σ H vs) (hs : ∀ H1, Ex H H1 → ∀ Q : VK, (∀ v H2, Ex H1 H2 → R H2 v → Q v H2) → sp (vs ++ dvs) H1 Q E) : EvR R (tCall sp dvs E ta) σ H := fun H1 e Q q =>
  h H1 e _ fun H2 e2 => hs H2 (e.trans e2) Q fun v H3 e3 r => q v H3 (e2.trans e3) r
theorem ew_call {sp : Sp} {dvs vs xs : List V} {E : XK} {ta : TA} (h : EvA ta σ H vs) (hs : ∀ H1, Ex H H1 → ∀ Q : VK, (∀ p H2, Ex H1 H2 → H2 p = some (.tup xs) → Q (.ref p) H2) → sp (vs ++ dvs) H1 Q E) : EvW (tCall sp dvs E ta) σ H xs := fun H1 e Q q =>
  h H1 e _ fun H2 e2 => hs H2 (e.trans e2) Q fun p H3 e3 r => q p H3 (e2.trans e3) r
theorem ed_call {sp : Sp} {dvs vs : List V} {kvs : List (Key × V)} {E : XK} {ta : TA} (h : EvA ta σ H vs) (hs : ∀ H1, Ex H H1 → ∀ Q : VK, (∀ p H2, H1 p = none → Ex H1 H2 → H2 p = some (.dK kvs) → Q (.ref p) H2) → sp (vs ++ dvs) H1 Q E) : EvD (tCall sp dvs E ta) σ H kvs := fun H1 e Q q =>
  h H1 e _ fun H2 e2 => hs H2 (e.trans e2) Q fun p H3 hp e3 r => q p H3 (fresh_back e2 hp) (e2.trans e3) r
/-- one argument, its value told by R -/
theorem ea1 (h : Ev ta σ H v) : EvA (tCons ta tNil) σ H [v] := ea_cons h ea_nil
theorem ea2 (h : Ev ta σ H v) (h2 : Ev tb σ H x) : EvA (tCons ta (tCons tb tNil)) σ H [v, x] := ea_cons h (ea1 h2)
theorem ea3 {tc : TE} (h : Ev ta σ H v) (h2 : Ev tb σ H x) (h3 : Ev tc σ H y) : EvA (tCons ta (tCons tb (tCons tc tNil))) σ H [v, x, y] := ea_cons h (ea2 h2 h3)

/-! ### comprehensions over any walk -/
variable {J : It} {n : Nat} {G : Hp → Prop} {Y : Nat → Hp → V → Hp → Prop}
theorem fm_succ {β : Type} (out : Nat → Option β) (n : Nat) : (List.range (n + 1)).filterMap out = (List.range n).filterMap out ++ (out n).toList := by
  rw [List.range_succ, List.filterMap_append]
  congr 1
theorem fm_le {β : Type} (out : Nat → Option β) (n : Nat) : ((List.range n).filterMap out).length ≤ n := by
  have h := List.length_filterMap_le out (List.range n)
  rw [List.length_range] at h
  exact h
/-- all but the thing at D stays -/
def ExB (D : Addr) (H H' : Hp) : Prop := ∀ a o, a ≠ D → H a = some o → H' a = some o
theorem lc_rel {β : Type} (w : Walk J n G Y) {g : TG} {tt : TT} {vs : List Nat} {H1 : Hp} {D : Addr} {Qd : Hp → Prop} (hD : H1 D = none) (hn : n ≤ 40000) (R : Hp → V → β → Prop) (out : Nat → Option β) (hG : ∀ H', Ex H1 H' → G H')
    (hR : ∀ Ha Hb v b, (∃ ws, Ha D = some (.lst ws)) → ExB D Ha Hb → R Ha v b → R Hb v b)
    (hs : ∀ i x H' H'', i < n → Ex H1 H' → (∃ ws, H' D = some (.lst ws)) → Y i H' x H'' → ∀ C : L2.St → Hp → Prop, (∀ σ2 H2, wipe σ2 vs = wipe σ vs → Ex H' H2 → EvT tt σ2 H2 (out i).isSome → (∀ b, out i = some b → EvR (fun H4 y => R H4 y b) te σ2 H2) → C σ2 H2) → g x (wipe σ vs) H'' C)
    (hd : ∀ H' ws, Ex H1 H' → H' D = some (.lst ws) → Paired (R H') ws ((List.range n).filterMap out) → Qd H') :
    ∃ W : Nat → Nat → Hp → Prop, (∃ m, W 0 m (upd H1 D (.lst []))) ∧ ∀ i m H, W i m H →
      (J.stop i H ∧ Qd H) ∨ (J.go i H ∧ ∃ Nx : Hp → Prop, (∀ H', Nx H' → ∃ m', m' < m ∧ W (i + 1) m' H') ∧ ∀ x H', J.yld i H x H' → g x (wipe σ vs) H' fun σ2 H2 => wipe σ2 vs = wipe σ vs ∧ tt σ2 H2 fun b H3 =>
        if b = true then te σ2 H3 fun y H4 => ∃ acc, H4 D = some (.lst acc) ∧ acc.length < sizeLine ∧ Nx (upd H4 D (.lst (acc ++ [y]))) else Nx H3) := by
  refine lc_it w (fun i H' => Ex H1 H' ∧ ∃ ws, H' D = some (.lst ws) ∧ Paired (R H') ws ((List.range i).filterMap out)) ⟨Ex.new hD, [], upd_same, .nil⟩ (fun i H' _ p => hG H' p.1) ?_ (fun H' p => let ⟨e, ws, h1, h2⟩ := p; hd H' ws e h1 h2)
  rintro i x H' H'' hi ⟨e1, ws, hw, hp⟩ y
  refine hs i x H' H'' hi e1 ⟨ws, hw⟩ y _ fun σ2 H2 hwp e2 ht he => ⟨hwp, ?_⟩
  refine ht H2 (Ex.refl _) _ fun H3 e3 => ?_
  have mono : ∀ {Ha}, Ex H' Ha → Paired (R Ha) ws ((List.range i).filterMap out) := fun ea => Paired.mapP hp fun v b q => hR _ _ v b ⟨ws, hw⟩ (fun a o _ z => ea a o z) q
  cases ho : out i with
  | none =>
    show Ex H1 H3 ∧ _
    refine ⟨e1.trans (e2.trans e3), ws, e3 _ _ (e2 _ _ hw), ?_⟩
    rw [fm_succ, ho]
    simpa using mono (e2.trans e3)
  | some b =>
    show te σ2 H3 _
    refine he b ho H3 e3 _ fun v H4 e4 hr => ⟨ws, e4 _ _ (e3 _ _ (e2 _ _ hw)), ?_, Ex.mut (e1.trans (e2.trans (e3.trans e4))) hD, ws ++ [v], upd_same, ?_⟩
    · have h1 := pd_len hp
      have h2 := fm_le out i
      exact sz_lt (by omega)
    · rw [fm_succ, ho]
      have ne : ExB D H4 (upd H4 D (.lst (ws ++ [v]))) := fun a o na z => by rw [upd_ne na]; exact z
      exact pd_snoc (Paired.mapP (mono (e2.trans (e3.trans e4))) fun v b q => hR _ _ v b ⟨ws, e4 _ _ (e3 _ _ (e2 _ _ hw))⟩ ne q) (hR _ _ v b ⟨ws, e4 _ _ (e3 _ _ (e2 _ _ hw))⟩ ne hr)
theorem dc_it (w : Walk J n G Y) {g : TG} {tt : TT} {vs : List Nat} {H1 : Hp} {D : Addr} {Qd : Hp → Prop} (Pv : Nat → Hp → Prop) (h0 : Pv 0 (upd H1 D (.dK []))) (hG : ∀ i H, i ≤ n → Pv i H → G H)
    (hs : ∀ i x H H', i < n → Pv i H → Y i H x H' → g x (wipe σ vs) H' fun σ2 H2 => wipe σ2 vs = wipe σ vs ∧ tt σ2 H2 fun b H3 =>
      if b = true then tk σ2 H3 fun y H4 => tv σ2 H4 fun z H5 => ∃ kvs k, y = kV k ∧ H5 D = some (.dK kvs) ∧ kvs.length < sizeLine ∧ Pv (i + 1) (upd H5 D (.dK (putK kvs k z))) else Pv (i + 1) H3) (hd : ∀ H, Pv n H → Qd H) :
    ∃ W : Nat → Nat → Hp → Prop, (∃ m, W 0 m (upd H1 D (.dK []))) ∧ ∀ i m H, W i m H →
      (J.stop i H ∧ Qd H) ∨ (J.go i H ∧ ∃ Nx : Hp → Prop, (∀ H', Nx H' → ∃ m', m' < m ∧ W (i + 1) m' H') ∧ ∀ x H', J.yld i H x H' → g x (wipe σ vs) H' fun σ2 H2 => wipe σ2 vs = wipe σ vs ∧ tt σ2 H2 fun b H3 =>
        if b = true then tk σ2 H3 fun y H4 => tv σ2 H4 fun z H5 => ∃ kvs k, y = kV k ∧ H5 D = some (.dK kvs) ∧ kvs.length < sizeLine ∧ Nx (upd H5 D (.dK (putK kvs k z))) else Nx H3) := by
  refine ⟨fun i m H => m = n - i ∧ i ≤ n ∧ Pv i H, ⟨n, by simp, Nat.zero_le _, h0⟩, ?_⟩
  rintro i m H ⟨rfl, hi, p⟩
  have q := hG i H hi p
  by_cases hlt : i < n
  · exact .inr ⟨w.goes i H hlt q, Pv (i + 1), fun H' p' => ⟨n - (i + 1), by omega, rfl, hlt, p'⟩, fun x H' y => hs i x H H' hlt p (w.yields i H x H' hlt q y)⟩
  · have e : i = n := by omega
    subst e
    exact .inl ⟨w.stops H q, hd H p⟩
/-- a dict: the keys and values told turn by turn -/
theorem dc_acc (w : Walk J n G Y) {g : TG} {tt : TT} {vs : List Nat} {H1 : Hp} {D : Addr} {Qd : Hp → Prop} (hD : H1 D = none) (acc : Nat → List (Key × V)) (hz : acc 0 = []) (hl : ∀ i, i ≤ n → (acc i).length ≤ 40000) (keep : Nat → Bool) (key : Nat → Key) (val : Nat → V)
    (ha : ∀ i, i < n → acc (i + 1) = if keep i = true then putK (acc i) (key i) (val i) else acc i) (hG : ∀ H', Ex H1 H' → G H')
    (hs : ∀ i x H' H'', i < n → Ex H1 H' → Y i H' x H'' → ∀ C : L2.St → Hp → Prop, (∀ σ2 H2, wipe σ2 vs = wipe σ vs → Ex H' H2 → EvT tt σ2 H2 (keep i) → (keep i = true → Ev tk σ2 H2 (kV (key i)) ∧ Ev tv σ2 H2 (val i)) → C σ2 H2) → g x (wipe σ vs) H'' C)
    (hd : ∀ H', Ex H1 H' → H' D = some (.dK (acc n)) → Qd H') :
    ∃ W : Nat → Nat → Hp → Prop, (∃ m, W 0 m (upd H1 D (.dK []))) ∧ ∀ i m H, W i m H →
      (J.stop i H ∧ Qd H) ∨ (J.go i H ∧ ∃ Nx : Hp → Prop, (∀ H', Nx H' → ∃ m', m' < m ∧ W (i + 1) m' H') ∧ ∀ x H', J.yld i H x H' → g x (wipe σ vs) H' fun σ2 H2 => wipe σ2 vs = wipe σ vs ∧ tt σ2 H2 fun b H3 =>
        if b = true then tk σ2 H3 fun y H4 => tv σ2 H4 fun z H5 => ∃ kvs k, y = kV k ∧ H5 D = some (.dK kvs) ∧ kvs.length < sizeLine ∧ Nx (upd H5 D (.dK (putK kvs k z))) else Nx H3) := by
  refine dc_it w (fun i H' => Ex H1 H' ∧ H' D = some (.dK (acc i))) ⟨Ex.new hD, by rw [hz]; exact upd_same⟩ (fun i H' _ p => hG H' p.1) ?_ (fun H' p => hd H' p.1 p.2)
  rintro i x H' H'' hi ⟨e1, hw⟩ y
  refine hs i x H' H'' hi e1 y _ fun σ2 H2 hwp e2 ht he => ⟨hwp, ?_⟩
  refine ht H2 (Ex.refl _) _ fun H3 e3 => ?_
  cases hk : keep i with
  | false =>
    refine ⟨e1.trans (e2.trans e3), ?_⟩
    rw [ha i hi, hk]
    exact e3 _ _ (e2 _ _ hw)
  | true =>
    obtain ⟨hk1, hv1⟩ := he hk
    refine hk1 H3 e3 _ fun H4 e4 => hv1 H4 (e3.trans e4) _ fun H5 e5 => ⟨acc i, key i, rfl, e5 _ _ (e4 _ _ (e3 _ _ (e2 _ _ hw))), sz_lt (by have := hl i (Nat.le_of_lt hi); omega), Ex.mut (e1.trans (e2.trans (e3.trans (e4.trans e5)))) hD, ?_⟩
    rw [ha i hi, hk]
    exact upd_same
end
end Sh
end

section
set_option Elab.async false
set_option linter.all false
set_option maxRecDepth 100000
set_option maxHeartbeats 4000000
/-! Lists and tuples of things told by a relation. -/
namespace Sh
open PySem PySem.Spec PyProof.Rows L2 Evl
def MonoE {β : Type} (R : Hp → V → β → Prop) : Prop := ∀ H H' v b, Ex H H' → R H v b → R H' v b
section
variable {β : Type} {R : Hp → V → β → Prop} {K : PySem.W.Frag} {σ : L2.St} {H H' : Hp} {ta tb te : TE} {tr : TA} {b : β} {bs : List β} {D : Ends}
def EvAP (R : Hp → V → β → Prop) (t : TA) (σ : L2.St) (H : Hp) (bs : List β) : Prop := ∀ H1, Ex H H1 → ∀ Q : List V → Hp → Prop, (∀ vs H2, Ex H1 H2 → Paired (R H2) vs bs → Q vs H2) → t σ H1 Q
def EvLP (R : Hp → V → β → Prop) (te : TE) (σ : L2.St) (H : Hp) (bs : List β) : Prop := ∀ H1, Ex H H1 → ∀ Q : VK, (∀ p H2 vs, H1 p = none → Ex H1 H2 → H2 p = some (.lst vs) → Paired (R H2) vs bs → Q (.ref p) H2) → te σ H1 Q
def EvUP (R : Hp → V → β → Prop) (te : TE) (σ : L2.St) (H : Hp) (bs : List β) : Prop := ∀ H1, Ex H H1 → ∀ Q : VK, (∀ p H2 vs, H1 p = none → Ex H1 H2 → H2 p = some (.tup vs) → Paired (R H2) vs bs → Q (.ref p) H2) → te σ H1 Q
theorem EvAP.mono {t : TA} (e : Ex H H') (h : EvAP R t σ H bs) : EvAP R t σ H' bs := fun H1 a Q q => h H1 (e.trans a) Q q
theorem EvLP.mono (e : Ex H H') (h : EvLP R te σ H bs) : EvLP R te σ H' bs := fun H1 a Q q => h H1 (e.trans a) Q q
theorem EvUP.mono (e : Ex H H') (h : EvUP R te σ H bs) : EvUP R te σ H' bs := fun H1 a Q q => h H1 (e.trans a) Q q
theorem eap_nil : EvAP R tNil σ H [] := fun H1 _ Q q => q [] H1 (Ex.refl H1) .nil
theorem eap_cons (m : MonoE R) (h : EvR (fun H v => R H v b) ta σ H) (hr : EvAP R tr σ H bs) : EvAP R (tCons ta tr) σ H (b :: bs) := fun H1 e Q q =>
  h H1 e _ fun v H2 e2 r => hr H2 (e.trans e2) _ fun vs H3 e3 p => q _ H3 (e2.trans e3) (.cons (m _ _ _ _ e3 r) p)
theorem elp_lst (m : MonoE R) {t : TA} (h : EvAP R t σ H bs) (hz : bs.length ≤ 100000) : EvLP R (tLst t) σ H bs := fun H1 e Q q =>
  h H1 e _ fun vs H2 e2 p => ⟨sz_of (by rw [pd_len p]; exact hz), fun a ha => q a _ vs (fresh_back e2 ha) (e2.trans (Ex.new ha)) upd_same (Paired.mapP p fun v b r => m _ _ _ _ (Ex.new ha) r)⟩
theorem s_retLP (h : EvLP R te σ H bs) (k : ∀ p H1 vs, H p = none → Ex H H1 → H1 p = some (.lst vs) → Paired (R H1) vs bs → D.rt (.ref p) H1) : tRet te D σ H := h H (Ex.refl H) _ k
theorem s_retUP (h : EvUP R te σ H bs) (k : ∀ p H1 vs, H p = none → Ex H H1 → H1 p = some (.tup vs) → Paired (R H1) vs bs → D.rt (.ref p) H1) : tRet te D σ H := h H (Ex.refl H) _ k
theorem elp_if {t : TT} {c : Bool} (h : EvT t σ H c) (h1 : c = true → EvLP R ta σ H bs) (h2 : c = false → EvLP R tb σ H bs) : EvLP R (tIf t ta tb) σ H bs := fun H1 e Q q => h H1 e _ fun H2 e2 => by
  cases c with
  | true =>
    show ta σ H2 Q
    exact h1 rfl H2 (e.trans e2) Q fun p H3 vs hp e3 => q p H3 vs (fresh_back e2 hp) (e2.trans e3)
  | false =>
    show tb σ H2 Q
    exact h2 rfl H2 (e.trans e2) Q fun p H3 vs hp e3 => q p H3 vs (fresh_back e2 hp) (e2.trans e3)
theorem eup_tuple (m : MonoE R) (h : EvLP R ta σ H bs) : EvUP R (tCB (rTupS K) (tCons ta tNil)) σ H bs := fun H1 e Q q =>
  h H1 e _ fun p H2 vs hp e2 hl pd => ⟨p, vs, rfl, .inl ⟨sq_of hl, fun l hn => q l _ vs (fresh_back e2 hn) (e2.trans (Ex.new hn)) upd_same (Paired.mapP pd fun v b r => m _ _ _ _ (Ex.new hn) r)⟩⟩
/-- the list stands already -/
theorem elp_old {p : Addr} {vs : List V} (m : MonoE R) (h : Ev ta σ H (.ref p)) (hp : H p = some (.lst vs)) (pd : Paired (R H) vs bs) : EvUP R (tCB (rTupS K) (tCons ta tNil)) σ H bs := fun H1 e Q q =>
  h H1 e _ fun H2 e2 => ⟨p, vs, rfl, .inl ⟨sq_of ((e.trans e2) _ _ hp), fun l hn => q l _ vs (fresh_back e2 hn) (e2.trans (Ex.new hn)) upd_same (Paired.mapP pd fun v b r => m _ _ _ _ (e.trans (e2.trans (Ex.new hn))) r)⟩⟩
theorem s_appR {Rv : Hp → V → Prop} {l : Addr} {xs : List V} (hl : H l = some (.lst xs)) (ha : Ev ta σ H (.ref l)) (h : EvR Rv te σ H) (hz : xs.length < 100000) (k : ∀ v H1, Ex H H1 → Rv H1 v → D.nx σ (upd H1 l (.lst (xs ++ [v])))) :
    tDrop (tBM K "list" rAppend ta (tCons te tNil)) D σ H := ha H (Ex.refl H) _ fun H1 e1 =>
  ⟨.inl ⟨rfl, xs, sq_of (e1 l _ hl)⟩, h H1 e1 _ fun v H2 e2 r => ⟨l, xs, v, rfl, rfl, e2 l _ (e1 l _ hl), sz_lt hz, k v H2 (e1.trans e2) r⟩⟩
theorem s_asgR {Rv : Hp → V → Prop} {i : Nat} (h : EvR Rv te σ H) (k : ∀ v H1, Ex H H1 → Rv H1 v → D.nx (σ.set i (some v)) H1) : tAsg te (gName i) D σ H := h H (Ex.refl H) _ fun v H1 e r => k v H1 e r
theorem s_asgD {i : Nat} {kvs : List (Key × V)} (h : EvD te σ H kvs) (k : ∀ p H1, H p = none → Ex H H1 → H1 p = some (.dK kvs) → D.nx (σ.set i (some (.ref p))) H1) : tAsg te (gName i) D σ H := h H (Ex.refl H) _ fun p H1 hp e h1 => k p H1 hp e h1
theorem s_asgLP {i : Nat} (h : EvLP R te σ H bs) (k : ∀ p H1 vs, H p = none → Ex H H1 → H1 p = some (.lst vs) → Paired (R H1) vs bs → D.nx (σ.set i (some (.ref p))) H1) : tAsg te (gName i) D σ H := h H (Ex.refl H) _ fun p H1 vs hp e h1 h2 => k p H1 vs hp e h1 h2
/-- a list's items bound to names: for x, y in .. -/
theorem s_extL {l : Addr} {xs zs : List V} (hl : H l = some (.lst xs)) (ha : Ev ta σ H (.ref l)) (h : EvL te σ H zs) (hz : xs.length + zs.length ≤ 100000) (k : ∀ H1, Ex H H1 → D.nx σ (upd H1 l (.lst (xs ++ zs)))) :
    tDrop (tBM K "list" rExtend ta (tCons te tNil)) D σ H := ha H (Ex.refl H) _ fun H1 e1 =>
  ⟨.inl ⟨rfl, xs, sq_of (e1 l _ hl)⟩, h H1 e1 _ fun p H2 hp e2 h2 => ⟨l, p, xs, zs, rfl, rfl, e2 l _ (e1 l _ hl), h2, sz_of hz, k H2 (e1.trans e2)⟩⟩
theorem s_extT {l : Addr} {xs zs : List V} (hl : H l = some (.lst xs)) (ha : Ev ta σ H (.ref l)) (h : EvW te σ H zs) (hz : xs.length + zs.length ≤ 100000) (k : ∀ H1, Ex H H1 → D.nx σ (upd H1 l (.lst (xs ++ zs)))) :
    tDrop (tBM K "list" (rExtT K) ta (tCons te tNil)) D σ H := ha H (Ex.refl H) _ fun H1 e1 =>
  ⟨.inl ⟨rfl, xs, sq_of (e1 l _ hl)⟩, h H1 e1 _ fun p H2 e2 h2 => ⟨l, p, xs, zs, rfl, rfl, e2 l _ (e1 l _ hl), st_of h2, sz_of hz, k H2 (e1.trans e2)⟩⟩
theorem s_dput {d : Addr} {kvs : List (Key × V)} {kk : Key} {v : V} {td ty tv : TE} (hd : H d = some (.dK kvs)) (hv : Ev tv σ H v) (ho : Ev td σ H (.ref d)) (hy : Ev ty σ H (kV kk)) (hz : kvs.length < 100000) (k : ∀ H1, Ex H H1 → D.nx σ (upd H1 d (.dK (putK kvs kk v)))) : sDPut td ty tv D σ H :=
  hv H (Ex.refl H) _ fun H1 e1 => ho H1 e1 _ fun H2 e2 => hy H2 (e1.trans e2) _ fun H3 e3 => ⟨d, _, rfl, DPut.k (((e1.trans e2).trans e3) _ _ hd) (sz_lt hz), k H3 ((e1.trans e2).trans e3)⟩
variable {tz : TS}
theorem q_raw {i : Nat} (h : te σ H fun v H1 => tz D (σ.set i (some v)) H1) : tSeq (tAsg te (gName i)) tz D σ H := h
theorem s_raw {i : Nat} (h : te σ H fun v H1 => D.nx (σ.set i (some v)) H1) : tAsg te (gName i) D σ H := h
theorem q_asgR {Rv : Hp → V → Prop} {i : Nat} (h : EvR Rv te σ H) (k : ∀ v H1, Ex H H1 → Rv H1 v → tz D (σ.set i (some v)) H1) : tSeq (tAsg te (gName i)) tz D σ H := s_asgR (D := { D with nx := tz D }) h k
theorem q_asgD {i : Nat} {kvs : List (Key × V)} (h : EvD te σ H kvs) (k : ∀ p H1, H p = none → Ex H H1 → H1 p = some (.dK kvs) → tz D (σ.set i (some (.ref p))) H1) : tSeq (tAsg te (gName i)) tz D σ H := s_asgD (D := { D with nx := tz D }) h k
theorem q_asgLP {i : Nat} (h : EvLP R te σ H bs) (k : ∀ p H1 vs, H p = none → Ex H H1 → H1 p = some (.lst vs) → Paired (R H1) vs bs → tz D (σ.set i (some (.ref p))) H1) : tSeq (tAsg te (gName i)) tz D σ H := s_asgLP (D := { D with nx := tz D }) h k
theorem q_appR {Rv : Hp → V → Prop} {l : Addr} {xs : List V} (hl : H l = some (.lst xs)) (ha : Ev ta σ H (.ref l)) (h : EvR Rv te σ H) (hz : xs.length < 100000) (k : ∀ v H1, Ex H H1 → Rv H1 v → tz D σ (upd H1 l (.lst (xs ++ [v])))) :
    tSeq (tDrop (tBM K "list" rAppend ta (tCons te tNil))) tz D σ H := s_appR (D := { D with nx := tz D }) hl ha h hz k
theorem q_extL {l : Addr} {xs zs : List V} (hl : H l = some (.lst xs)) (ha : Ev ta σ H (.ref l)) (h : EvL te σ H zs) (hz : xs.length + zs.length ≤ 100000) (k : ∀ H1, Ex H H1 → tz D σ (upd H1 l (.lst (xs ++ zs)))) :
    tSeq (tDrop (tBM K "list" rExtend ta (tCons te tNil))) tz D σ H := s_extL (D := { D with nx := tz D }) hl ha h hz k
theorem q_extT {l : Addr} {xs zs : List V} (hl : H l = some (.lst xs)) (ha : Ev ta σ H (.ref l)) (h : EvW te σ H zs) (hz : xs.length + zs.length ≤ 100000) (k : ∀ H1, Ex H H1 → tz D σ (upd H1 l (.lst (xs ++ zs)))) :
    tSeq (tDrop (tBM K "list" (rExtT K) ta (tCons te tNil))) tz D σ H := s_extT (D := { D with nx := tz D }) hl ha h hz k
theorem q_dput {d : Addr} {kvs : List (Key × V)} {kk : Key} {v : V} {td ty tv : TE} (hd : H d = some (.dK kvs)) (hv : Ev tv σ H v) (ho : Ev td σ H (.ref d)) (hy : Ev ty σ H (kV kk)) (hz : kvs.length < 100000) (k : ∀ H1, Ex H H1 → tz D σ (upd H1 d (.dK (putK kvs kk v)))) : tSeq (sDPut td ty tv) tz D σ H :=
  s_dput (D := { D with nx := tz D }) hd hv ho hy hz k
/-- x = xs.pop() -/
theorem s_pop {l : Addr} {xs : List V} {y : V} {i : Nat} (h : Ev ta σ H (.ref l)) (hl : H l = some (.lst (xs ++ [y]))) (k : ∀ H1, Ex H H1 → D.nx (σ.set i (some y)) (upd H1 l (.lst xs))) : tAsg (tBM0 K "list" rPop ta) (gName i) D σ H :=
  h H (Ex.refl H) _ fun H1 e1 => ⟨.inl ⟨rfl, _, sq_of (e1 _ _ hl)⟩, l, xs ++ [y], y, rfl, rfl, e1 _ _ hl, by simp, by rw [List.dropLast_concat]; exact k H1 e1⟩
theorem q_pop {l : Addr} {xs : List V} {y : V} {i : Nat} (h : Ev ta σ H (.ref l)) (hl : H l = some (.lst (xs ++ [y]))) (k : ∀ H1, Ex H H1 → tz D (σ.set i (some y)) (upd H1 l (.lst xs))) : tSeq (tAsg (tBM0 K "list" rPop ta) (gName i)) tz D σ H := s_pop (D := { D with nx := tz D }) h hl k
end
theorem ex_but {p : Addr} {H0 H H' : Hp} (e0 : Ex H0 H) (n : H0 p = none) (e : ExB p H H') : Ex H0 H' := fun a o h => e a o (ne_of_none h n) (e0 a o h)
/-- one local thing after another: H0's things stand, l (not H0's) is written -/
theorem ex_upd {p : Addr} {H0 H H1 : Hp} {o : HO} (e0 : Ex H0 H) (n : H0 p = none) (e : Ex H H1) : Ex H0 (upd H1 p o) := Ex.mut (e0.trans e) n
end Sh
end

section
set_option Elab.async false
set_option linter.all false
set_option maxRecDepth 100000
set_option maxHeartbeats 4000000
/-! Comprehensions, targets. -/
namespace Sh
open PySem PySem.Spec PyProof.Rows L2 Evl
def MonoT {β : Type} (R : Hp → V → β → Prop) : Prop := ∀ H H' v b, TX H H' → R H v b → R H' v b
theorem MonoT.e {β : Type} {R : Hp → V → β → Prop} (m : MonoT R) : MonoE R := fun _ _ _ _ e => m _ _ _ _ (tx e)
theorem mono_row : MonoT RowAt := fun _ _ _ _ e h => h.mono e
theorem mono_strs : MonoT StrsAt := fun _ _ _ _ e h => h.mono e
theorem mono_blk : MonoT BlkAt := fun _ _ _ _ e h => h.mono e
theorem mono_eq {β : Type} {f : β → V} : MonoT (fun _ v b => v = f b) := fun _ _ _ _ _ h => h
theorem exb_tx {D : Addr} {H H' : Hp} (h : ∃ ws, H D = some (.lst ws)) (e : ExB D H H') : TX H H' := fun a xs z => e a _ (by
  rintro rfl
  obtain ⟨ws, h⟩ := h
  rw [h] at z
  cases z) z
section
variable {β : Type} {R : Hp → V → β → Prop} {K : PySem.W.Frag} {σ : L2.St} {H H' : Hp} {ta tb te tl td tk tv : TE} {tr : TA} {t : TT} {b : β} {bs : List β} {D : Ends} {wi : TI} {n : Nat} {Y : Nat → Hp → V → Hp → Prop}
/-- a walk in n turns, item i told by Y -/
def EvI (wi : TI) (σ : L2.St) (H : Hp) (n : Nat) (Y : Nat → Hp → V → Hp → Prop) : Prop := ∀ H1, Ex H H1 → ∀ R' : It → Hp → Prop, (∀ (J : It) (G : Hp → Prop) H2, Ex H1 H2 → Walk J n G Y → (∀ H3, Ex H2 H3 → G H3) → R' J H2) → wi σ H1 R'
theorem ei_tup {a : Addr} {xs : List V} (h : Ev tl σ H (.ref a)) (hx : H a = some (.tup xs)) : EvI (iTup K tl) σ H xs.length (YAt xs) := fun H1 e R' k => h H1 e _ fun H2 e2 =>
  ⟨a, rfl, ⟨xs, st_of ((e.trans e2) _ _ hx)⟩, k _ _ H2 e2 (walk_tup (K := K)) fun H3 e3 => st_of ((e.trans (e2.trans e3)) _ _ hx)⟩
theorem ei_tupW {xs : List V} (h : EvW tl σ H xs) : EvI (iTup K tl) σ H xs.length (YAt xs) := fun H1 e R' k => h H1 e _ fun a H2 e2 hx =>
  ⟨a, rfl, ⟨xs, st_of hx⟩, k _ _ H2 e2 (walk_tup (K := K)) fun H3 e3 => st_of (e3 _ _ hx)⟩
theorem ei_lst {a : Addr} {xs : List V} (h : Ev tl σ H (.ref a)) (hx : H a = some (.lst xs)) : EvI (iList K tl) σ H xs.length (YAt xs) := fun H1 e R' k => h H1 e _ fun H2 e2 =>
  ⟨a, rfl, ⟨xs, sq_of ((e.trans e2) _ _ hx)⟩, k _ _ H2 e2 (walk_list (K := K)) fun H3 e3 => sq_of ((e.trans (e2.trans e3)) _ _ hx)⟩
theorem ei_rng {m : Int} (h : EvA tr σ H [.int m]) (hm : 0 ≤ m ∧ m ≤ 100000) : EvI (iRng1 tr) σ H m.toNat (YFn fun i => .int (i : Nat)) := fun H1 e R' k => h H1 e _ fun H2 e2 =>
  ⟨m, rfl, by omega, by omega, k _ _ H2 e2 ((walk_range (lo := 0) (n := m.toNat)).mono (fun _ h => h) fun i H x H' _ _ y => ⟨y.1, by rw [y.2]; show V.int (0 + (i : Nat)) = V.int (i : Nat); rw [Int.zero_add]⟩) fun _ _ => trivial⟩
theorem ei_rng2 {lo m : Int} (h : EvA tr σ H [.int lo, .int m]) (hm : 0 ≤ lo ∧ lo ≤ 100000 ∧ 0 ≤ m ∧ m ≤ 100000) : EvI (iRng2 tr) σ H (m - lo).toNat (YFn fun i => .int (lo + (i : Nat))) := fun H1 e R' k => h H1 e _ fun H2 e2 =>
  ⟨lo, m, rfl, ⟨by omega, by omega, by omega, by omega⟩, k _ _ H2 e2 (walk_range (lo := lo) (n := (m - lo).toNat)) fun _ _ => trivial⟩
theorem ei_str {z : Str} (h : Ev te σ H (.str z)) : EvI (iStr te) σ H z.cps.size (fun i H v H' => H' = H ∧ ∃ c, z.cps[i]? = some c ∧ v = .str ⟨#[c]⟩) := fun H1 e R' k => h H1 e _ fun H2 e2 =>
  ⟨z, rfl, k _ _ H2 e2 walk_str fun _ _ => trivial⟩
theorem walk_enumT {a : Addr} {xs : List V} : Walk (IteT K a) xs.length (fun H => SqT K H a xs) (YPair (fun i => some (.int (i : Nat))) (fun i => xs[i]?)) := by
  refine ⟨fun i _ hi q => ⟨xs, xs[i], q, by simp [hi]⟩, fun _ q => ⟨xs, q, Nat.le_refl _⟩, fun i H v H' _ q y => ?_⟩
  obtain ⟨T, x, h1, h2, h3, h4⟩ := y
  exact ⟨T, .int (i : Nat), x, h1, h2, h3, rfl, h4 xs q⟩
theorem ei_enumT {a : Addr} {xs : List V} (h : EvA tr σ H [.ref a]) (hx : H a = some (.tup xs)) : EvI (iEnumT K tr) σ H xs.length (YPair (fun i => some (.int (i : Nat))) (fun i => xs[i]?)) := fun H1 e R' k => h H1 e _ fun H2 e2 =>
  ⟨a, xs, rfl, st_of ((e.trans e2) _ _ hx), k _ _ H2 e2 (walk_enumT (K := K)) fun H3 e3 => st_of ((e.trans (e2.trans e3)) _ _ hx)⟩
/-- the list that a comprehension makes -/
theorem elp_lc {g : TG} {vs : List Nat} (m : MonoT R) (hi : EvI wi σ H n Y) (hn : n ≤ 40000) (out : Nat → Option β)
    (hs : ∀ i x H' H'', i < n → Ex H H' → Y i H' x H'' → ∀ C : L2.St → Hp → Prop, (∀ σ2 H2, wipe σ2 vs = wipe σ vs → Ex H' H2 → EvT t σ2 H2 (out i).isSome → (∀ b, out i = some b → EvR (fun H4 y => R H4 y b) te σ2 H2) → C σ2 H2) → g x (wipe σ vs) H'' C) :
    EvLP R (tLc wi g t te vs) σ H ((List.range n).filterMap out) := fun H1 e Q q => hi H1 e _ fun J G H2 e2 w hG D hD =>
  lc_rel w hD hn R out hG (fun Ha Hb v b hw e => m _ _ _ _ (exb_tx hw e)) (fun i x H' H'' hi e3 hw y => hs i x H' H'' hi (e.trans (e2.trans e3)) y) fun H' ws e3 h1 h2 => q D H' ws (fresh_back e2 hD) (e2.trans e3) h1 h2
/-- .. whose target is a name -/
theorem elp_lcn {vs : List Nat} {j : Nat} (m : MonoT R) (hi : EvI wi σ H n Y) (hn : n ≤ 40000) (out : Nat → Option β) (hw : ∀ x, wipe ((wipe σ vs).set j (some x)) vs = wipe σ vs) (hY : ∀ i H' x H'', Y i H' x H'' → H'' = H')
    (ht : ∀ i x H', i < n → Ex H H' → Y i H' x H' → EvT t ((wipe σ vs).set j (some x)) H' (out i).isSome) (he : ∀ i x b H', i < n → Ex H H' → Y i H' x H' → out i = some b → EvR (fun H4 y => R H4 y b) te ((wipe σ vs).set j (some x)) H') :
    EvLP R (tLc wi (gName j) t te vs) σ H ((List.range n).filterMap out) :=
  elp_lc m hi hn out fun i x H' H'' hlt e y C c => by
    have := hY i H' x H'' y
    subst this
    exact c _ _ (hw x) (Ex.refl _) (ht i x _ hlt e y) fun b hb => he i x b _ hlt e y hb
theorem et_yes : EvT tYes σ H true := fun H1 _ Q q => q H1 (Ex.refl H1)
theorem fm_list {α γ : Type} (l : List α) (f : α → Option γ) : (List.range l.length).filterMap (fun i => l[i]?.bind f) = l.filterMap f := by
  induction l with
  | nil => rfl
  | cons a r ih =>
    rw [List.length_cons, List.range_succ_eq_map, List.filterMap_cons, List.filterMap_map]
    have e1 : ((fun i => (a :: r)[i]?.bind f) ∘ Nat.succ) = fun i => r[i]?.bind f := by
      funext i
      simp
    rw [e1, ih]
    simp only [List.getElem?_cons_zero, Option.bind_some]
    rw [List.filterMap_cons]
theorem pd_eqs {γ : Type} {f : γ → V} : ∀ {ws : List V} {l : List γ}, Paired (fun v b => v = f b) ws l → ws = l.map f
  | _, _, .nil => rfl
  | _, _, .cons h t => by rw [h, pd_eqs t]; rfl
theorem eqs_pd {γ : Type} {f : γ → V} : ∀ (l : List γ), Paired (fun v b => v = f b) (l.map f) l
  | [] => .nil
  | _ :: l => .cons rfl (eqs_pd l)
/-- a list of values -/
theorem el_of {γ : Type} {f : γ → V} {l : List γ} (h : EvLP (fun _ v b => v = f b) te σ H l) : EvL te σ H (l.map f) := fun H1 e Q q => h H1 e Q fun p H2 vs hp e2 hl pd => q p H2 hp e2 (by rw [hl, pd_eqs pd])
theorem elp_of {γ : Type} {f : γ → V} {l : List γ} (h : EvL te σ H (l.map f)) : EvLP (fun _ v b => v = f b) te σ H l := fun H1 e Q q => h H1 e Q fun p H2 hp e2 hl => q p H2 _ hp e2 hl (eqs_pd l)
/-- targets that are tuples -/
theorem g_tup2 {i j : Nat} {a : Addr} {x y : V} {C : L2.St → Hp → Prop} (h : H a = some (.tup [x, y])) (k : C ((σ.set i (some x)).set j (some y)) H) : gTup K 2 (gCons (gName i) (gCons (gName j) gNil)) (.ref a) σ H C :=
  ⟨a, _, rfl, st_of h, rfl, _, _, rfl, _, _, rfl, rfl, k⟩
theorem g_tup3 {i j l : Nat} {a : Addr} {x y z : V} {C : L2.St → Hp → Prop} (h : H a = some (.tup [x, y, z])) (k : C (((σ.set i (some x)).set j (some y)).set l (some z)) H) : gTup K 3 (gCons (gName i) (gCons (gName j) (gCons (gName l) gNil))) (.ref a) σ H C :=
  ⟨a, _, rfl, st_of h, rfl, _, _, rfl, _, _, rfl, _, _, rfl, rfl, k⟩
theorem g_tup4 {i j l m : Nat} {a : Addr} {x y z w : V} {C : L2.St → Hp → Prop} (h : H a = some (.tup [x, y, z, w])) (k : C ((((σ.set i (some x)).set j (some y)).set l (some z)).set m (some w)) H) : gTup K 4 (gCons (gName i) (gCons (gName j) (gCons (gName l) (gCons (gName m) gNil)))) (.ref a) σ H C :=
  ⟨a, _, rfl, st_of h, rfl, _, _, rfl, _, _, rfl, _, _, rfl, _, _, rfl, rfl, k⟩
end
end Sh
namespace Sh
open PySem PySem.Spec PyProof.Rows L2 Evl
/-! ### rules with K said (within a comprehension) -/
section
variable {X : Cx} {K : PySem.W.Frag}
theorem ix_tupK (h : X.K = K) : IxR X (rIxT K) := by subst h; exact ix_tup
theorem ix_listK (h : X.K = K) : IxR X (rIxL K) := by subst h; exact ix_list
theorem op_inK (h : X.K = K) : OpR X (compareOp .In) (rIn K false) := by subst h; exact op_in_seq
theorem op_notInK (h : X.K = K) : OpR X (compareOp .NotIn) (rIn K true) := by subst h; exact op_notIn_seq
theorem call_lenK (h : X.K = K) : CallR X (.builtin "len") (rLenS K) := by subst h; exact call_len_seq
theorem call_tupleK (h : X.K = K) : CallR X (.type "tuple") (rTupS K) := by subst h; exact call_tuple_of
theorem pi_tupK {tg l : Expr} {tl : TE} (h : X.K = K) (hl : PE X l tl) : PI X tg l (iTup K tl) := by subst h; exact pi_tup hl
theorem pi_listK {tg l : Expr} {tl : TE} (h : X.K = K) (hl : PE X l tl) : PI X tg l (iList K tl) := by subst h; exact pi_list hl
theorem pg_tupK {es : List Expr} {k : Nat} {t : TGs} {n : Nat} {pos : Pos} (h : X.K = K) (hc : X.calm = true) (hs : PGs X es t)
    (hn : (assignEach es X.env).length = n := by rfl) (hst : (assignEach es X.env).findIdx? (·.1) = none := by rfl) : PG X (.Tuple es k pos) (gTup K n t) := by subst h; exact pg_tup hc hs hn hst
theorem pe_bm0K {T : String} {name : Str} {id : String} {r : V → List V → Hp → VK → Prop} {o : Expr} {to : TE} {apos cpos : Pos} (h : X.K = K) (pa : PlainAttrs T) (slot : Slot T name id) (hty : typeOf (.builtin id) = pure (.type "method_descriptor")) (hm : MtR X id r) (ho : PE X o to)
    (hbase : attributeBase o name X.env (eval o X.env) = eval o X.env := by rfl) (hline : (apos.endLine == cpos.line) = true := by rfl) : PE X (.Call (.Attribute o name apos) [] [] cpos) (tBM0 K T r to) := by subst h; exact pe_bm0 pa slot hty hm ho hbase hline
end
end Sh
end

section
set_option Elab.async false
set_option linter.all false
set_option maxRecDepth 100000
set_option maxHeartbeats 4000000
/-! Dicts of texts whose values are True; dicts locked while they are walked. -/
namespace Sh
open PySem PySem.Spec PyProof.Rows L2 Evl
def insK (l : List Str) (x : Str) : List Str := if x ∈ l then l else l ++ [x]
def insAll (l xs : List Str) : List Str := xs.foldl insK l
theorem insAll_snoc (l xs : List Str) (x : Str) : insAll l (xs ++ [x]) = insK (insAll l xs) x := by
  unfold insAll
  rw [List.foldl_append]
  rfl
theorem mem_insK {l : List Str} {x y : Str} : y ∈ insK l x ↔ y ∈ l ∨ y = x := by
  unfold insK
  by_cases h : x ∈ l
  · rw [if_pos h]
    exact ⟨.inl, fun z => z.elim id fun e => e ▸ h⟩
  · rw [if_neg h, List.mem_append, List.mem_singleton]
theorem mem_insAll {y : Str} : ∀ {xs l : List Str}, y ∈ insAll l xs ↔ y ∈ l ∨ y ∈ xs
  | [], l => by simp [insAll]
  | x :: xs, l => by
    show y ∈ insAll (insK l x) xs ↔ _
    rw [mem_insAll, mem_insK, List.mem_cons]
    constructor
    · rintro ((h | h) | h)
      · exact .inl h
      · exact .inr (.inl h)
      · exact .inr (.inr h)
    · rintro (h | h | h)
      · exact .inl (.inl h)
      · exact .inl (.inr h)
      · exact .inr h
theorem insK_nd {l : List Str} {x : Str} (h : l.Nodup) : (insK l x).Nodup := by
  unfold insK
  by_cases q : x ∈ l
  · rw [if_pos q]; exact h
  · rw [if_neg q]
    exact List.nodup_append.mpr ⟨h, by simp, fun a ha b hb e => q (by rw [← List.mem_singleton.mp hb, ← e]; exact ha)⟩
theorem insAll_nd : ∀ {xs l : List Str}, l.Nodup → (insAll l xs).Nodup
  | [], _, h => h
  | x :: xs, l, h => insAll_nd (xs := xs) (l := insK l x) (insK_nd h)
theorem insK_len (l : List Str) (x : Str) : (insK l x).length ≤ l.length + 1 := by
  unfold insK
  split
  · omega
  · rw [List.length_append]; simp
theorem insAll_len : ∀ (xs l : List Str), (insAll l xs).length ≤ l.length + xs.length
  | [], l => by simp [insAll]
  | x :: xs, l => by
    have h1 := insAll_len xs (insK l x)
    have h2 := insK_len l x
    show (insAll (insK l x) xs).length ≤ _
    rw [List.length_cons]
    omega
theorem put_dkT (l : List Str) (x : Str) : putK (dkT l) (Sum.inr x) (.bl true) = dkT (insK l x) := by
  unfold insK
  by_cases h : x ∈ l
  · rw [if_pos h]
    have hv := valV_dkT l x
    rw [if_pos h] at hv
    unfold putK
    rw [if_pos (by rw [valV_any, hv]; rfl)]
    show List.map _ (l.map fun x => ((Sum.inr x : Key), V.bl true)) = l.map fun x => ((Sum.inr x : Key), V.bl true)
    rw [List.map_map]
    refine List.map_congr_left fun y _ => ?_
    show (if (Sum.inr y : Key) = Sum.inr x then ((Sum.inr y : Key), V.bl true) else ((Sum.inr y : Key), V.bl true)) = _
    split <;> rfl
  · rw [if_neg h]
    have hv := valV_dkT l x
    rw [if_neg h] at hv
    rw [putK_new _ hv]
    simp
theorem merge_dkT : ∀ (xs l : List Str), mergeK (dkT l) (dkT xs) = dkT (insAll l xs)
  | [], l => rfl
  | x :: xs, l => by
    have e : mergeK (dkT l) (dkT (x :: xs)) = mergeK (putK (dkT l) (Sum.inr x) (.bl true)) (dkT xs) := rfl
    rw [e, put_dkT, merge_dkT xs]
    rfl
/-- a dict at v whose keys are ks -/
def DAt (H : Hp) (v : V) (ks : List Str) : Prop := ∃ d, v = .ref d ∧ H d = some (.dK (dkT ks))
theorem mono_dat : MonoE DAt := fun _ _ _ _ e ⟨d, h1, h2⟩ => ⟨d, h1, e _ _ h2⟩
theorem DAt.upd {H : Hp} {v : V} {ks : List Str} {l : Addr} {o : HO} (h : DAt H v ks) (n : ∀ ks, H l ≠ some (.dK ks)) : DAt (upd H l o) v ks := by
  obtain ⟨d, h1, h2⟩ := h
  exact ⟨d, h1, by rw [upd_ne (fun e => n _ (by rw [← e]; exact h2))]; exact h2⟩
theorem ex_unlock {H H' : Hp} {d : Addr} {u v : HO} (hd : H d = some u) (e : Ex (upd H d v) H') : Ex H (upd H' d u) := fun a o h => by
  by_cases q : a = d
  · rw [q, upd_same, ← hd, ← q]; exact h
  · rw [upd_ne q]
    exact e a o (by rw [upd_ne q]; exact h)
section
variable {β : Type} {R : Hp → V → β → Prop} {K : PySem.W.Frag} {σ : L2.St} {H H' : Hp} {ta tb te tl td tk tv : TE} {tr : TA} {t : TT} {b : β} {bs : List β} {D : Ends} {wi : TI} {n : Nat} {Y : Nat → Hp → V → Hp → Prop} {g : TG} {tu tz : TS}
theorem ei_keys {d : Addr} {od : Obj} {ks : List Str} (h : Ev td σ H (.ref d)) (hd : H d = some (.frz od (.dK (dkT ks)))) : EvI (iKeys td) σ H ks.length (YAt (ks.map V.str)) := fun H1 e R' k => h H1 e _ fun H2 e2 =>
  ⟨d, od, rfl, .inl ⟨dkT ks, (e.trans e2) _ _ hd, k _ _ H2 e2 (by
    have w := walk_keys (d := d) (o := od) (kvs := dkT ks)
    rw [List.length_map] at w
    refine w.mono (fun _ h => h) fun i H x H' hi _ y => ⟨y.1, ?_⟩
    obtain ⟨kk, v, h1, rfl⟩ := y.2
    rw [List.getElem?_map] at h1 ⊢
    cases hk : ks[i]? with
    | none => rw [hk] at h1; cases h1
    | some x => rw [hk] at h1; cases h1; rfl) fun H3 e3 => (e.trans (e2.trans e3)) _ _ hd⟩⟩
/-- any dict's keys that are texts -/
theorem ei_keysV {d : Addr} {od : Obj} {ks : List Str} {kvs : List (Key × V)} (h : Ev td σ H (.ref d)) (hd : H d = some (.frz od (.dK kvs))) (hk : kvs.map (·.1) = ks.map Sum.inr) : EvI (iKeys td) σ H ks.length (YAt (ks.map V.str)) := fun H1 e R' k => h H1 e _ fun H2 e2 =>
  ⟨d, od, rfl, .inl ⟨kvs, (e.trans e2) _ _ hd, k _ _ H2 e2 (by
    have w := walk_keys (d := d) (o := od) (kvs := kvs)
    have hl : kvs.length = ks.length := by have := congrArg List.length hk; rwa [List.length_map, List.length_map] at this
    rw [hl] at w
    refine w.mono (fun _ h => h) fun i H x H' hi _ y => ⟨y.1, ?_⟩
    obtain ⟨kk, v, h1, rfl⟩ := y.2
    have h2 : (kvs.map (·.1))[i]? = some kk := by rw [List.getElem?_map, h1]; rfl
    rw [hk, List.getElem?_map] at h2
    rw [List.getElem?_map]
    cases hk : ks[i]? with
    | none => rw [hk] at h2; cases h2
    | some x => rw [hk] at h2; cases h2; rfl) fun H3 e3 => (e.trans (e2.trans e3)) _ _ hd⟩⟩
/-- {x: True for x in xs if p(x)} -/
theorem ed_true {ks : List Str} {us : List Nat} {j : Nat} (p : Str → Bool) (hi : EvI wi σ H ks.length (YAt (ks.map V.str))) (hn : ks.length ≤ 40000) (hw : ∀ x, wipe ((wipe σ us).set j (some x)) us = wipe σ us) (hj : ∀ x, ((wipe σ us).set j (some x))[j]? = some (some x))
    (ht : ∀ (i : Nat) (x : Str) H', ks[i]? = some x → Ex H H' → EvT t ((wipe σ us).set j (some (.str x))) H' (p x)) : EvD (tDc wi (gName j) t (tVar j) (tC (.bl true)) us) σ H (dkT (insAll [] (ks.filter p))) := fun H1 e Q q => hi H1 e _ fun J G H2 e2 w hG D hD => by
  refine dc_acc w hD (fun i => dkT (insAll [] ((ks.take i).filter p))) rfl (fun i _ => ?_) (fun i => p (ks.getD i "")) (fun i => Sum.inr (ks.getD i "")) (fun _ => .bl true) (fun i hi => ?_) hG ?_ ?_
  · rw [List.length_map]
    have h1 := insAll_len ((ks.take i).filter p) []
    have h2 := List.length_filter_le p (ks.take i)
    have h3 : (ks.take i).length ≤ ks.length := by rw [List.length_take]; omega
    simp only [List.length_nil] at h1
    omega
  · have hx : ks[i]? = some ks[i] := List.getElem?_eq_getElem hi
    have e0 : ks.getD i "" = ks[i] := by rw [List.getD_eq_getElem?_getD, hx]; rfl
    have e1 : ks.take (i + 1) = ks.take i ++ [ks[i]] := by rw [List.take_add_one, hx]; rfl
    rw [e0, e1, List.filter_append]
    by_cases h : p ks[i] = true
    · rw [if_pos h, List.filter_cons, if_pos h, List.filter_nil, insAll_snoc, put_dkT]
    · rw [if_neg h, List.filter_cons, if_neg h, List.filter_nil, List.append_nil]
  · rintro i x H' H'' hlt e3 ⟨rfl, hx⟩ C c
    rw [List.getElem?_map] at hx
    cases hk : ks[i]? with
    | none => rw [hk] at hx; cases hx
    | some y =>
      rw [hk] at hx
      have hx := Option.some.inj hx
      subst hx
      have e0 : ks.getD i "" = y := by rw [List.getD_eq_getElem?_getD, hk]; rfl
      refine c _ _ (hw _) (Ex.refl _) (by rw [e0]; exact ht i y _ hk (e.trans (e2.trans e3))) fun _ => ⟨by rw [e0]; exact ev_var (hj _), ev_c⟩
  · intro H' e3 h3
    rw [List.take_length] at h3
    exact q D H' (fresh_back e2 hD) (e2.trans e3) h3
/-- x = {.. for .. in d ..}: the dict at d is locked meanwhile -/
theorem q_lockD {d : Addr} {u : HO} {i : Nat} {kvs : List (Key × V)} (hd : H d = some u) (mu : Mut (some u)) (h : ∀ od, EvD te σ (upd H d (.frz od u)) kvs) (k : ∀ p H1, H p = none → Ex H H1 → H1 p = some (.dK kvs) → tz D (σ.set i (some (.ref p))) H1) : tSeq (tLock (tAsg te (gName i))) tz D σ H :=
  ⟨d, u, hd, mu, fun od => h od _ (Ex.refl _) _ fun p H1 hp e hk => ⟨e d _ upd_same, by
    have npd : p ≠ d := fun z => by rw [z, upd_same] at hp; cases hp
    rw [upd_ne npd] at hp
    exact k p _ hp (ex_unlock hd e) (by rw [upd_ne npd]; exact hk)⟩⟩
theorem q_lockL {d : Addr} {u : HO} {i : Nat} {xs : List V} (hd : H d = some u) (mu : Mut (some u)) (h : ∀ od, EvL te σ (upd H d (.frz od u)) xs) (k : ∀ p H1, H p = none → Ex H H1 → H1 p = some (.lst xs) → tz D (σ.set i (some (.ref p))) H1) : tSeq (tLock (tAsg te (gName i))) tz D σ H :=
  ⟨d, u, hd, mu, fun od => h od _ (Ex.refl _) _ fun p H1 hp e hk => ⟨e d _ upd_same, by
    have npd : p ≠ d := fun z => by rw [z, upd_same] at hp; cases hp
    rw [upd_ne npd] at hp
    exact k p _ hp (ex_unlock hd e) (by rw [upd_ne npd]; exact hk)⟩⟩
/-- for x in e, e a tuple, new or not -/
theorem s_forW {xs : List V} (h : EvW tl σ H xs) (k : ∀ p H1, Ex H H1 → H1 p = some (.tup xs) → ∃ Pv : Nat → L2.St → Hp → Prop, Pv 0 σ H1 ∧ (∀ i σ' H', Pv i σ' H' → H' p = some (.tup xs)) ∧
    (∀ i x σ' H', xs[i]? = some x → Pv i σ' H' → g x σ' H' fun σ2 H2 => tu { D with nx := Pv (i + 1), ct := Pv (i + 1), bk := D.nx } σ2 H2) ∧ ∀ σ' H', Pv xs.length σ' H' → D.nx σ' H') : tFor (iTup K tl) g tu D σ H :=
  h H (Ex.refl H) _ fun p H1 e hp => by
    obtain ⟨Pv, h0, hG, hs, hd⟩ := k p H1 e hp
    exact ⟨p, rfl, ⟨xs, st_of hp⟩, for_tup Pv h0 (fun i σ' H' _ q => st_of (hG i σ' H' q)) hs hd⟩
theorem q_forW {xs : List V} (h : EvW tl σ H xs) (k : ∀ p H1, Ex H H1 → H1 p = some (.tup xs) → ∃ Pv : Nat → L2.St → Hp → Prop, Pv 0 σ H1 ∧ (∀ i σ' H', Pv i σ' H' → H' p = some (.tup xs)) ∧
    (∀ i x σ' H', xs[i]? = some x → Pv i σ' H' → g x σ' H' fun σ2 H2 => tu { D with nx := Pv (i + 1), ct := Pv (i + 1), bk := tz D } σ2 H2) ∧ ∀ σ' H', Pv xs.length σ' H' → tz D σ' H') : tSeq (tFor (iTup K tl) g tu) tz D σ H :=
  s_forW (D := { D with nx := tz D }) h k
end
end Sh
end

section
set_option Elab.async false
set_option linter.all false
set_option maxRecDepth 100000
set_option maxHeartbeats 4000000
/-! Walks: defined_by, uses_of. -/
namespace Sh
open PySem PySem.Spec PyProof.Rows L2 Evl
def kind : Row → Str
  | .con _ _ => "const"
  | .rd _ => "read"
  | .pr _ => "print"
  | .op _ _ _ _ => "op"
  | .ret _ => "return"
  | .jmp _ _ => "jump"
  | .br _ _ _ _ _ => "branch"
def tails (H : Hp) : Row → List V → Prop
  | .con x k, l => l = [.str x, .int k]
  | .rd x, l => l = [.str x]
  | .pr x, l => l = [.str x]
  | .op x o y z, l => l = [.str x, .str o, .str y, .str z]
  | .ret x, l => l = [.str x]
  | .jmp l as, l' => ∃ va, l' = [.str l, va] ∧ StrsAt H va as
  | .br x l1 a1 l2 a2, l => ∃ v1 v2, l = [.str x, .str l1, v1, .str l2, v2] ∧ StrsAt H v1 a1 ∧ StrsAt H v2 a2
theorem RowAt.parts {H : Hp} {v : V} {r : Row} (h : RowAt H v r) : ∃ a l, v = .ref a ∧ H a = some (.tup (.str (kind r) :: l)) ∧ tails H r l := by
  cases r with
  | jmp l as => obtain ⟨va, ⟨a, e1, e2⟩, h2⟩ := h; exact ⟨a, _, e1, e2, va, rfl, h2⟩
  | br x l1 a1 l2 a2 => obtain ⟨v1, v2, ⟨a, e1, e2⟩, h2⟩ := h; exact ⟨a, _, e1, e2, v1, v2, rfl, h2⟩
  | _ => obtain ⟨a, e1, e2⟩ := h; exact ⟨a, _, e1, e2, rfl⟩
def spDby : Sp := fun vs H Q _ => ∃ v r, vs = [v] ∧ RowAt H v r ∧ ∀ H', Ex H H' → Q (optV (dby r)) H'
theorem at0 {x : V} {l : List V} : atI (x :: l) 0 = some x := atI_nat (j := 0) rfl
section
variable {P : Program} {w : World} {K : PySem.W.Frag} {mg : Str → Option Value} {base : Heap} {f : Addr} {fd : FuncData}
abbrev s_defined_by : Stmt := top 1
abbrev n_defined_by : List Str := ["instruction"]
theorem sc_defined_by : FnScope ["instruction"] ["instruction"] (defScope s_defined_by) := ⟨rfl, rfl, rfl, by decide +kernel, rfl, by decide +kernel, by decide +kernel⟩
theorem in1_const : inV (.str "const") [.str "const", .str "op", .str "read"] = true := by decide +kernel
theorem in1_read : inV (.str "read") [.str "const", .str "op", .str "read"] = true := by decide +kernel
theorem in1_print : inV (.str "print") [.str "const", .str "op", .str "read"] = false := by decide +kernel
theorem in1_op : inV (.str "op") [.str "const", .str "op", .str "read"] = true := by decide +kernel
theorem in1_return : inV (.str "return") [.str "const", .str "op", .str "read"] = false := by decide +kernel
theorem in1_jump : inV (.str "jump") [.str "const", .str "op", .str "read"] = false := by decide +kernel
theorem in1_branch : inV (.str "branch") [.str "const", .str "op", .str "read"] = false := by decide +kernel
theorem in_con : ∀ r : Row, inV (.str (kind r)) [.str "const", .str "op", .str "read"] = (dby r).isSome
  | .con _ _ => in1_const
  | .rd _ => in1_read
  | .pr _ => in1_print
  | .op _ _ _ _ => in1_op
  | .ret _ => in1_return
  | .jmp _ _ => in1_jump
  | .br _ _ _ _ _ => in1_branch
theorem ok_defined_by (F : FnP K "defined_by" "defined_by" s_defined_by f fd) : FnOk P w K mg base CX0 1 f fd ["instruction"] spDby := by
  refine F.ok sc_defined_by (fun vs H Q E h => ?_) (fun cdv A outer s H vs Q E hr h => ⟨_, PSs.nox ((pss_one (ps_ret (pe_ifExp (pt_cmpR op_in_seq (pe_ix ix_tup (pv 0) pe_int (fun _ _ => rfl)) (pe_tup (pa_cons pe_str (pa_cons pe_str (pa_cons pe_str pa_nil)))) (by rfl)) (pe_ix ix_tup (pv 0) pe_int (fun _ _ => rfl)) pe_non)))), ?_⟩)
  · obtain ⟨v, r, rfl, _⟩ := h
    rfl
  · obtain ⟨v, r, rfl, hr0, k⟩ := h
    obtain ⟨a, l, rfl, ha, ht⟩ := hr0.parts
    refine s_ret (ev_if (et_is (et_test (ev_inU (ev_ixT (ev_var rfl) ha ev_c at0) (eu_tup (ea3 ev_c ev_c ev_c) (by decide)) rfl rfl)) (in_con r)) (fun hb => ?_) (fun hb => ?_)) k
    · refine ev_ixT (ev_var rfl) ha ev_c ?_
      cases r with
      | con => cases ht; rfl
      | rd => cases ht; rfl
      | op => cases ht; rfl
      | _ => cases hb
    · cases r with
      | con => cases hb
      | rd => cases hb
      | op => cases hb
      | _ => exact ev_c
end
end Sh
end

section
set_option Elab.async false
set_option linter.all false
set_option maxRecDepth 100000
set_option maxHeartbeats 4000000
/-! Walks: uses_of, targets_of. -/
namespace Sh
open PySem PySem.Spec PyProof.Rows L2 Evl
/-- a tuple, new or not, is given back -/
def RetW (xs : List V) (H : Hp) (Q : VK) : Prop := ∀ p H', Ex H H' → H' p = some (.tup xs) → Q (.ref p) H'
theorem s_retW {K : PySem.W.Frag} {D : Ends} {te : TE} {σ : L2.St} {H H0 : Hp} {xs : List V} (h : EvW te σ H xs) (e : Ex H0 H) (k : RetW xs H0 D.rt) : tRet te D σ H := h H (Ex.refl H) _ fun p H1 e1 hp => k p H1 (e.trans e1) hp
def spUses : Sp := fun vs H Q _ => ∃ v r, vs = [v] ∧ RowAt H v r ∧ (uses r).length ≤ 1000 ∧ RetW ((uses r).map V.str) H Q
section
variable {P : Program} {w : World} {K : PySem.W.Frag} {mg : Str → Option Value} {base : Heap} {f : Addr} {fd : FuncData} {σ : L2.St} {H : Hp}
/-- one text compared with a written one -/
theorem et_eqs {ta : TE} {x y : Str} {b : Bool} (h : Ev ta σ H (.str x)) (e : decide (V.str x = V.str y) = b) : EvT (tTest (tOp rEq ta (tC (.str y)))) σ H b := et_is (et_T (ev_op h ev_c (rv_eq rfl))) e
theorem et_in2 {ta : TE} {x y z : Str} {b : Bool} (h : Ev ta σ H (.str x)) (e : inV (.str x) [.str y, .str z] = b) : EvT (tTest (tOp (rIn K false) ta (tTup (tCons (tC (.str y)) (tCons (tC (.str z)) tNil))))) σ H b :=
  et_is (et_T (ev_inU h (eu_tup (ea2 ev_c ev_c) (by show 2 ≤ 100000; decide)) rfl rfl)) e
theorem ew_cat {ta tb : TE} {xs ys : List V} (ha : EvW ta σ H xs) (hb : EvW tb σ H ys) (hz : xs.length + ys.length ≤ 100000) : EvW (tOp (rCatA K) ta tb) σ H (xs ++ ys) := fun H1 e Q q =>
  ha H1 e _ fun p H2 e2 hp => hb H2 (e.trans e2) _ fun p2 H3 e3 hp2 => ⟨p, p2, xs, ys, rfl, rfl, st_of (e3 _ _ hp), st_of hp2, sz_of hz, fun z => q _ _ (e2.trans e3) (by rw [z]; exact hp2),
    fun _ z => q _ _ (e2.trans e3) (by rw [z, List.append_nil]; exact e3 _ _ hp), fun _ _ r hr => q _ _ (e2.trans (e3.trans (Ex.new hr))) upd_same⟩
abbrev s_uses_of : Stmt := top 2
abbrev n_uses_of : List Str := ["row", "kind"]
theorem sc_uses_of : FnScope ["row", "kind"] ["row"] (defScope s_uses_of) := ⟨rfl, rfl, rfl, by decide +kernel, rfl, by decide +kernel, by decide +kernel⟩
theorem ok_uses_of (F : FnP K "uses_of" "uses_of" s_uses_of f fd) : FnOk P w K mg base CX0 1 f fd ["row"] spUses := by
  refine F.ok sc_uses_of (fun vs H Q E h => ?_) (fun cdv A outer s H vs Q E hr h => ⟨_, PSs.nox ((pss_cons (ps_set (i := 1) sc_uses_of.nd rfl (Or.inl rfl) (pe_ix ix_tup (pv 0) pe_int (fun _ _ => rfl))) (pss_cons (ps_if (pt_cmpR op_eq (pv 1) pe_str (nomark _)) (pss_one (ps_ret (pe_slice sl_tupA (pv 0) (po_some pe_int) po_none))) pss_nil) (pss_cons (ps_if (pt_cmpR op_in_seq (pv 1) (pe_tup (pa_cons pe_str (pa_cons pe_str pa_nil))) (by rfl)) (pss_one (ps_ret (pe_tup (pa_cons (pe_ix ix_tup (pv 0) pe_int (fun _ _ => rfl)) pa_nil)))) pss_nil) (pss_cons (ps_if (pt_cmpR op_eq (pv 1) pe_str (nomark _)) (pss_one (ps_ret (pe_ix ix_tup (pv 0) pe_int (fun _ _ => rfl)))) pss_nil) (pss_cons (ps_if (pt_cmpR op_eq (pv 1) pe_str (nomark _)) (pss_one (ps_ret (pe_op op_catA (pe_op op_catA (pe_tup (pa_cons (pe_ix ix_tup (pv 0) pe_int (fun _ _ => rfl)) pa_nil)) (pe_ix ix_tup (pv 0) pe_int (fun _ _ => rfl))) (pe_ix ix_tup (pv 0) pe_int (fun _ _ => rfl))))) pss_nil) (pss_one (ps_ret (pe_tup pa_nil))))))))), ?_⟩)
  · obtain ⟨v, r, rfl, _⟩ := h
    rfl
  · obtain ⟨v, r, rfl, hr0, hl, k⟩ := h
    have s1 : ∀ (v x : V), ((start ["row", "kind"] [v]).set 1 (some x))[1]? = some (some x) := fun _ _ => rfl
    cases r with
    | con x n =>
      obtain ⟨a, rfl, ha⟩ := hr0
      refine q_asg (ev_ixT (ev_var rfl) ha ev_c at0) fun H1 e1 => ?_
      refine q_when (et_eqs (b := false) (ev_var (s1 _ _)) (by decide +kernel)) (fun z => by cases z) (fun _ H2 e2 => ?_)
      refine q_when (et_in2 (b := false) (ev_var (s1 _ _)) (by decide +kernel)) (fun z => by cases z) (fun _ H3 e3 => ?_)
      refine q_when (et_eqs (b := false) (ev_var (s1 _ _)) (by decide +kernel)) (fun z => by cases z) (fun _ H4 e4 => ?_)
      refine q_when (et_eqs (b := false) (ev_var (s1 _ _)) (by decide +kernel)) (fun z => by cases z) (fun _ H5 e5 => ?_)
      exact s_retW (K := K) (ew_new (eu_tup ea_nil (by decide))) (e1.trans (e2.trans (e3.trans (e4.trans e5)))) k
    | rd x =>
      obtain ⟨a, rfl, ha⟩ := hr0
      refine q_asg (ev_ixT (ev_var rfl) ha ev_c at0) fun H1 e1 => ?_
      refine q_when (et_eqs (b := false) (ev_var (s1 _ _)) (by decide +kernel)) (fun z => by cases z) (fun _ H2 e2 => ?_)
      refine q_when (et_in2 (b := false) (ev_var (s1 _ _)) (by decide +kernel)) (fun z => by cases z) (fun _ H3 e3 => ?_)
      refine q_when (et_eqs (b := false) (ev_var (s1 _ _)) (by decide +kernel)) (fun z => by cases z) (fun _ H4 e4 => ?_)
      refine q_when (et_eqs (b := false) (ev_var (s1 _ _)) (by decide +kernel)) (fun z => by cases z) (fun _ H5 e5 => ?_)
      exact s_retW (K := K) (ew_new (eu_tup ea_nil (by decide))) (e1.trans (e2.trans (e3.trans (e4.trans e5)))) k
    | pr x =>
      obtain ⟨a, rfl, ha⟩ := hr0
      refine q_asg (ev_ixT (ev_var rfl) ha ev_c at0) fun H1 e1 => ?_
      refine q_when (et_eqs (b := false) (ev_var (s1 _ _)) (by decide +kernel)) (fun z => by cases z) (fun _ H2 e2 => ?_)
      refine q_when (et_in2 (b := true) (ev_var (s1 _ _)) (by decide +kernel)) (fun _ H3 e3 => ?_) (fun z => by cases z)
      exact s_retW (K := K) (ew_new (eu_tup (ea1 (ev_ixT (ev_var rfl) ((e1.trans (e2.trans e3)) _ _ ha) ev_c (atI_nat (j := 1) rfl))) (by show 1 ≤ 100000; decide))) (e1.trans (e2.trans e3)) k
    | ret x =>
      obtain ⟨a, rfl, ha⟩ := hr0
      refine q_asg (ev_ixT (ev_var rfl) ha ev_c at0) fun H1 e1 => ?_
      refine q_when (et_eqs (b := false) (ev_var (s1 _ _)) (by decide +kernel)) (fun z => by cases z) (fun _ H2 e2 => ?_)
      refine q_when (et_in2 (b := true) (ev_var (s1 _ _)) (by decide +kernel)) (fun _ H3 e3 => ?_) (fun z => by cases z)
      exact s_retW (K := K) (ew_new (eu_tup (ea1 (ev_ixT (ev_var rfl) ((e1.trans (e2.trans e3)) _ _ ha) ev_c (atI_nat (j := 1) rfl))) (by show 1 ≤ 100000; decide))) (e1.trans (e2.trans e3)) k
    | op x o y z =>
      obtain ⟨a, rfl, ha⟩ := hr0
      refine q_asg (ev_ixT (ev_var rfl) ha ev_c at0) fun H1 e1 => ?_
      refine q_when (et_eqs (b := true) (ev_var (s1 _ _)) (by decide +kernel)) (fun _ H2 e2 => ?_) (fun z => by cases z)
      have e := e1.trans e2
      refine ⟨_, rfl, ⟨3, rfl, a, _, rfl, st_of (e _ _ ha), fun z => ?_, fun _ p hp => k p _ (e.trans (Ex.new hp)) upd_same⟩⟩
      exact absurd z.1 (by show ¬ HT.sIx 5 0 (some 3) = 0; decide)
    | jmp l as =>
      obtain ⟨va, ⟨a, rfl, ha⟩, ⟨b, rfl, hb⟩⟩ := hr0
      refine q_asg (ev_ixT (ev_var rfl) ha ev_c at0) fun H1 e1 => ?_
      refine q_when (et_eqs (b := false) (ev_var (s1 _ _)) (by decide +kernel)) (fun z => by cases z) (fun _ H2 e2 => ?_)
      refine q_when (et_in2 (b := false) (ev_var (s1 _ _)) (by decide +kernel)) (fun z => by cases z) (fun _ H3 e3 => ?_)
      refine q_when (et_eqs (b := true) (ev_var (s1 _ _)) (by decide +kernel)) (fun _ H4 e4 => ?_) (fun z => by cases z)
      have e := e1.trans (e2.trans (e3.trans e4))
      exact s_retW (K := K) (ew_old (ev_ixT (ev_var rfl) (e _ _ ha) ev_c (atI_nat (j := 2) rfl)) (e _ _ hb)) e k
    | br x l1 a1 l2 a2 =>
      obtain ⟨v1, v2, ⟨a, rfl, ha⟩, ⟨b, rfl, hb⟩, ⟨c, rfl, hc⟩⟩ := hr0
      refine q_asg (ev_ixT (ev_var rfl) ha ev_c at0) fun H1 e1 => ?_
      refine q_when (et_eqs (b := false) (ev_var (s1 _ _)) (by decide +kernel)) (fun z => by cases z) (fun _ H2 e2 => ?_)
      refine q_when (et_in2 (b := false) (ev_var (s1 _ _)) (by decide +kernel)) (fun z => by cases z) (fun _ H3 e3 => ?_)
      refine q_when (et_eqs (b := false) (ev_var (s1 _ _)) (by decide +kernel)) (fun z => by cases z) (fun _ H4 e4 => ?_)
      refine q_when (et_eqs (b := true) (ev_var (s1 _ _)) (by decide +kernel)) (fun _ H5 e5 => ?_) (fun z => by cases z)
      have e := e1.trans (e2.trans (e3.trans (e4.trans e5)))
      have hl : (x :: (a1 ++ a2)).length ≤ 1000 := hl
      rw [List.length_cons, List.length_append] at hl
      have v0 : ∀ H, Ev (tVar 0) ((start ["row", "kind"] [V.ref a]).set 1 (some (V.str "branch"))) H (.ref a) := fun _ => ev_var rfl
      have h1 := ew_cat (K := K) (ew_cat (K := K) (ew_new (eu_tup (ea1 (ev_ixT (K := K) (v0 _) (e _ _ ha) ev_c (atI_nat (j := 1) rfl))) (by show 1 ≤ 100000; decide)))
        (ew_old (ev_ixT (K := K) (v0 _) (e _ _ ha) ev_c (atI_nat (j := 3) rfl)) (e _ _ hb)) (by simp only [List.length_map, List.length_cons, List.length_nil]; omega)) (ew_old (ev_ixT (K := K) (v0 _) (e _ _ ha) ev_c (atI_nat (j := 5) rfl)) (e _ _ hc))
        (by simp only [List.length_append, List.length_map, List.length_cons, List.length_nil]; omega)
      refine s_retW (K := K) (xs := (uses (.br x l1 a1 l2 a2)).map V.str) ?_ e k
      have ee : (uses (.br x l1 a1 l2 a2)).map V.str = [V.str x] ++ a1.map V.str ++ a2.map V.str := by show (x :: (a1 ++ a2)).map V.str = _; simp
      rw [ee]
      exact h1
/-- the pairs that targets_of gives -/
def TgtAt (H : Hp) (v : V) (l : Str) : Prop := ∃ va, TupAt H v [.str l, va]
theorem tgt_mono : MonoE TgtAt := fun _ _ _ _ e ⟨va, h⟩ => ⟨va, h.mono (tx e)⟩
def spTg : Sp := fun vs H Q _ => ∃ v r, vs = [v] ∧ RowAt H v r ∧ ∀ p H' ts, H p = none → Ex H H' → H' p = some (.lst ts) → Paired (TgtAt H') ts (targs r) → Q (.ref p) H'
abbrev s_targets_of : Stmt := top 4
abbrev n_targets_of : List Str := ["end"]
theorem sc_targets_of : FnScope ["end"] ["end"] (defScope s_targets_of) := ⟨rfl, rfl, rfl, by decide +kernel, rfl, by decide +kernel, by decide +kernel⟩
theorem er_tup2 {ta tb : TE} {x y : V} (ha : Ev ta σ H x) (hb : Ev tb σ H y) : EvR (fun H v => TupAt H v [x, y]) (tTup (tCons ta (tCons tb tNil))) σ H := fun H1 e Q q =>
  eu_tup (ea2 ha hb) (by show 2 ≤ 100000; decide) H1 e Q fun p H2 _ e2 h2 => q _ H2 e2 ⟨p, rfl, h2⟩
theorem EvR.imp {R R' : Hp → V → Prop} {te : TE} (h : EvR R te σ H) (i : ∀ H v, R H v → R' H v) : EvR R' te σ H := fun H1 e Q q => h H1 e Q fun v H2 e2 r => q v H2 e2 (i _ _ r)
theorem ok_targets_of (F : FnP K "targets_of" "targets_of" s_targets_of f fd) : FnOk P w K mg base CX0 1 f fd ["end"] spTg := by
  refine F.ok sc_targets_of (fun vs H Q E h => ?_) (fun cdv A outer s H vs Q E hr h => ⟨_, PSs.nox ((pss_cons (ps_if (pt_cmpR op_eq (pe_ix ix_tup (pv 0) pe_int (fun _ _ => rfl)) pe_str (nomark _)) (pss_one (ps_ret (pe_lst (pa_cons (pe_tup (pa_cons (pe_ix ix_tup (pv 0) pe_int (fun _ _ => rfl)) (pa_cons (pe_ix ix_tup (pv 0) pe_int (fun _ _ => rfl)) pa_nil))) pa_nil)))) pss_nil) (pss_one (ps_ret (pe_ifExp (pt_cmpR op_eq (pe_ix ix_tup (pv 0) pe_int (fun _ _ => rfl)) pe_str (nomark _)) (pe_lst (pa_cons (pe_tup (pa_cons (pe_ix ix_tup (pv 0) pe_int (fun _ _ => rfl)) (pa_cons (pe_ix ix_tup (pv 0) pe_int (fun _ _ => rfl)) pa_nil))) (pa_cons (pe_tup (pa_cons (pe_ix ix_tup (pv 0) pe_int (fun _ _ => rfl)) (pa_cons (pe_ix ix_tup (pv 0) pe_int (fun _ _ => rfl)) pa_nil))) pa_nil))) (pe_lst pa_nil)))))), ?_⟩)
  · obtain ⟨v, r, rfl, _⟩ := h
    rfl
  · obtain ⟨v, r, rfl, hr0, k⟩ := h
    obtain ⟨a, l, rfl, ha, ht⟩ := hr0.parts
    have v0 : ∀ H, Ev (tVar 0) (start ["end"] [V.ref a]) H (.ref a) := fun _ => ev_var rfl
    refine q_when (et_eqs (b := decide (V.str (kind r) = V.str "jump")) (ev_ixT (v0 _) ha ev_c at0) rfl) (fun hj H1 e1 => ?_) (fun hj H1 e1 => ?_)
    · have ej : ∃ x as, r = .jmp x as := by
        cases r with
        | jmp x as => exact ⟨x, as, rfl⟩
        | con => exact absurd hj (show ¬ decide (V.str "const" = V.str "jump") = true by decide +kernel)
        | rd => exact absurd hj (show ¬ decide (V.str "read" = V.str "jump") = true by decide +kernel)
        | pr => exact absurd hj (show ¬ decide (V.str "print" = V.str "jump") = true by decide +kernel)
        | op => exact absurd hj (show ¬ decide (V.str "op" = V.str "jump") = true by decide +kernel)
        | ret => exact absurd hj (show ¬ decide (V.str "return" = V.str "jump") = true by decide +kernel)
        | br => exact absurd hj (show ¬ decide (V.str "branch" = V.str "jump") = true by decide +kernel)
      obtain ⟨x, as, rfl⟩ := ej
      obtain ⟨va, rfl, _⟩ := ht
      exact s_retLP (elp_lst tgt_mono (eap_cons tgt_mono ((er_tup2 (ev_ixT (v0 _) (e1 _ _ ha) ev_c (atI_nat (j := 1) rfl)) (ev_ixT (v0 _) (e1 _ _ ha) ev_c (atI_nat (j := 2) rfl))).imp fun _ _ h => ⟨_, h⟩) eap_nil) (by show 1 ≤ 100000; decide))
        fun p H2 ts hp e2 h2 h3 => k p H2 ts (fresh_back e1 hp) (e1.trans e2) h2 h3
    · refine s_retLP (bs := targs r) ?_ fun p H2 ts hp e2 h2 h3 => k p H2 ts (fresh_back e1 hp) (e1.trans e2) h2 h3
      refine elp_if (et_eqs (b := decide (V.str (kind r) = V.str "branch")) (ev_ixT (v0 _) (e1 _ _ ha) ev_c at0) rfl) (fun hb => ?_) (fun hb => ?_)
      · have ej : ∃ x l1 a1 l2 a2, r = .br x l1 a1 l2 a2 := by
          cases r with
          | br x l1 a1 l2 a2 => exact ⟨x, l1, a1, l2, a2, rfl⟩
          | con => exact absurd hb (show ¬ decide (V.str "const" = V.str "branch") = true by decide +kernel)
          | rd => exact absurd hb (show ¬ decide (V.str "read" = V.str "branch") = true by decide +kernel)
          | pr => exact absurd hb (show ¬ decide (V.str "print" = V.str "branch") = true by decide +kernel)
          | op => exact absurd hb (show ¬ decide (V.str "op" = V.str "branch") = true by decide +kernel)
          | ret => exact absurd hb (show ¬ decide (V.str "return" = V.str "branch") = true by decide +kernel)
          | jmp => exact absurd hb (show ¬ decide (V.str "jump" = V.str "branch") = true by decide +kernel)
        obtain ⟨x, l1, a1, l2, a2, rfl⟩ := ej
        obtain ⟨v1, v2, rfl, _⟩ := ht
        exact elp_lst tgt_mono (eap_cons tgt_mono ((er_tup2 (ev_ixT (v0 _) (e1 _ _ ha) ev_c (atI_nat (j := 2) rfl)) (ev_ixT (v0 _) (e1 _ _ ha) ev_c (atI_nat (j := 3) rfl))).imp fun _ _ h => ⟨_, h⟩)
          (eap_cons tgt_mono ((er_tup2 (ev_ixT (v0 _) (e1 _ _ ha) ev_c (atI_nat (j := 4) rfl)) (ev_ixT (v0 _) (e1 _ _ ha) ev_c (atI_nat (j := 5) rfl))).imp fun _ _ h => ⟨_, h⟩) eap_nil)) (by show 2 ≤ 100000; decide)
      · have e0 : targs r = [] := by
          cases r with
          | jmp => exact absurd hj (show ¬ decide (V.str "jump" = V.str "jump") = false by decide +kernel)
          | br => exact absurd hb (show ¬ decide (V.str "branch" = V.str "branch") = false by decide +kernel)
          | _ => rfl
        rw [e0]
        exact elp_lst tgt_mono eap_nil (by decide)
end
end Sh
end

section
set_option Elab.async false
set_option linter.all false
set_option maxRecDepth 100000
set_option maxHeartbeats 4000000
/-! Walks: definitions, edges. -/
namespace Sh
open PySem PySem.Spec PyProof.Rows L2 Evl
def pbdefs (B : PB) : List Str := B.params ++ B.ins.filterMap dby
def defsP (G : List PB) : List Str := (G.map pbdefs).flatten
theorem defsP_eq (G : List PB) : defsP G = SF.defs (toPg G) := by
  unfold defsP SF.defs toPg
  rw [List.map_map]
  congr 1
  refine List.map_congr_left fun B _ => ?_
  show B.params ++ B.ins.filterMap dby = B.params ++ (B.ins.map fun r => (dby r, uses r)).filterMap (·.1)
  rw [List.filterMap_map]
  rfl
theorem flat_le {G : List PB} (h : ∀ B ∈ G, (pbdefs B).length ≤ 40) : (defsP G).length ≤ 40 * G.length := by
  induction G with
  | nil => simp [defsP]
  | cons B G ih =>
    have h1 := ih fun C hC => h C (List.mem_cons_of_mem _ hC)
    have h2 := h B (List.mem_cons_self ..)
    have e : defsP (B :: G) = pbdefs B ++ defsP G := rfl
    rw [e, List.length_append, List.length_cons]
    omega
theorem Small.bd {G : List PB} (S : Small G) : ∀ B ∈ G, (pbdefs B).length ≤ 40 := fun B hB => by
  have h1 := S.ins B hB
  have h2 := S.par B hB
  have h3 := List.length_filterMap_le dby B.ins
  unfold pbdefs
  rw [List.length_append]
  omega
theorem Small.defs {G : List PB} (S : Small G) : (defsP G).length ≤ 400 := by
  have h1 := flat_le S.bd
  have h2 := S.len
  omega
theorem Small.take {G : List PB} (S : Small G) (i : Nat) : (defsP (G.take i)).length ≤ 400 := by
  have h1 := flat_le (G := G.take i) fun B hB => S.bd B (List.mem_of_mem_take hB)
  have h2 := S.len
  have h3 : (G.take i).length ≤ G.length := by rw [List.length_take]; omega
  omega
theorem take_succ {α : Type} {l : List α} {i : Nat} {x : α} (h : l[i]? = some x) : l.take (i + 1) = l.take i ++ [x] := by
  rw [List.take_add_one, h]
  rfl
theorem defs_succ {G : List PB} {i : Nat} {B : PB} (h : G[i]? = some B) : defsP (G.take (i + 1)) = defsP (G.take i) ++ pbdefs B := by
  unfold defsP
  rw [take_succ h, List.map_append, List.flatten_append]
  simp
def spDefs : Sp := fun vs H Q _ => ∃ v G, vs = [v] ∧ ProgAt H v G ∧ Small G ∧ ∀ p H', H p = none → Ex H H' → H' p = some (.tup ((defsP G).map V.str)) → Q (.ref p) H'
section
variable {P : Program} {w : World} {K : PySem.W.Frag} {mg : Str → Option Value} {base : Heap} {f : Addr} {fd : FuncData} {σ : L2.St} {H : Hp}
theorem ev_dby {ta : TE} {v : V} {r : Row} (h : Ev ta σ H v) (hr : RowAt H v r) : Ev (tCall spDby [] E0 (tCons ta tNil)) σ H (optV (dby r)) := fun H1 e Q q =>
  h H1 e _ fun H2 e2 => ⟨v, r, rfl, hr.mono (tx (e.trans e2)), fun H3 e3 => q H3 (e2.trans e3)⟩
theorem ev_some {ta : TE} {o : Option Str} (h : Ev ta σ H (optV o)) : EvT (tTest (tOp (fun x y H Q => y = .non ∧ Q (.bl (!decide (x = .non))) H) ta (tC .non))) σ H o.isSome := fun H1 e Q q =>
  h H1 e _ fun H2 e2 => ⟨rfl, _, rfl, by
    cases o with
    | none => exact q H2 e2
    | some x => exact q H2 e2⟩
/-- the list of the defined ones of the rows -/
theorem el_dbys {tl : TE} {a : Addr} {vs : List V} {rs : List Row} {j : Nat} {us : List Nat} (h : Ev tl σ H (.ref a)) (ha : H a = some (.tup vs)) (hp : Paired (RowAt H) vs rs) (hz : rs.length ≤ 40000) (hw : ∀ x, wipe ((wipe σ us).set j (some x)) us = wipe σ us) (hj : ∀ x, ((wipe σ us).set j (some x))[j]? = some (some x)) :
    EvL (tLc (iTup K tl) (gName j) (tTest (tOp (fun x y H Q => y = .non ∧ Q (.bl (!decide (x = .non))) H) (tCall spDby [] E0 (tCons (tVar j) tNil)) (tC .non))) (tCall spDby [] E0 (tCons (tVar j) tNil)) us) σ H ((rs.filterMap dby).map V.str) := by
  have hl := pd_len hp
  have h1 : EvLP (fun _ v b => v = V.str b) (tLc (iTup K tl) (gName j) (tTest (tOp (fun x y H Q => y = .non ∧ Q (.bl (!decide (x = .non))) H) (tCall spDby [] E0 (tCons (tVar j) tNil)) (tC .non))) (tCall spDby [] E0 (tCons (tVar j) tNil)) us) σ H ((List.range vs.length).filterMap fun i => rs[i]?.bind dby) := by
    refine elp_lcn mono_eq (ei_tup h ha) (by omega) _ hw (fun i H' x H'' y => y.1) (fun i x H' hi e y => ?_) (fun i x b H' hi e y hb => ?_)
    · obtain ⟨r, hr, ra⟩ := pd_get hp y.2
      rw [hr]
      exact ev_some (ev_dby (ev_var (hj x)) (ra.mono (tx e)))
    · obtain ⟨r, hr, ra⟩ := pd_get hp y.2
      rw [hr] at hb
      have hb : dby r = some b := hb
      have := ev_dby (ev_var (H := H') (hj x)) (ra.mono (tx e))
      rw [hb] at this
      exact evr_eq this
  rw [hl, fm_list] at h1
  exact el_of h1
abbrev s_definitions : Stmt := top 3
abbrev n_definitions : List Str := ["program", "found", "_", "parameters", "instructions", "row"]
theorem sc_definitions : FnScope ["program", "found", "_", "parameters", "instructions", "row"] ["program"] (defScope s_definitions) := ⟨rfl, rfl, rfl, by decide +kernel, rfl, by decide +kernel, by decide +kernel⟩
theorem ok_definitions (F : FnP K "definitions" "definitions" s_definitions f fd) (B : Blt mg) (C_defined_by : Cal P w K mg base "defined_by" 1 ["instruction"] spDby) : FnOk P w K mg base CX0 2 f fd ["program"] spDefs := by
  refine F.ok sc_definitions (fun vs H Q E h => ?_) (fun cdv A outer s H vs Q E hr h => ⟨_, PSs.nox ((pss_cons (ps_set (i := 1) sc_definitions.nd rfl (Or.inl rfl) (pe_lst pa_nil)) (pss_cons (ps_for PassesOwn.never rfl (pi_tup (pv 0)) (pg_tup (by rfl) (pgs_cons (pg_name (i := 2) sc_definitions.nd rfl (Or.inl rfl)) (pgs_cons (pg_name (i := 3) sc_definitions.nd rfl (Or.inl rfl)) (pgs_cons (pg_name (i := 4) sc_definitions.nd rfl (Or.inl rfl)) (pgs_cons (pg_name (i := 2) sc_definitions.nd rfl (Or.inl rfl)) pgs_nil))))) (pss_cons (ps_expr (pe_bm PySem.F.plainAttrs_list PySem.F.slot_list_extend PySem.F.type_list_extend mt_extT (pv 1) (pa_cons (pv 3) pa_nil))) (pss_one (ps_expr (pe_bm PySem.F.plainAttrs_list PySem.F.slot_list_extend PySem.F.type_list_extend mt_extend (pv 1) (pa_cons (pe_lc (own := [("row", 5)]) (g := (gName 5)) rfl sc_definitions.nd (pi_tup (pv 4)) (blkOk_by (own := [("row", 5)]) (N := ["program", "found", "_", "parameters", "instructions", "row"]) (sc := (defScope s_definitions)) (by decide +kernel)) (fun _ _ _ _ _ => (pg_name (i := 5) sc_definitions.nd rfl (Or.inl rfl))) (fun _ _ _ _ _ => pts_one (pt_cmpR op_notN (pe_cal C_defined_by (hr.mono (by decide)) (by rfl) (pa_cons (pv 5) pa_nil)) pe_non (nomark _))) (fun _ _ _ _ _ => (pe_cal C_defined_by (hr.mono (by decide)) (by rfl) (pa_cons (pv 5) pa_nil)))) pa_nil)))))) (pss_one (ps_ret (pe_callTy call_tuple_of (by rfl) B.tuple (by decide +kernel) (pa_cons (pv 1) pa_nil))))))), ?_⟩)
  · obtain ⟨v, G, rfl, _⟩ := h
    rfl
  · obtain ⟨v, G, rfl, ⟨xs, ⟨a, rfl, ha⟩, hp⟩, S, k⟩ := h
    have hlen := pd_len hp
    refine q_asgL (el_lst ea_nil (by decide)) fun l H1 hl e1 h1 => ?_
    refine q_forT (a := a) (xs := xs) (ev_var rfl) (st_of (e1 _ _ ha)) (fun i σ' H' => (∃ o2 o3 o4 o5, σ' = [some (.ref a), some (.ref l), o2, o3, o4, o5]) ∧ Ex H H' ∧ H' l = some (.lst ((defsP (G.take i)).map V.str))) (fun H2 e2 => ⟨⟨none, none, none, none, rfl⟩, e1.trans e2, e2 _ _ h1⟩)
      (fun i σ' H' _ p => st_of (p.2.1 _ _ ha)) ?_ ?_
    · rintro i x σ' H' hx ⟨⟨o2, o3, o4, o5, rfl⟩, e2, h2⟩
      obtain ⟨B, hB, hb⟩ := pd_get hp hx
      obtain ⟨vp, vi, vf, ⟨b, rfl, hb1⟩, ⟨bp, rfl, hbp⟩, ⟨is, ⟨bi, rfl, hbi⟩, hpi⟩, hbf⟩ := BlkAt.mono (tx e2) hb
      have hBm := List.mem_of_getElem? hB
      have sz := S.take i
      have szp := S.par B hBm
      have szi := S.ins B hBm
      have szf := List.length_filterMap_le dby B.ins
      refine g_tup4 hb1 ?_
      have nl : ∀ {z : Addr} {ys : List V}, H' z = some (.tup ys) → z ≠ l := fun h => ne_of h h2 (by intro q; cases q)
      refine s_extT (D := { nx := _, rt := _, bk := _, ct := _ }) h2 (ev_var rfl) (ew_old (ev_var rfl) hbp) (by simp only [List.length_map]; omega) fun H3 e3 => ?_
      have hpi' : Paired (RowAt (upd H3 l (.lst ((defsP (G.take i)).map V.str ++ B.params.map V.str)))) is B.ins := Paired.mapP hpi fun v r q => q.mono ((tx e3).trans (tx_of (e3 _ _ h2) fun _ z => by cases z))
      refine s_extL upd_same (ev_var rfl) (el_dbys (ev_var rfl) (by rw [upd_ne (nl hbi)]; exact e3 _ _ hbi) hpi' (by omega) (fun _ => rfl) (fun _ => rfl)) (by simp only [List.length_map, List.length_append]; omega) fun H4 e4 => ?_
      refine ⟨⟨_, _, _, _, rfl⟩, ex_upd (ex_upd e2 (fresh_back (Ex.refl H) hl) e3) hl e4, ?_⟩
      rw [upd_same, defs_succ hB]
      unfold pbdefs
      rw [List.map_append, List.map_append, List.append_assoc]
    · rintro σ' H' ⟨⟨o2, o3, o4, o5, rfl⟩, e2, h2⟩
      rw [hlen, List.take_length] at h2
      exact s_retU (eu_tuple (ev_var rfl) h2) fun p H3 hp3 e3 h3 => k p H3 (fresh_back e2 hp3) (e2.trans e3) h3
end
end Sh
end

section
set_option Elab.async false
set_option linter.all false
set_option maxRecDepth 100000
set_option maxHeartbeats 4000000
/-! Walks: edges. -/
namespace Sh
open PySem PySem.Spec PyProof.Rows L2 Evl
/-! ### the numbers of the blocks -/
def numK (k : Nat) (L : List PB) : List (Key × V) := (L.zipIdx k).map fun p => (Sum.inr p.1.name, V.int (p.2 : Nat))
theorem numK_len (k : Nat) (L : List PB) : (numK k L).length = L.length := by simp [numK]
theorem numK_val (l : Str) : ∀ (L : List PB) (k : Nat), valV (numK k L) (Sum.inr l) = if l ∈ L.map (·.name) then some (V.int ((k + L.findIdx fun B => B.name == l : Nat))) else none
  | [], k => rfl
  | B :: L, k => by
    have e : numK k (B :: L) = (Sum.inr B.name, V.int (k : Nat)) :: numK (k + 1) L := rfl
    rw [e]
    by_cases h : B.name = l
    · rw [valV_pos (by rw [h]), if_pos (by rw [← h]; exact List.mem_cons_self ..)]
      have : (B :: L).findIdx (fun B => B.name == l) = 0 := by
        rw [List.findIdx_cons, show (B.name == l) = true from beq_iff_eq.mpr h]
        rfl
      rw [this]
      rfl
    · rw [valV_neg (fun z => h (Sum.inr.inj z)), numK_val l L (k + 1)]
      have e2 : (l ∈ (B :: L).map (·.name)) ↔ l ∈ L.map (·.name) := by
        rw [List.map_cons, List.mem_cons]
        exact ⟨fun z => z.elim (fun q => absurd q.symm h) id, .inr⟩
      by_cases h2 : l ∈ L.map (·.name)
      · rw [if_pos h2, if_pos (e2.mpr h2)]
        have : (B :: L).findIdx (fun B => B.name == l) = L.findIdx (fun B => B.name == l) + 1 := by
          rw [List.findIdx_cons, show (B.name == l) = false from beq_eq_false_iff_ne.mpr h]
          rfl
        rw [this]
        congr 2
        omega
      · rw [if_neg h2, if_neg fun z => h2 (e2.mp z)]
theorem numK_succ {G : List PB} {i : Nat} {B : PB} (h : G[i]? = some B) : numK 0 (G.take (i + 1)) = numK 0 (G.take i) ++ [(Sum.inr B.name, V.int (i : Nat))] := by
  have hi := (List.getElem?_eq_some_iff.mp h).1
  have e : 0 + (G.take i).length = i := by rw [List.length_take]; omega
  unfold numK
  rw [take_succ h, List.zipIdx_append, List.map_append]
  rw [e]
  rfl
theorem num_fresh {G : List PB} (S : Small G) {i : Nat} {B : PB} (h : G[i]? = some B) : valV (numK 0 (G.take i)) (Sum.inr B.name) = none := by
  rw [numK_val, if_neg]
  intro z
  obtain ⟨C, hC, e⟩ := List.mem_map.mp z
  obtain ⟨j, hj, ej⟩ := List.getElem_of_mem hC
  rw [List.length_take] at hj
  have hi := (List.getElem?_eq_some_iff.mp h).1
  rw [List.getElem_take] at ej
  have n := S.names
  have h1 : (G.map (·.name))[j]'(by rw [List.length_map]; omega) = (G.map (·.name))[i]'(by rw [List.length_map]; omega) := by
    rw [List.getElem_map, List.getElem_map, ej, e]
    rw [List.getElem?_eq_getElem hi] at h
    rw [Option.some.inj h]
  have := (List.getElem_inj n).mp h1
  omega
def egs (G : List PB) (i : Nat) : List (Nat × Nat) := ((G[i]?.map fun B => targs B.fin).getD []).map fun l => (i, numOf G l)
def edgesTo (G : List PB) (n : Nat) : List (Nat × Nat) := ((List.range n).map (egs G)).flatten
def edgesP (G : List PB) : List (Nat × Nat) := edgesTo G G.length
theorem edges_succ (G : List PB) (n : Nat) : edgesTo G (n + 1) = edgesTo G n ++ egs G n := by
  unfold edgesTo
  rw [List.range_succ, List.map_append, List.flatten_append]
  simp
theorem targs_le (r : Row) : (targs r).length ≤ 2 := by cases r <;> simp [targs]
theorem egs_le (G : List PB) (i : Nat) : (egs G i).length ≤ 2 := by
  unfold egs
  rw [List.length_map]
  cases G[i]? with
  | none => simp
  | some B => exact targs_le _
theorem edgesTo_le (G : List PB) (n : Nat) : (edgesTo G n).length ≤ 2 * n := by
  induction n with
  | zero => simp [edgesTo]
  | succ n ih =>
    rw [edges_succ, List.length_append]
    have := egs_le G n
    omega
theorem egs_at {G : List PB} {i : Nat} {B : PB} (h : G[i]? = some B) : egs G i = (targs B.fin).map fun l => (i, numOf G l) := by
  unfold egs
  rw [h]
  rfl
def EdgeAt (H : Hp) (v : V) (e : Nat × Nat) : Prop := ∃ sd va, TupAt H v [.int (e.1 : Nat), sd, .int (e.2 : Nat), va]
theorem mono_edge : MonoT EdgeAt := fun _ _ _ _ e ⟨sd, va, h⟩ => ⟨sd, va, h.mono e⟩
def spEdges : Sp := fun vs H Q _ => ∃ v G, vs = [v] ∧ ProgAt H v G ∧ Small G ∧ ∀ p H' es, H p = none → Ex H H' → H' p = some (.tup es) → Paired (EdgeAt H') es (edgesP G) → Q (.ref p) H'
section
variable {P : Program} {w : World} {K : PySem.W.Frag} {mg : Str → Option Value} {base : Heap} {f : Addr} {fd : FuncData} {σ : L2.St} {H : Hp} {g : TG} {tu tz : TS} {D : Ends} {ta : TA} {te : TE} {β : Type} {R : Hp → V → β → Prop} {bs : List β}
/-- for i, x in enumerate(t), t a tuple -/
theorem s_forET {a : Addr} {xs : List V} (h : EvA ta σ H [.ref a]) (hx : H a = some (.tup xs)) (Pv : Nat → L2.St → Hp → Prop) (h0 : ∀ H1, Ex H H1 → Pv 0 σ H1) (hl : ∀ i σ' H', Pv i σ' H' → H' a = some (.tup xs))
    (hs : ∀ i x σ' H' T, xs[i]? = some x → Pv i σ' H' → H' T = none → g (.ref T) σ' (upd H' T (.tup [.int (i : Nat), x])) fun σ2 H2 => tu { D with nx := Pv (i + 1), ct := Pv (i + 1), bk := D.nx } σ2 H2) (hd : ∀ σ' H', Pv xs.length σ' H' → D.nx σ' H') : tFor (iEnumT K ta) g tu D σ H :=
  h H (Ex.refl H) _ fun H1 e => ⟨a, xs, rfl, st_of (e _ _ hx), for_it (walk_enumT (K := K)) Pv (h0 H1 e) (fun i σ' H' _ p => st_of (hl i σ' H' p)) (fun i x σ' H' H'' hi p y => by
    obtain ⟨T, z, u, rfl, hT, rfl, e1, e2⟩ := y
    cases e1
    exact hs i u σ' H' T e2 p hT) hd⟩
theorem q_forET {a : Addr} {xs : List V} (h : EvA ta σ H [.ref a]) (hx : H a = some (.tup xs)) (Pv : Nat → L2.St → Hp → Prop) (h0 : ∀ H1, Ex H H1 → Pv 0 σ H1) (hl : ∀ i σ' H', Pv i σ' H' → H' a = some (.tup xs))
    (hs : ∀ i x σ' H' T, xs[i]? = some x → Pv i σ' H' → H' T = none → g (.ref T) σ' (upd H' T (.tup [.int (i : Nat), x])) fun σ2 H2 => tu { D with nx := Pv (i + 1), ct := Pv (i + 1), bk := tz D } σ2 H2) (hd : ∀ σ' H', Pv xs.length σ' H' → tz D σ' H') : tSeq (tFor (iEnumT K ta) g tu) tz D σ H :=
  s_forET (D := { D with nx := tz D }) h hx Pv h0 hl hs hd
/-- for i, x in enumerate(e), e a new list -/
theorem s_forELP (h : EvLP R te σ H bs) (k : ∀ p ws H1, H p = none → Ex H H1 → H1 p = some (.lst ws) → Paired (R H1) ws bs → ∃ Pv : Nat → L2.St → Hp → Prop, Pv 0 σ H1 ∧ (∀ i σ' H', Pv i σ' H' → H' p = some (.lst ws)) ∧
      (∀ i x σ' H' T, ws[i]? = some x → Pv i σ' H' → H' T = none → g (.ref T) σ' (upd H' T (.tup [.int (i : Nat), x])) fun σ2 H2 => tu { D with nx := Pv (i + 1), ct := Pv (i + 1), bk := D.nx } σ2 H2) ∧ ∀ σ' H', Pv ws.length σ' H' → D.nx σ' H') : tFor (iEnum K (tCons te tNil)) g tu D σ H :=
  h H (Ex.refl H) _ fun p H1 ws hp e hl pd => by
    obtain ⟨Pv, h0, hG, hs, hd⟩ := k p ws H1 hp e hl pd
    refine ⟨p, ws, rfl, sq_of hl, for_it (walk_enum (K := K)) Pv h0 (fun i σ' H' _ q => sq_of (hG i σ' H' q)) (fun i x σ' H' H'' hi q y => ?_) hd⟩
    obtain ⟨T, z, u, rfl, hT, rfl, e1, e2⟩ := y
    cases e1
    exact hs i u σ' H' T e2 q hT
theorem er_tup4 {ta tb tc td : TE} {x y z u : V} (ha : Ev ta σ H x) (hb : Ev tb σ H y) (hc : Ev tc σ H z) (hd : Ev td σ H u) : EvR (fun H v => TupAt H v [x, y, z, u]) (tTup (tCons ta (tCons tb (tCons tc (tCons td tNil))))) σ H := fun H1 e Q q =>
  eu_tup (ea_cons ha (ea3 hb hc hd)) (by show 4 ≤ 100000; decide) H1 e Q fun p H2 _ e2 h2 => q _ H2 e2 ⟨p, rfl, h2⟩
abbrev s_edges : Stmt := top 5
abbrev n_edges : List Str := ["program", "number", "block", "numbers", "found", "side", "pair"]
theorem sc_edges : FnScope ["program", "number", "block", "numbers", "found", "side", "pair"] ["program"] (defScope s_edges) := ⟨rfl, rfl, rfl, by decide +kernel, rfl, by decide +kernel, by decide +kernel⟩
theorem ok_edges (F : FnP K "edges" "edges" s_edges f fd) (B : Blt mg) (C_targets_of : Cal P w K mg base "targets_of" 1 ["end"] spTg) : FnOk P w K mg base CX0 2 f fd ["program"] spEdges := by
  refine F.ok sc_edges (fun vs H Q E h => ?_) (fun cdv A outer s H vs Q E hr h => ⟨_, PSs.nox ((pss_cons (ps_setDc (i := 3) (own := [("number", 1), ("block", 2)]) (g := (gTup K 2 (gCons (gName 1) (gCons (gName 2) gNil)))) rfl sc_edges.nd rfl rfl (swd_true rfl rfl rfl (by decide +kernel)) (pi_enumT (by rfl) B.enumerate (pa_cons (pv 0) pa_nil)) (blkOk_by (own := [("number", 1), ("block", 2)]) (N := ["program", "number", "block", "numbers", "found", "side", "pair"]) (sc := (defScope s_edges)) (by decide +kernel)) (fun _ _ _ _ _ => (pg_tupK (K := K) rfl rfl (pgs_cons (pg_name (i := 1) sc_edges.nd rfl (Or.inl rfl)) (pgs_cons (pg_name (i := 2) sc_edges.nd rfl (Or.inl rfl)) pgs_nil)))) (fun _ _ _ _ _ => pts_nil) (fun _ _ _ _ _ => (pe_ix (ix_tupK (K := K) rfl) (pv 2) pe_int (fun _ _ => rfl))) (fun _ _ _ _ _ => (pv 1))) (pss_cons (ps_set (i := 4) sc_edges.nd rfl (Or.inl rfl) (pe_lst pa_nil)) (pss_cons (ps_for PassesOwn.never rfl (pi_enumT (by rfl) B.enumerate (pa_cons (pv 0) pa_nil)) (pg_tup (by rfl) (pgs_cons (pg_name (i := 1) sc_edges.nd rfl (Or.inl rfl)) (pgs_cons (pg_name (i := 2) sc_edges.nd rfl (Or.inl rfl)) pgs_nil))) (pss_one (ps_for PassesOwn.never rfl (pi_enum (by rfl) B.enumerate (pa_cons (pe_cal C_targets_of (hr.mono (by decide)) (by rfl) (pa_cons (pe_ix ix_tup (pv 2) pe_int (fun _ _ => rfl)) pa_nil)) pa_nil)) (pg_tup (by rfl) (pgs_cons (pg_name (i := 5) sc_edges.nd rfl (Or.inl rfl)) (pgs_cons (pg_name (i := 6) sc_edges.nd rfl (Or.inl rfl)) pgs_nil))) (pss_one (ps_expr (pe_bm PySem.F.plainAttrs_list PySem.F.slot_list_append PySem.F.type_list_append mt_append (pv 4) (pa_cons (pe_tup (pa_cons (pv 1) (pa_cons (pv 5) (pa_cons (pe_dget (hu_of hr) (pv 3) (pe_ix ix_tup (pv 6) pe_int (fun _ _ => rfl)) (fun _ _ => rfl)) (pa_cons (pe_ix ix_tup (pv 6) pe_int (fun _ _ => rfl)) pa_nil))))) pa_nil))))))) (pss_one (ps_ret (pe_callTy call_tuple_of (by rfl) B.tuple (by decide +kernel) (pa_cons (pv 4) pa_nil)))))))), ?_⟩)
  · obtain ⟨v, G, rfl, _⟩ := h
    rfl
  · obtain ⟨v, G, rfl, ⟨xs, ⟨a, rfl, ha⟩, hp⟩, S, k⟩ := h
    have hlen := pd_len hp
    have hG := S.len
    have hnum : EvD (tDc (iEnumT K (tCons (tVar 0) tNil)) (gTup K 2 (gCons (gName 1) (gCons (gName 2) gNil))) tYes (tOp (rIxT K) (tVar 2) (tC (.int 0))) (tVar 1) [1, 2]) (start n_edges [.ref a]) H (numK 0 G) := by
      intro H1 e Q q
      refine ei_enumT (ea1 (ev_var rfl)) ha H1 e _ fun J GG H2 e2 wk hGG D hD => ?_
      refine dc_acc wk hD (fun i => numK 0 (G.take i)) rfl (fun i _ => by rw [numK_len, List.length_take]; omega) (fun _ => true) (fun i => Sum.inr ((G[i]?.map (·.name)).getD "")) (fun i => .int (i : Nat)) (fun i hi => ?_) hGG ?_ ?_
      · obtain ⟨B0, hB⟩ : ∃ B0, G[i]? = some B0 := ⟨_, List.getElem?_eq_getElem (by omega)⟩
        rw [if_pos rfl, hB]
        show _ = putK _ (Sum.inr B0.name) _
        rw [putK_new _ (num_fresh S hB), numK_succ hB]
      · rintro i x H' H'' hi e3 ⟨T, z, u, rfl, hT, rfl, ez, hu'⟩ C c
        cases ez
        obtain ⟨B0, hB, hb⟩ := pd_get hp hu'
        obtain ⟨vp, vi, vf, ⟨b, rfl, hb1⟩, _⟩ := BlkAt.mono (tx (e.trans (e2.trans e3))) hb
        refine g_tup2 upd_same (c _ _ rfl (Ex.new hT) et_yes fun _ => ⟨?_, ev_var rfl⟩)
        rw [hB]
        exact ev_ixT (ev_var rfl) (Ex.new hT _ _ hb1) ev_c at0
      · intro H' e3 h3
        rw [hlen, List.take_length] at h3
        exact q D H' (fresh_back e2 hD) (e2.trans e3) h3
    refine s_asgD (D := { nx := _, rt := _, bk := _, ct := _ }) hnum fun d H1 hd e1 h1 => ?_
    refine q_asgL (el_lst ea_nil (by decide)) fun l H2 hl e2 h2 => ?_
    have ndl : d ≠ l := ne_of_none h1 hl
    refine q_forET (a := a) (xs := xs) (ea1 (ev_var rfl)) (e2 _ _ (e1 _ _ ha)) (fun i σ' H' => (∃ o1 o2 o5 o6, σ' = [some (.ref a), o1, o2, some (.ref d), some (.ref l), o5, o6]) ∧ Ex H H' ∧ H' d = some (.dK (numK 0 G)) ∧ ∃ es, H' l = some (.lst es) ∧ Paired (EdgeAt H') es (edgesTo G i))
      (fun H3 e3 => ⟨⟨none, none, none, none, rfl⟩, e1.trans (e2.trans e3), e3 _ _ (e2 _ _ h1), [], e3 _ _ h2, .nil⟩) (fun i σ' H' p => p.2.1 _ _ ha) ?_ ?_
    · rintro i x σ' H' T hx ⟨⟨o1, o2, o5, o6, rfl⟩, e3, h3, es, h4, h5⟩ hT
      obtain ⟨B0, hB, hb⟩ := pd_get hp hx
      obtain ⟨vp, vi, vf, ⟨b, rfl, hb1⟩, _, _, hf⟩ := BlkAt.mono (tx (e3.trans (Ex.new (o := HO.tup [V.int (i : Nat), x]) hT))) hb
      refine g_tup2 upd_same ?_
      have nl : ∀ {z : Addr} {ys : List V} {H' : Hp}, H' z = some (.tup ys) → ∀ {es : List V}, H' l = some (.lst es) → z ≠ l := fun h _ h' => ne_of h h' (by intro q; cases q)
      have hel := pd_len h5
      have hel2 := edgesTo_le G i
      have htl := targs_le B0.fin
      have hiG := (List.getElem?_eq_some_iff.mp hB).1
      refine s_forELP (bs := targs B0.fin) (R := TgtAt) (fun H6 e6 Q6 q6 => ?_) fun p ws H6 hp6 e6 h6 hts => ?_
      · exact ev_ixT (K := K) (ev_var (σ := [some (.ref a), some (.int (i : Nat)), some (.ref b), some (.ref d), some (.ref l), o5, o6]) (i := 2) rfl) hb1 ev_c (atI_nat (j := 3) rfl) H6 e6 _ fun H7 e7 => ⟨vf, B0.fin, rfl, hf.mono (tx (e6.trans e7)), fun p H8 ts hp8 e8 h8 h9 => q6 p H8 ts (fresh_back e7 hp8) (e7.trans e8) h8 h9⟩
      · have e36 := e3.trans ((Ex.new (o := HO.tup [V.int (i : Nat), V.ref b]) hT).trans e6)
        have e06 : Ex H' H6 := (Ex.new hT).trans e6
        have npl : l ≠ p := ne_of_none (Ex.new hT _ _ h4) hp6
        have ndl2 : d ≠ l := ne_of h3 h4 (by intro q; cases q)
        refine ⟨fun j σ' H' => (∃ o2 o5 o6, σ' = [some (.ref a), some (.int (i : Nat)), o2, some (.ref d), some (.ref l), o5, o6]) ∧ Ex H H' ∧ H' d = some (.dK (numK 0 G)) ∧ H' p = some (.lst ws) ∧ Paired (TgtAt H') ws (targs B0.fin) ∧ ∃ es, H' l = some (.lst es) ∧ Paired (EdgeAt H') es (edgesTo G i ++ ((targs B0.fin).take j).map fun l => (i, numOf G l)), ?_, fun j σ' H' q => q.2.2.2.1, ?_, ?_⟩
        · refine ⟨⟨some (.ref b), o5, o6, rfl⟩, e36, e06 _ _ h3, h6, hts, es, e06 _ _ h4, ?_⟩
          rw [List.take_zero, List.map_nil, List.append_nil]
          exact Paired.mapP h5 fun v b q => mono_edge.e _ _ _ _ e06 q
        · rintro j y σ' H7 T2 hy ⟨⟨o2, o5, o6, rfl⟩, f1, f2, f3, f4, es7, f5, f6⟩ hT2
          obtain ⟨lb, hlb, va, t, rfl, ht⟩ := pd_get f4 hy
          have n1 : T2 ≠ l := (ne_of_none f5 hT2).symm
          have n2 := Ex.new (o := HO.tup [V.int (j : Nat), V.ref t]) hT2
          refine g_tup2 upd_same ?_
          have hin : lb ∈ G.map (·.name) := S.tg B0 (List.mem_of_getElem? hB) lb (List.mem_of_getElem? hlb)
          have hval : valV (numK 0 G) (Sum.inr lb) = some (.int (numOf G lb : Nat)) := by
            rw [numK_val, if_pos hin, Nat.zero_add]
            rfl
          refine s_appR (D := { nx := _, rt := _, bk := _, ct := _ }) (n2 _ _ f5) (ev_var rfl) (er_tup4 (ev_var rfl) (ev_var rfl) (ev_dget (k := Sum.inr lb) (ev_var rfl) (ev_ixT (ev_var rfl) (n2 _ _ ht) ev_c at0) (n2 _ _ f2) hval) (ev_ixT (ev_var rfl) (n2 _ _ ht) ev_c (atI_nat (j := 1) rfl))) ?_ fun v H8 e8 hv => ?_
          · have h1 := pd_len f6
            rw [List.length_append, List.length_map, List.length_take] at h1
            omega
          · have n3 := n2.trans e8
            have nlp : p ≠ l := npl.symm
            have t8 : TX H8 (upd H8 l (.lst (es7 ++ [v]))) := tx_of (n3 _ _ f5) fun _ z => by cases z
            refine ⟨⟨_, _, _, rfl⟩, ex_upd (f1.trans n2) (fresh_back (Ex.refl H) (fresh_back e1 (fresh_back (Ex.refl _) hl))) e8, by rw [upd_ne ndl2]; exact n3 _ _ f2, by rw [upd_ne nlp]; exact n3 _ _ f3, Paired.mapP f4 fun v b q => ?_, _, upd_same, ?_⟩
            · obtain ⟨va, q⟩ := q
              exact ⟨va, q.mono ((tx n3).trans t8)⟩
            · have e9 : ((targs B0.fin).take (j + 1)).map (fun l => (i, numOf G l)) = ((targs B0.fin).take j).map (fun l => (i, numOf G l)) ++ [(i, numOf G lb)] := by
                rw [take_succ hlb, List.map_append]
                rfl
              rw [e9, ← List.append_assoc]
              exact pd_snoc (Paired.mapP f6 fun v b q => mono_edge _ _ _ _ ((tx n3).trans t8) q) ⟨_, _, hv.mono t8⟩
        · rintro σ' H7 ⟨⟨o2, o5, o6, rfl⟩, f1, f2, f3, f4, es7, f5, f6⟩
          refine ⟨⟨_, _, _, _, rfl⟩, f1, f2, es7, f5, ?_⟩
          have e9 : ws.length = (targs B0.fin).length := pd_len hts
          rw [e9, List.take_length] at f6
          rw [edges_succ, egs_at hB]
          exact f6
    · rintro σ' H' ⟨⟨o1, o2, o5, o6, rfl⟩, e3, h3, es, h4, h5⟩
      rw [hlen] at h5
      exact s_retUP (elp_old mono_edge.e (ev_var rfl) h4 h5) fun p H5 ws hp5 e5 h6 h7 => k p H5 ws (fresh_back e3 hp5) (e3.trans e5) h6 h7
end
end Sh
end

section
set_option Elab.async false
set_option linter.all false
set_option maxRecDepth 100000
set_option maxHeartbeats 4000000
/-! Walks: reached. -/
namespace Sh
open PySem PySem.Spec PyProof.Rows L2 Evl
open SF (RA Reach Dom sucOf domsOf)
def sucE (es : List (Nat × Nat)) (u : Nat) : List Nat := es.filterMap fun e => if e.1 = u then some e.2 else none
theorem mem_sucE {es : List (Nat × Nat)} {u v : Nat} : v ∈ sucE es u ↔ (u, v) ∈ es := by
  unfold sucE
  rw [List.mem_filterMap]
  constructor
  · rintro ⟨⟨a, b⟩, h, e⟩
    by_cases q : a = u
    · subst q
      rw [if_pos rfl] at e
      rw [← Option.some.inj e]
      exact h
    · rw [if_neg q] at e
      cases e
  · intro h
    exact ⟨(u, v), h, if_pos rfl⟩
def PairAt (H : Hp) (v : V) (e : Nat × Nat) : Prop := TupAt H v [.int (e.1 : Nat), .int (e.2 : Nat)]
theorem mono_pair : MonoT PairAt := fun _ _ _ _ e h => TupAt.mono e h
/-- numbers as keys, each with True -/
def nkT (ns : List Nat) : List (Key × V) := ns.map fun n => (Sum.inl ((n : Nat) : Int), V.bl true)
theorem valV_nkT (n : Nat) : ∀ ns : List Nat, (valV (nkT ns) (Sum.inl (n : Int))).isSome = decide (n ∈ ns)
  | [] => rfl
  | a :: r => by
    have e : nkT (a :: r) = (Sum.inl ((a : Nat) : Int), V.bl true) :: nkT r := rfl
    rw [e]
    by_cases h : a = n
    · subst h
      rw [valV_pos rfl]
      simp
    · have h' : ¬ (Sum.inl ((a : Nat) : Int) : Key) = Sum.inl ((n : Nat) : Int) := fun z => h (by have := Sum.inl.inj z; omega)
      rw [valV_neg h', valV_nkT n r]
      have : ¬ n = a := fun z => h z.symm
      simp [this]
theorem nkT_snoc {ns : List Nat} {n : Nat} (h : n ∉ ns) : putK (nkT ns) (Sum.inl (n : Int)) (.bl true) = nkT (ns ++ [n]) := by
  rw [putK_new]
  · unfold nkT
    rw [List.map_append]
    rfl
  · have := valV_nkT n ns
    rw [decide_eq_false h] at this
    cases q : valV (nkT ns) (Sum.inl (n : Int)) with
    | none => rfl
    | some x => rw [q] at this; cases this
def intV (n : Nat) : V := .int (n : Nat)
/-- nodup numbers below N are at most N -/
theorem nd_le {N : Nat} : ∀ {ns : List Nat}, ns.Nodup → (∀ n ∈ ns, n < N) → ns.length ≤ N := by
  intro ns hn hb
  have h := SF.nd_sub hn (m := List.range N) fun x hx => List.mem_range.mpr (hb x hx)
  rw [List.length_range] at h
  exact h
/-- arrows from l, reached blocks -/
def spReached : Sp := fun vs H Q _ => ∃ (a : Addr) (xs : List V) (es : List (Nat × Nat)) (wn N : Nat), vs = [.ref a, .int (wn : Nat)] ∧ H a = some (.lst xs) ∧ Paired (PairAt H) xs es ∧ es.length ≤ 100 ∧ 0 < N ∧ N ≤ 100 ∧ (∀ e ∈ es, e.2 < N) ∧
  ∀ p H' (ns : List Nat), H p = none → Ex H H' → H' p = some (.dK (nkT ns)) → (∀ v, v ∈ ns ↔ RA (sucE es) (fun u => u = wn) v) → Q (.ref p) H'
/-- the loop's state -/
structure RSt (es : List (Nat × Nat)) (wn N : Nat) (ns ts : List Nat) : Prop where
  nd : ns.Nodup
  lt : ∀ v ∈ ns, v < N
  ra : ∀ v ∈ ns, RA (sucE es) (fun u => u = wn) v
  rt : ∀ v ∈ ts, RA (sucE es) (fun u => u = wn) v
  lt2 : ∀ v ∈ ts, v < N
  cl : ∀ u ∈ ns, ∀ v, (u, v) ∈ es → v ≠ wn → v ∈ ns ∨ v ∈ ts
  z : 0 ≠ wn → 0 ∈ ns ∨ 0 ∈ ts
def outs (es : List (Nat × Nat)) (n wn : Nat) : List Nat := es.filterMap fun e => if e.1 = n ∧ e.2 ≠ wn then some e.2 else none
theorem mem_outs {es : List (Nat × Nat)} {n wn v : Nat} : v ∈ outs es n wn ↔ (n, v) ∈ es ∧ v ≠ wn := by
  unfold outs
  rw [List.mem_filterMap]
  constructor
  · rintro ⟨⟨a, b⟩, h, e⟩
    by_cases q : a = n ∧ b ≠ wn
    · rw [if_pos q] at e
      obtain ⟨rfl, q2⟩ := q
      have e := Option.some.inj e
      subst e
      exact ⟨h, q2⟩
    · rw [if_neg q] at e
      cases e
  · rintro ⟨h, q⟩
    exact ⟨(n, v), h, if_pos ⟨rfl, q⟩⟩
theorem RSt.skip {es : List (Nat × Nat)} {wn N n : Nat} {ns ts : List Nat} (S : RSt es wn N ns (ts ++ [n])) (h : n ∈ ns) : RSt es wn N ns ts where
  nd := S.nd
  lt := S.lt
  ra := S.ra
  rt := fun v hv => S.rt v (List.mem_append_left _ hv)
  lt2 := fun v hv => S.lt2 v (List.mem_append_left _ hv)
  cl := fun u hu v he hv => by
    rcases S.cl u hu v he hv with q | q
    · exact .inl q
    · rcases List.mem_append.mp q with q | q
      · exact .inr q
      · rw [List.mem_singleton.mp q]; exact .inl h
  z := fun h0 => by
    rcases S.z h0 with q | q
    · exact .inl q
    · rcases List.mem_append.mp q with q | q
      · exact .inr q
      · rw [List.mem_singleton.mp q]; exact .inl h
theorem RSt.go {es : List (Nat × Nat)} {wn N n : Nat} {ns ts : List Nat} (S : RSt es wn N ns (ts ++ [n])) (h : n ∉ ns) (hN : ∀ e ∈ es, e.2 < N) : RSt es wn N (ns ++ [n]) (ts ++ outs es n wn) where
  nd := List.nodup_append.mpr ⟨S.nd, by simp, fun a ha b hb e => h (by rw [← List.mem_singleton.mp hb, ← e]; exact ha)⟩
  lt := fun v hv => by
    rcases List.mem_append.mp hv with q | q
    · exact S.lt v q
    · rw [List.mem_singleton.mp q]; exact S.lt2 n (List.mem_append_right _ (List.mem_singleton.mpr rfl))
  ra := fun v hv => by
    rcases List.mem_append.mp hv with q | q
    · exact S.ra v q
    · rw [List.mem_singleton.mp q]; exact S.rt n (List.mem_append_right _ (List.mem_singleton.mpr rfl))
  rt := fun v hv => by
    rcases List.mem_append.mp hv with q | q
    · exact S.rt v (List.mem_append_left _ q)
    · obtain ⟨q1, q2⟩ := mem_outs.mp q
      exact .step (S.rt n (List.mem_append_right _ (List.mem_singleton.mpr rfl))) (mem_sucE.mpr q1) q2
  lt2 := fun v hv => by
    rcases List.mem_append.mp hv with q | q
    · exact S.lt2 v (List.mem_append_left _ q)
    · exact hN _ (mem_outs.mp q).1
  cl := fun u hu v he hv => by
    rcases List.mem_append.mp hu with q | q
    · rcases S.cl u q v he hv with q | q
      · exact .inl (List.mem_append_left _ q)
      · rcases List.mem_append.mp q with q | q
        · exact .inr (List.mem_append_left _ q)
        · exact .inl (List.mem_append_right _ q)
    · rw [List.mem_singleton.mp q] at he
      exact .inr (List.mem_append_right _ (mem_outs.mpr ⟨he, hv⟩))
  z := fun h0 => by
    rcases S.z h0 with q | q
    · exact .inl (List.mem_append_left _ q)
    · rcases List.mem_append.mp q with q | q
      · exact .inr (List.mem_append_left _ q)
      · exact .inl (List.mem_append_right _ q)
theorem RSt.done {es : List (Nat × Nat)} {wn N : Nat} {ns : List Nat} (S : RSt es wn N ns []) (v : Nat) : v ∈ ns ↔ RA (sucE es) (fun u => u = wn) v := by
  refine ⟨S.ra v, fun r => ?_⟩
  induction r with
  | zero h0 => exact (S.z h0).elim id fun z => by cases z
  | step _ e n ih => exact (S.cl _ ih _ (mem_sucE.mp e) n).elim id fun z => by cases z
section
variable {P : Program} {w : World} {K : PySem.W.Frag} {mg : Str → Option Value} {base : Heap} {f : Addr} {fd : FuncData} {σ : L2.St} {H : Hp} {g : TG} {tu tz : TS} {D : Ends} {ta tb te tl : TE} {tr : TA} {β : Type} {R : Hp → V → β → Prop} {bs : List β} {t : TT}
/-- a list as a test -/
theorem et_list {a : Addr} {xs : List V} {b : Bool} (h : Ev ta σ H (.ref a)) (ha : H a = some (.lst xs)) (e : (!xs.isEmpty) = b) : EvT (fun σ H Q => ta σ H fun x H' => ∃ k, TruV K x H' k ∧ Q k H') σ H b := fun H1 e1 Q q =>
  h H1 e1 _ fun H2 e2 => ⟨b, .inl ⟨xs, sq_of ((e1.trans e2) _ _ ha), e.symm⟩, q H2 e2⟩
abbrev s_reached : Stmt := top 6
abbrev n_reached : List Str := ["arrows", "without", "found", "todo", "number", "source", "target"]
theorem sc_reached : FnScope ["arrows", "without", "found", "todo", "number", "source", "target"] ["arrows", "without"] (defScope s_reached) := ⟨rfl, rfl, rfl, by decide +kernel, rfl, by decide +kernel, by decide +kernel⟩
theorem ok_reached (F : FnP K "reached" "reached" s_reached f fd) (B : Blt mg) : FnOk P w K mg base CX0 1 f fd ["arrows", "without"] spReached := by
  refine F.ok sc_reached (fun vs H Q E h => ?_) (fun cdv A outer s H vs Q E hr h => ⟨_, PSs.nox ((pss_cons (ps_set (i := 2) sc_reached.nd rfl (Or.inl rfl) pe_dnewK) (pss_cons (ps_set (i := 3) sc_reached.nd rfl (Or.inl rfl) (pe_ifExp (pt_cmpR op_ne (pv 1) pe_int (nomark _)) (pe_lst (pa_cons pe_int pa_nil)) (pe_lst pa_nil))) (pss_cons (ps_while PassesOwn.never (pt_truth (pv 3) (by intro _; rfl)) (pss_cons (ps_set (i := 4) sc_reached.nd rfl (Or.inr rfl) (pe_bm0 PySem.F.plainAttrs_list PySem.F.slot_list_pop PySem.F.type_list_pop mt_pop (pv 3))) (pss_one (ps_if (pt_cmp (pc_dnotin (hu_of hr) (pv 4) (pv 2))) (pss_cons (ps_dput (hu_of hr) (pv 2) (pv 4) pe_bl rfl) (pss_one (ps_expr (pe_bm PySem.F.plainAttrs_list PySem.F.slot_list_extend PySem.F.type_list_extend mt_extend (pv 3) (pa_cons (pe_lc (own := [("source", 5), ("target", 6)]) (g := (gTup K 2 (gCons (gName 5) (gCons (gName 6) gNil)))) rfl sc_reached.nd (pi_list (pv 0)) (blkOk_by (own := [("source", 5), ("target", 6)]) (N := ["arrows", "without", "found", "todo", "number", "source", "target"]) (sc := (defScope s_reached)) (by decide +kernel)) (fun _ _ _ _ _ => (pg_tupK (K := K) rfl rfl (pgs_cons (pg_name (i := 5) sc_reached.nd rfl (Or.inl rfl)) (pgs_cons (pg_name (i := 6) sc_reached.nd rfl (Or.inl rfl)) pgs_nil)))) (fun _ _ _ _ _ => pts_one (PW.pt (pw_and (pt_cmpR op_eq (pv 5) (pv 4) (nomark _)) (pw_and1 (pt_cmpR op_ne (pv 6) (pv 1) (nomark _)))))) (fun _ _ _ _ _ => (pv 6))) pa_nil))))) pss_nil)))) (pss_one (ps_ret (pv 2))))))), ?_⟩)
  · obtain ⟨a, xs, es, wn, N, rfl, _⟩ := h
    rfl
  · obtain ⟨a, xs, es, wn, N, rfl, ha, hp, hes, hN0, hN1, hN, k⟩ := h
    have hlen := pd_len hp
    refine q_asgD ed_new fun d H1 hd e1 h1 => ?_
    refine q_asgL (xs := ((if wn = 0 then [] else [0]) : List Nat).map intV) (fun H2 e2 Q2 q2 => ?_) fun l H2 hl e2 h2 => ?_
    · refine ev_op (ev_var rfl) ev_c (rv_ne rfl) H2 e2 _ fun H3 e3 => ⟨_, rfl, ?_⟩
      by_cases h0 : wn = 0
      · have e0 : (!decide (V.int (wn : Nat) = V.int 0)) = false := by rw [h0]; rfl
        rw [e0, if_pos h0] at *
        exact el_lst ea_nil (by decide) H3 (Ex.refl _) _ fun p H4 hp e4 h4 => q2 p H4 (fresh_back e3 hp) (e3.trans e4) h4
      · have e0 : (!decide (V.int (wn : Nat) = V.int 0)) = true := by
          rw [decide_eq_false (fun z => h0 (by have := V.int.inj z; omega))]
          rfl
        rw [e0, if_neg h0] at *
        exact el_lst (ea1 ev_c) (by show 1 ≤ 100000; decide) H3 (Ex.refl _) _ fun p H4 hp e4 h4 => q2 p H4 (fresh_back e3 hp) (e3.trans e4) h4
    have ndl : d ≠ l := ne_of_none h1 hl
    have S0 : RSt es wn N [] (if wn = 0 then [] else [0]) := by
      refine ⟨List.nodup_nil, fun v hv => (by cases hv), fun v hv => (by cases hv), fun v hv => ?_, fun v hv => ?_, fun u hu => (by cases hu), fun h0 => .inr ?_⟩
      · by_cases h0 : wn = 0
        · rw [if_pos h0] at hv; cases hv
        · rw [if_neg h0] at hv
          rw [List.mem_singleton.mp hv]
          exact .zero fun z => h0 z.symm
      · by_cases h0 : wn = 0
        · rw [if_pos h0] at hv; cases hv
        · rw [if_neg h0] at hv
          rw [List.mem_singleton.mp hv]
          exact hN0
      · rw [if_neg fun z => h0 z.symm]
        exact List.mem_singleton.mpr rfl
    refine q_while (fun m σ' H' => ∃ ns ts, (∃ o4 o5 o6, σ' = [some (.ref a), some (.int (wn : Nat)), some (.ref d), some (.ref l), o4, o5, o6]) ∧ Ex H H' ∧ H' d = some (.dK (nkT ns)) ∧ H' l = some (.lst (ts.map intV)) ∧ RSt es wn N ns ts ∧ (N - ns.length) * (es.length + 1) + ts.length = m ∧ ts.length ≤ 1 + ns.length * 100) _
      ⟨[], _, ⟨none, none, none, rfl⟩, e1.trans e2, e2 _ _ h1, h2, S0, rfl, by split <;> simp⟩ ?_
    rintro m σ' H' ⟨ns, ts, ⟨o4, o5, o6, rfl⟩, e3, h3, h4, S, rfl, hts⟩
    have hns : ns.length ≤ N := nd_le S.nd S.lt
    refine ⟨!ts.isEmpty, et_list (ev_var rfl) h4 (by cases ts <;> rfl), fun hb H4 e4 => ?_, fun hb H4 e4 => ?_⟩
    · obtain ⟨ts', n, rfl⟩ : ∃ ts' n, ts = ts' ++ [n] := by
        cases ts with
        | nil => cases hb
        | cons x r => exact ⟨(x :: r).dropLast, (x :: r).getLast (by simp), (List.dropLast_concat_getLast _).symm⟩
      refine ⟨fun σ2 H2 => ∃ m', m' < (N - ns.length) * (es.length + 1) + (ts' ++ [n]).length ∧ ∃ ns ts, (∃ o4 o5 o6, σ2 = [some (.ref a), some (.int (wn : Nat)), some (.ref d), some (.ref l), o4, o5, o6]) ∧ Ex H H2 ∧ H2 d = some (.dK (nkT ns)) ∧ H2 l = some (.lst (ts.map intV)) ∧ RSt es wn N ns ts ∧ (N - ns.length) * (es.length + 1) + ts.length = m' ∧ ts.length ≤ 1 + ns.length * 100, fun σ2 H2 h => h, ?_⟩
      rw [List.map_append] at h4
      have hl0 : H l = none := fresh_back e1 hl
      refine q_pop (ev_var rfl) (e4 _ _ h4) fun H5 e5 => ?_
      have e45 := e4.trans e5
      have hd5 : upd H5 l (.lst (ts'.map intV)) d = some (.dK (nkT ns)) := by rw [upd_ne ndl]; exact e45 _ _ h3
      have ex5 := ex_upd (o := .lst (ts'.map intV)) e3 hl0 e45
      refine s_when (b := decide (n ∉ ns)) (et_B (ev_dnotin (k := Sum.inl (n : Int)) (ev_var rfl) (ev_var rfl) hd5 (by rw [valV_nkT]; simp))) (fun hn H6 e6 => ?_) (fun hn H6 e6 => ?_)
      · have hn := of_decide_eq_true hn
        have hlt : n < N := S.lt2 n (List.mem_append_right _ (List.mem_singleton.mpr rfl))
        have S' := S.go hn hN
        have hns' : (ns ++ [n]).length ≤ N := nd_le S'.nd S'.lt
        refine q_dput (kk := Sum.inl (n : Int)) (e6 _ _ hd5) ev_c (ev_var rfl) (ev_var rfl) (by unfold nkT; rw [List.length_map]; omega) fun H7 e7 => ?_
        rw [nkT_snoc hn]
        have hl6 : (upd H7 d (.dK (nkT (ns ++ [n])))) l = some (.lst (ts'.map intV)) := by rw [upd_ne ndl.symm]; exact e7 _ _ (e6 _ _ upd_same)
        have ex7 := ex_upd (o := .dK (nkT (ns ++ [n]))) ex5 hd (e6.trans e7)
        have ha7 := ex7 _ _ ha
        have hp7 : Paired (PairAt (upd H7 d (.dK (nkT (ns ++ [n]))))) xs es := Paired.mapP hp fun v b q => mono_pair.e _ _ _ _ ex7 q
        have hcomp : EvL (tLc (iList K (tVar 0)) (gTup K 2 (gCons (gName 5) (gCons (gName 6) gNil))) (tAnd (tTest (tOp rEq (tVar 5) (tVar 4))) (tTest (tOp rNe (tVar 6) (tVar 1)))) (tVar 6) [5, 6]) [some (.ref a), some (.int (wn : Nat)), some (.ref d), some (.ref l), some (intV n), o5, o6] (upd H7 d (.dK (nkT (ns ++ [n])))) ((outs es n wn).map intV) := by
          have q : EvLP (fun _ v b => v = intV b) (tLc (iList K (tVar 0)) (gTup K 2 (gCons (gName 5) (gCons (gName 6) gNil))) (tAnd (tTest (tOp rEq (tVar 5) (tVar 4))) (tTest (tOp rNe (tVar 6) (tVar 1)))) (tVar 6) [5, 6]) [some (.ref a), some (.int (wn : Nat)), some (.ref d), some (.ref l), some (intV n), o5, o6] (upd H7 d (.dK (nkT (ns ++ [n])))) ((List.range xs.length).filterMap fun i => es[i]?.bind fun e => if e.1 = n ∧ e.2 ≠ wn then some e.2 else none) := by
            refine elp_lc mono_eq (ei_lst (ev_var rfl) ha7) (by omega) _ ?_
            rintro i x H8 H9 hi e8 ⟨rfl, hx⟩ C c
            obtain ⟨⟨u, v⟩, hev, t, rfl, ht⟩ := pd_get hp7 hx
            refine g_tup2 (e8 _ _ ht) (c _ _ rfl (Ex.refl _) ?_ ?_)
            · rw [hev]
              refine et_is (et_and (et_T (ev_op (ev_var rfl) (ev_var rfl) (rv_eq rfl))) fun _ => et_T (ev_op (ev_var rfl) (ev_var rfl) (rv_ne rfl))) ?_
              show (decide (V.int (u : Nat) = intV n) && !decide (V.int (v : Nat) = V.int (wn : Nat))) = Option.isSome (if u = n ∧ v ≠ wn then some v else none)
              have e1 : decide (V.int (u : Nat) = intV n) = decide (u = n) := decide_eq_decide.mpr ⟨fun z => by have := V.int.inj z; omega, fun z => by rw [z]; rfl⟩
              have e2 : decide (V.int (v : Nat) = V.int (wn : Nat)) = decide (v = wn) := decide_eq_decide.mpr ⟨fun z => by have := V.int.inj z; omega, fun z => by rw [z]⟩
              rw [e1, e2]
              by_cases q1 : u = n <;> by_cases q2 : v = wn <;> simp [q1, q2]
            · intro b hb
              rw [hev] at hb
              have hb : (if u = n ∧ v ≠ wn then some v else none) = some b := hb
              by_cases q : u = n ∧ v ≠ wn
              · rw [if_pos q] at hb
                cases hb
                exact evr_eq (ev_var rfl)
              · rw [if_neg q] at hb
                cases hb
          rw [hlen, fm_list] at q
          exact el_of q
        have hol : (outs es n wn).length ≤ es.length := List.length_filterMap_le _ _
        rw [List.length_append, List.length_singleton] at hts hns'
        refine s_extL (D := { nx := _, rt := _, bk := _, ct := _ }) hl6 (ev_var rfl) hcomp (by simp only [List.length_map]; have : ns.length * 100 ≤ 100 * 100 := Nat.mul_le_mul_right _ (by omega); omega) fun H8 e8 => ?_
        refine ⟨_, ?_, ns ++ [n], ts' ++ outs es n wn, ⟨_, _, _, rfl⟩, ex_upd ex7 hl0 e8, by rw [upd_ne ndl]; exact e8 _ _ upd_same, by rw [upd_same, List.map_append], S', rfl, ?_⟩
        · have e9 : N - ns.length = (N - (ns ++ [n]).length) + 1 := by rw [List.length_append, List.length_singleton]; omega
          rw [e9, Nat.add_mul]
          simp only [List.length_append, List.length_singleton]
          omega
        · rw [List.length_append, List.length_append, List.length_singleton, Nat.add_mul]
          omega
      · have hn : n ∈ ns := Classical.byContradiction fun z => by rw [decide_eq_true z] at hn; cases hn
        refine ⟨(N - ns.length) * (es.length + 1) + ts'.length, by rw [List.length_append, List.length_singleton]; omega, ns, ts', ⟨_, _, _, rfl⟩, ex5.trans e6, e6 _ _ hd5, e6 _ _ upd_same, S.skip hn, rfl, by rw [List.length_append, List.length_singleton] at hts; omega⟩
    · obtain rfl : ts = [] := by
        cases ts with
        | nil => rfl
        | cons => cases hb
      exact s_ret (ev_var rfl) fun H5 e5 => k d H5 ns hd ((e3.trans e4).trans e5) (e5 _ _ (e4 _ _ h3)) S.done
end
end Sh
end

section
set_option Elab.async false
set_option linter.all false
set_option maxRecDepth 100000
set_option maxHeartbeats 4000000
/-! Walks: dominators. -/
namespace Sh
open PySem PySem.Spec PyProof.Rows L2 Evl Classical
open SF (RA Reach Dom sucOf domsOf)
abbrev suc (G : List PB) : Nat → List Nat := sucOf (toPg G)
theorem numOf_lt {G : List PB} {l : Str} (h : l ∈ G.map (·.name)) : numOf G l < G.length := by
  unfold numOf
  obtain ⟨B, hB, e⟩ := List.mem_map.mp h
  exact List.findIdx_lt_length.mpr ⟨B, hB, beq_iff_eq.mpr e⟩
theorem mem_edges {G : List PB} {u v : Nat} : (u, v) ∈ edgesP G ↔ ∃ B, G[u]? = some B ∧ ∃ l ∈ targs B.fin, v = numOf G l := by
  unfold edgesP edgesTo
  rw [List.mem_flatten]
  constructor
  · rintro ⟨l, hl, h⟩
    obtain ⟨i, hi, rfl⟩ := List.mem_map.mp hl
    obtain ⟨B, hB⟩ : ∃ B, G[i]? = some B := ⟨_, List.getElem?_eq_getElem (List.mem_range.mp hi)⟩
    rw [egs_at hB] at h
    obtain ⟨l2, hl2, e⟩ := List.mem_map.mp h
    cases e
    exact ⟨B, hB, l2, hl2, rfl⟩
  · rintro ⟨B, hB, l, hl, rfl⟩
    exact ⟨egs G u, List.mem_map.mpr ⟨u, List.mem_range.mpr (List.getElem?_eq_some_iff.mp hB).1, rfl⟩, by rw [egs_at hB]; exact List.mem_map.mpr ⟨l, hl, rfl⟩⟩
theorem suc_mem {G : List PB} {u v : Nat} : v ∈ suc G u ↔ ∃ B, G[u]? = some B ∧ ∃ l ∈ targs B.fin, v = numOf G l := by
  show v ∈ sucOf (toPg G) u ↔ _
  unfold sucOf toPg
  rw [List.getElem?_map]
  cases h : G[u]? with
  | none => simp
  | some B =>
    show v ∈ (targs B.fin).map (numOf G) ↔ _
    rw [List.mem_map]
    constructor
    · rintro ⟨l, hl, e⟩
      exact ⟨B, rfl, l, hl, e.symm⟩
    · rintro ⟨B', e, l, hl, rfl⟩
      cases e
      exact ⟨l, hl, rfl⟩
theorem suc_edges {G : List PB} (u v : Nat) : v ∈ sucE (edgesP G) u ↔ v ∈ suc G u := by rw [mem_sucE, mem_edges, suc_mem]
theorem edges_lt {G : List PB} (S : Small G) : ∀ e ∈ edgesP G, e.2 < G.length := by
  rintro ⟨u, v⟩ h
  obtain ⟨B, hB, l, hl, rfl⟩ := mem_edges.mp h
  exact numOf_lt (S.tg B (List.mem_of_getElem? hB) l hl)
def IntsAt (H : Hp) (v : V) (ns : List Nat) : Prop := TupAt H v (ns.map intV)
theorem mono_ints : MonoT IntsAt := fun _ _ _ _ e h => TupAt.mono e h
noncomputable def domsP (G : List PB) : List (List Nat) := (List.range G.length).map (domsOf (suc G) G.length)
noncomputable def domsUp (G : List PB) (b i : Nat) : List Nat := (List.range i).filter fun o => decide (Dom (suc G) o b)
theorem domsUp_succ (G : List PB) (b i : Nat) : domsUp G b (i + 1) = if Dom (suc G) i b then domsUp G b i ++ [i] else domsUp G b i := by
  unfold domsUp
  rw [List.range_succ, List.filter_append]
  by_cases h : Dom (suc G) i b
  · rw [if_pos h, List.filter_cons, if_pos (decide_eq_true h)]
    rfl
  · rw [if_neg h, List.filter_cons, if_neg (by rw [decide_eq_false h]; exact Bool.false_ne_true)]
    simp
def spDoms : Sp := fun vs H Q _ => ∃ v G, vs = [v] ∧ ProgAt H v G ∧ Small G ∧ 0 < G.length ∧ ∀ p H' rs, H p = none → Ex H H' → H' p = some (.tup rs) → Paired (IntsAt H') rs (domsP G) → Q (.ref p) H'
section
variable {P : Program} {w : World} {K : PySem.W.Frag} {mg : Str → Option Value} {base : Heap} {f : Addr} {fd : FuncData} {σ : L2.St} {H : Hp} {g : TG} {tu tz : TS} {D : Ends} {ta tb te tl : TE} {tr : TA} {β : Type} {R : Hp → V → β → Prop} {bs : List β} {t : TT} {wi : TI} {n : Nat} {Y : Nat → Hp → V → Hp → Prop}
/-- [new thing for _ in ..] -/
theorem el_news {vs : List Nat} {j : Nat} {o : HO} (hi : EvI wi σ H n Y) (hY : ∀ i H' x H'', Y i H' x H'' → H'' = H') (hn : n ≤ 40000) (hw : ∀ x, wipe ((wipe σ vs).set j (some x)) vs = wipe σ vs) (hte : ∀ σ' H' (Q : VK), (∀ p, H' p = none → Q (.ref p) (upd H' p o)) → te σ' H' Q) :
    ∀ H1, Ex H H1 → ∀ Q : VK, (∀ D H2 (as : List Addr), H1 D = none → Ex H1 H2 → H2 D = some (.lst (as.map V.ref)) → as.length = n → as.Nodup → D ∉ as → (∀ a ∈ as, H1 a = none ∧ H2 a = some o) → Q (.ref D) H2) → tLc wi (gName j) tYes te vs σ H1 Q := by
  intro H1 e1 Q q
  refine hi H1 e1 _ fun J G H2 e2 w hG D hD => ?_
  refine lc_it w (fun i H' => Ex H2 H' ∧ ∃ as : List Addr, H' D = some (.lst (as.map V.ref)) ∧ as.length = i ∧ as.Nodup ∧ D ∉ as ∧ ∀ a ∈ as, H2 a = none ∧ H' a = some o) ⟨Ex.new hD, [], upd_same, rfl, List.nodup_nil, (by simp), fun a ha => by cases ha⟩ (fun i H' _ p => hG H' p.1) ?_ ?_
  · rintro i x H' H'' hlt ⟨e3, as, h1, h2, h3, h4, h5⟩ y
    have := hY i H' x H'' y
    subst this
    refine ⟨hw x, ?_⟩
    show te _ H'' _
    refine hte _ H'' _ fun p hp => ?_
    have npD : D ≠ p := ne_of_none h1 hp
    have npa : ∀ a ∈ as, a ≠ p := fun a ha => ne_of_none (h5 a ha).2 hp
    refine ⟨as.map V.ref, by rw [upd_ne npD]; exact h1, by rw [List.length_map, h2]; exact sz_lt (by omega), Ex.mut (e3.trans (Ex.new hp)) hD, as ++ [p], ?_, by rw [List.length_append, h2]; rfl, ?_, ?_, ?_⟩
    · rw [upd_same, List.map_append]
      rfl
    · exact List.nodup_append.mpr ⟨h3, by simp, fun a ha b hb e => npa a ha (by rw [e, List.mem_singleton.mp hb])⟩
    · intro z
      rcases List.mem_append.mp z with z | z
      · exact h4 z
      · exact npD (List.mem_singleton.mp z)
    · intro a ha
      rcases List.mem_append.mp ha with z | z
      · refine ⟨(h5 a z).1, ?_⟩
        rw [upd_ne (fun e => h4 (by rw [← e]; exact z)), upd_ne (npa a z)]
        exact (h5 a z).2
      · rw [List.mem_singleton.mp z]
        refine ⟨fresh_back e3 hp, ?_⟩
        rw [upd_ne npD.symm, upd_same]
  · rintro H' ⟨e3, as, h1, h2, h3, h4, h5⟩
    exact q D H' as (fresh_back e2 hD) (e2.trans e3) h1 h2 h3 h4 fun a ha => ⟨fresh_back e2 (h5 a ha).1, (h5 a ha).2⟩
theorem te_nil : ∀ (σ' : L2.St) H' (Q : VK), (∀ p, H' p = none → Q (.ref p) (upd H' p (.lst []))) → tLst tNil σ' H' Q := fun σ' H' Q q => ⟨Nat.zero_le _, q⟩
theorem te_dnew : ∀ (σ' : L2.St) H' (Q : VK), (∀ p, H' p = none → Q (.ref p) (upd H' p (.dK []))) → tDNewK σ' H' Q := fun σ' H' Q q => q
theorem ev_edges {v : V} {G : List PB} (h : Ev ta σ H v) (hp : ProgAt H v G) (S : Small G) : EvUP EdgeAt (tCall spEdges [] E0 (tCons ta tNil)) σ H (edgesP G) := fun H1 e Q q =>
  h H1 e _ fun H2 e2 => ⟨v, G, rfl, hp.mono (tx (e.trans e2)), S, fun p H3 es hp3 e3 h3 h4 => q p H3 es (fresh_back e2 hp3) (e2.trans e3) h3 h4⟩
/-- arrows -/
theorem ed_reached {a : Addr} {xs : List V} {es : List (Nat × Nat)} {wn N : Nat} (h1 : Ev ta σ H (.ref a)) (h2 : Ev tb σ H (intV wn)) (ha : H a = some (.lst xs)) (hp : Paired (PairAt H) xs es) (hes : es.length ≤ 100) (h0 : 0 < N) (hN : N ≤ 100) (hl : ∀ e ∈ es, e.2 < N) :
    ∀ H1, Ex H H1 → ∀ Q : VK, (∀ p H2 (ns : List Nat), H1 p = none → Ex H1 H2 → H2 p = some (.dK (nkT ns)) → (∀ v, v ∈ ns ↔ RA (sucE es) (fun u => u = wn) v) → Q (.ref p) H2) → tCall spReached [] E0 (tCons ta (tCons tb tNil)) σ H1 Q := fun H1 e Q q =>
  h1 H1 e _ fun H2 e2 => h2 H2 (e.trans e2) _ fun H3 e3 => ⟨a, xs, es, wn, N, rfl, (e.trans (e2.trans e3)) _ _ ha, Paired.mapP hp fun v b q => mono_pair.e _ _ _ _ (e.trans (e2.trans e3)) q, hes, h0, hN, hl, fun p H4 ns hp4 e4 h4 h5 => q p H4 ns (fresh_back (e2.trans e3) hp4) ((e2.trans e3).trans e4) h4 h5⟩
theorem nd_get {α : Type} {as : List α} (h : as.Nodup) {i j : Nat} {a : α} (h1 : as[i]? = some a) (h2 : as[j]? = some a) : i = j := by
  obtain ⟨i1, e1⟩ := List.getElem?_eq_some_iff.mp h1
  obtain ⟨j1, e2⟩ := List.getElem?_eq_some_iff.mp h2
  exact (List.getElem_inj h).mp (e1.trans e2.symm)
abbrev s_dominators : Stmt := top 7
abbrev n_dominators : List Str := ["program", "arrows", "found", "other", "left", "number", "source", "_", "target", "row"]
theorem sc_dominators : FnScope ["program", "arrows", "found", "other", "left", "number", "source", "_", "target", "row"] ["program"] (defScope s_dominators) := ⟨rfl, rfl, rfl, by decide +kernel, rfl, by decide +kernel, by decide +kernel⟩
theorem ok_dominators (F : FnP K "dominators" "dominators" s_dominators f fd) (B : Blt mg) (C_edges : Cal P w K mg base "edges" 2 ["program"] spEdges) (C_reached : Cal P w K mg base "reached" 1 ["arrows", "without"] spReached) : FnOk P w K mg base CX0 3 f fd ["program"] spDoms := by
  refine F.ok sc_dominators (fun vs H Q E h => ?_) (fun cdv A outer s H vs Q E hr h => ⟨_, PSs.nox ((pss_cons (ps_setLc (i := 1) (own := [("source", 6), ("_", 7), ("target", 8)]) (g := (gTup K 4 (gCons (gName 6) (gCons (gName 7) (gCons (gName 8) (gCons (gName 7) gNil)))))) rfl sc_dominators.nd rfl rfl (sw_true rfl rfl rfl (by decide +kernel)) (pi_tup (pe_cal C_edges (hr.mono (by decide)) (by rfl) (pa_cons (pv 0) pa_nil))) (blkOk_by (own := [("source", 6), ("_", 7), ("target", 8)]) (N := ["program", "arrows", "found", "other", "left", "number", "source", "_", "target", "row"]) (sc := (defScope s_dominators)) (by decide +kernel)) (fun _ _ _ _ _ => (pg_tupK (K := K) rfl rfl (pgs_cons (pg_name (i := 6) sc_dominators.nd rfl (Or.inl rfl)) (pgs_cons (pg_name (i := 7) sc_dominators.nd rfl (Or.inl rfl)) (pgs_cons (pg_name (i := 8) sc_dominators.nd rfl (Or.inl rfl)) (pgs_cons (pg_name (i := 7) sc_dominators.nd rfl (Or.inl rfl)) pgs_nil)))))) (fun _ _ _ _ _ => pts_nil) (fun _ _ _ _ _ => (pe_tup (pa_cons (pv 6) (pa_cons (pv 8) pa_nil))))) (pss_cons (ps_setLc (i := 2) (own := [("_", 7)]) (g := (gName 7)) rfl sc_dominators.nd rfl rfl (sw_true rfl rfl rfl (by decide +kernel)) (pi_tup (pv 0)) (blkOk_by (own := [("_", 7)]) (N := ["program", "arrows", "found", "other", "left", "number", "source", "_", "target", "row"]) (sc := (defScope s_dominators)) (by decide +kernel)) (fun _ _ _ _ _ => (pg_name (i := 7) sc_dominators.nd rfl (Or.inl rfl))) (fun _ _ _ _ _ => pts_nil) (fun _ _ _ _ _ => (pe_lst pa_nil))) (pss_cons (ps_for PassesOwn.never rfl (pi_range1 (by rfl) B.range (pa_cons (pe_callB call_len_seq (by rfl) B.len PySem.boot_len (pa_cons (pv 0) pa_nil)) pa_nil)) (pg_name (i := 3) sc_dominators.nd rfl (Or.inl rfl)) (pss_cons (ps_set (i := 4) sc_dominators.nd rfl (Or.inl rfl) (pe_cal C_reached (hr.mono (by decide)) (by rfl) (pa_cons (pv 1) (pa_cons (pv 3) pa_nil)))) (pss_one (ps_for PassesOwn.never rfl (pi_range1 (by rfl) B.range (pa_cons (pe_callB call_len_seq (by rfl) B.len PySem.boot_len (pa_cons (pv 0) pa_nil)) pa_nil)) (pg_name (i := 5) sc_dominators.nd rfl (Or.inl rfl)) (pss_one (ps_if (pt_cmp (pc_dnotin (hu_of hr) (pv 5) (pv 4))) (pss_one (ps_expr (pe_bm PySem.F.plainAttrs_list PySem.F.slot_list_append PySem.F.type_list_append mt_append (pe_ix ix_list (pv 2) (pv 5) (fun _ _ => rfl)) (pa_cons (pv 3) pa_nil)))) pss_nil)))))) (pss_one (ps_ret (pe_callTy call_tuple_of (by rfl) B.tuple (by decide +kernel) (pa_cons (pe_lc (own := [("row", 9)]) (g := (gName 9)) rfl sc_dominators.nd (pi_list (pv 2)) (blkOk_by (own := [("row", 9)]) (N := ["program", "arrows", "found", "other", "left", "number", "source", "_", "target", "row"]) (sc := (defScope s_dominators)) (by decide +kernel)) (fun _ _ _ _ _ => (pg_name (i := 9) sc_dominators.nd rfl (Or.inl rfl))) (fun _ _ _ _ _ => pts_nil) (fun _ _ _ _ _ => (pe_callTy (call_tupleK (K := K) rfl) (by rfl) B.tuple (by decide +kernel) (pa_cons (pv 9) pa_nil)))) pa_nil)))))))), ?_⟩)
  · obtain ⟨v, G, rfl, _⟩ := h
    rfl
  · obtain ⟨v, G, rfl, hP, S, hG0, k⟩ := h
    obtain ⟨xs, ⟨a, rfl, ha⟩, hp⟩ := id hP
    have hlen := pd_len hp
    have hG := S.len
    have hne := edgesTo_le G G.length
    have harr : EvLP PairAt (tLc (iTup K (tCall spEdges [] E0 (tCons (tVar 0) tNil))) (gTup K 4 (gCons (gName 6) (gCons (gName 7) (gCons (gName 8) (gCons (gName 7) gNil))))) tYes (tTup (tCons (tVar 6) (tCons (tVar 8) tNil))) [6, 7, 8]) (start n_dominators [.ref a]) H (edgesP G) := by
      intro H1 e1 Q q
      refine ev_edges (ev_var rfl) hP S H1 e1 _ fun ae H2 es hae e2 he hpe => ⟨ae, rfl, ⟨es, st_of he⟩, ?_⟩
      have hle := pd_len hpe
      intro D hD
      refine lc_rel (n := es.length) (walk_tup (K := K)) hD (by unfold edgesP at hle; omega) PairAt (fun i => (edgesP G)[i]?) (fun H' e => st_of (e _ _ he)) (fun Ha Hb v b hw e => mono_pair _ _ _ _ (exb_tx hw e)) ?_ ?_
      · rintro i x H' H'' hi e3 _ ⟨rfl, hx⟩ C c
        obtain ⟨⟨u, v⟩, huv, sd, va, t, rfl, ht⟩ := pd_get hpe hx
        refine g_tup4 (e3 _ _ ht) (c _ _ rfl (Ex.refl _) (by rw [huv]; exact et_yes) fun b hb => ?_)
        rw [huv] at hb
        cases hb
        exact er_tup2 (ev_var rfl) (ev_var rfl)
      · intro H' ws e3 h1 h2
        have e9 : (List.range es.length).filterMap (fun i => (edgesP G)[i]?) = edgesP G := by
          rw [hle]
          have := fm_list (edgesP G) some
          simpa using this
        rw [e9] at h2
        exact q D H' ws (fresh_back e2 hD) (e2.trans e3) h1 h2
    refine q_asgLP harr fun ar H1 vs1 har e1 h1 hpa => ?_
    refine q_raw ?_
    refine el_news (σ := (start n_dominators [.ref a]).set 1 (some (.ref ar))) (vs := [7]) (j := 7) (o := .lst []) (ei_tup (K := K) (ev_var (i := 0) rfl) (e1 _ _ ha)) (fun i H' x H'' y => y.1) (by omega) (fun _ => rfl) te_nil H1 (Ex.refl _) _ fun D H2 as hD e2 h2 has hnd hDas hall => ?_
    have hset : ∀ j x, as[j]? = some x → ∀ y, (as.map V.ref)[j]? = some y → y = V.ref x := fun j x h y h' => by rw [List.getElem?_map, h] at h'; exact (Option.some.inj h').symm
    have asn : as.length = G.length := has.trans hlen
    have natn : ((xs.length : Nat) : Int).toNat = xs.length := Int.toNat_natCast _
    refine q_forR1 (ea1 (ev_lenT (K := K) (ev_var rfl) (e2 _ _ (e1 _ _ ha)))) (by omega) (fun i σ' H' => (∃ o3 o4 o5 o6 o7 o8 o9, σ' = [some (.ref a), some (.ref ar), some (.ref D), o3, o4, o5, o6, o7, o8, o9]) ∧ Ex H H' ∧ H' ar = some (.lst vs1) ∧ Paired (PairAt H') vs1 (edgesP G) ∧ H' D = some (.lst (as.map V.ref)) ∧ ∀ b x, as[b]? = some x → H' x = some (.lst ((domsUp G b i).map intV)))
      (fun H3 e3 => ⟨⟨none, none, none, none, none, none, none, rfl⟩, e1.trans (e2.trans e3), e3 _ _ (e2 _ _ h1), Paired.mapP hpa fun v b q => mono_pair.e _ _ _ _ (e2.trans e3) q, e3 _ _ h2, fun b x hx => e3 _ _ (hall x (List.mem_of_getElem? hx)).2⟩) ?_ ?_
    · rintro i σ' H' hi ⟨⟨o3, o4, o5, o6, o7, o8, o9, rfl⟩, e3, h3, h4, h5, h6⟩
      have hiG : i < G.length := by omega
      refine q_raw ?_
      refine ed_reached (σ := [some (.ref a), some (.ref ar), some (.ref D), some (intV i), o4, o5, o6, o7, o8, o9]) (ev_var (i := 1) rfl) (ev_var (i := 3) rfl) h3 h4 (by unfold edgesP; omega) hG0 (by omega) (edges_lt S) H' (Ex.refl _) _ fun p H4 ns hp4 e4 h7 h8 => ?_
      have hdom : ∀ b, b ∈ ns ↔ ¬ Dom (suc G) i b := fun b => by
        rw [h8, RA.same suc_edges]
        unfold Dom
        exact Classical.not_not.symm
      have npD : D ≠ p := ne_of_none h5 hp4
      have npa : ∀ b x, as[b]? = some x → x ≠ p := fun b x hx => ne_of_none (h6 b x hx) hp4
      have ned : ∀ b x, as[b]? = some x → x ≠ D := fun b x hx e => hDas (by rw [← e]; exact List.mem_of_getElem? hx)
      have arx : ∀ b x, as[b]? = some x → ar ≠ x := fun b x hx => ne_of_none h1 (hall x (List.mem_of_getElem? hx)).1
      refine s_forR1 (D := { nx := _, rt := _, bk := _, ct := _ }) (ea1 (ev_lenT (K := K) (ev_var rfl) ((e3.trans e4) _ _ ha))) (by omega) (fun j σ' H' => (∃ o5 o6 o7 o8 o9, σ' = [some (.ref a), some (.ref ar), some (.ref D), some (intV i), some (.ref p), o5, o6, o7, o8, o9]) ∧ Ex H H' ∧ H' ar = some (.lst vs1) ∧ Paired (PairAt H') vs1 (edgesP G) ∧ H' D = some (.lst (as.map V.ref)) ∧ H' p = some (.dK (nkT ns)) ∧
          ∀ b x, as[b]? = some x → H' x = some (.lst ((if b < j then domsUp G b (i + 1) else domsUp G b i).map intV)))
        (fun H5 e5 => ⟨⟨o5, o6, o7, o8, o9, rfl⟩, e3.trans (e4.trans e5), e5 _ _ (e4 _ _ h3), Paired.mapP h4 fun v b q => mono_pair.e _ _ _ _ (e4.trans e5) q, e5 _ _ (e4 _ _ h5), e5 _ _ h7, fun b x hx => by rw [if_neg (Nat.not_lt_zero b)]; exact e5 _ _ (e4 _ _ (h6 b x hx))⟩) ?_ ?_
      · rintro j σ' H5 hj ⟨⟨o5, o6, o7, o8, o9, rfl⟩, f1, f2, f3, f4, f5, f6⟩
        have hjn : j < as.length := by omega
        obtain ⟨x, hx⟩ : ∃ x, as[j]? = some x := ⟨_, List.getElem?_eq_getElem hjn⟩
        refine s_when (b := decide (j ∉ ns)) (et_B (ev_dnotin (k := Sum.inl (j : Int)) (ev_var rfl) (ev_var rfl) f5 (by rw [valV_nkT]; simp))) (fun hn H6 e6 => ?_) (fun hn H6 e6 => ?_)
        · have hn := of_decide_eq_true hn
          have hdj : Dom (suc G) i j := Classical.byContradiction fun z => hn ((hdom j).mpr z)
          have hlx := f6 j x hx
          rw [if_neg (Nat.lt_irrefl j)] at hlx
          have hle : (domsUp G j i).length ≤ i := by
            unfold domsUp
            have := List.length_filter_le (fun o => decide (Dom (suc G) o j)) (List.range i)
            rw [List.length_range] at this
            exact this
          refine s_app (D := { nx := _, rt := _, bk := _, ct := _ }) (v := intV i) (e6 _ _ hlx) (ev_ixL (ev_var rfl) (e6 _ _ f4) (ev_var rfl) (atI_nat (j := j) (by rw [List.getElem?_map, hx]; rfl))) (ev_var rfl) (by rw [List.length_map]; omega) fun H7 e7 => ?_
          have e67 := e6.trans e7
          have hx0 : H x = none := fresh_back e1 (hall x (List.mem_of_getElem? hx)).1
          have t7 : TX H7 (upd H7 x (.lst ((domsUp G j i).map intV ++ [intV i]))) := tx_of (e67 _ _ hlx) fun _ z => by cases z
          have npx := npa j x hx
          refine ⟨⟨_, _, _, _, _, rfl⟩, ex_upd f1 hx0 e67, by rw [upd_ne (arx j x hx)]; exact e67 _ _ f2, Paired.mapP f3 fun v b q => mono_pair _ _ _ _ ((tx e67).trans t7) q, by rw [upd_ne (ned j x hx).symm]; exact e67 _ _ f4, by rw [upd_ne npx.symm]; exact e67 _ _ f5, fun b y hy => ?_⟩
          by_cases hbj : b = j
          · subst hbj
            rw [hx] at hy
            cases hy
            rw [upd_same, if_pos (Nat.lt_succ_self _), domsUp_succ, if_pos hdj, List.map_append]
            rfl
          · have hyx : y ≠ x := fun e => hbj (nd_get hnd hy (by rw [e]; exact hx))
            rw [upd_ne hyx, e67 _ _ (f6 b y hy)]
            by_cases hlt : b < j
            · rw [if_pos hlt, if_pos (by omega)]
            · rw [if_neg hlt, if_neg (by omega)]
        · have hn : j ∈ ns := Classical.byContradiction fun z => by rw [decide_eq_true z] at hn; cases hn
          have hdj := (hdom j).mp hn
          refine ⟨⟨_, _, _, _, _, rfl⟩, f1.trans e6, e6 _ _ f2, Paired.mapP f3 fun v b q => mono_pair.e _ _ _ _ e6 q, e6 _ _ f4, e6 _ _ f5, fun b y hy => ?_⟩
          rw [e6 _ _ (f6 b y hy)]
          by_cases hbj : b = j
          · subst hbj
            rw [if_neg (Nat.lt_irrefl _), if_pos (Nat.lt_succ_self _), domsUp_succ, if_neg hdj]
          · by_cases hlt : b < j
            · rw [if_pos hlt, if_pos (by omega)]
            · rw [if_neg hlt, if_neg (by omega)]
      · rintro σ' H5 ⟨⟨o5, o6, o7, o8, o9, rfl⟩, f1, f2, f3, f4, f5, f6⟩
        refine ⟨⟨_, _, _, _, _, _, _, rfl⟩, f1, f2, f3, f4, fun b x hx => ?_⟩
        have := f6 b x hx
        rw [if_pos (by have := (List.getElem?_eq_some_iff.mp hx).1; omega)] at this
        exact this
    · rintro σ' H' ⟨⟨o3, o4, o5, o6, o7, o8, o9, rfl⟩, e3, h3, h4, h5, h6⟩
      rw [natn, hlen] at h6
      have hrows : EvLP IntsAt (tLc (iList K (tVar 2)) (gName 9) tYes (tCB (rTupS K) (tCons (tVar 9) tNil)) [9]) [some (.ref a), some (.ref ar), some (.ref D), o3, o4, o5, o6, o7, o8, o9] H' ((List.range (as.map V.ref).length).filterMap fun b => some (domsOf (suc G) G.length b)) := by
        refine elp_lcn mono_ints (ei_lst (ev_var rfl) h5) (by rw [List.length_map]; omega) _ (fun _ => rfl) (fun i H' x H'' y => y.1) (fun i x H' hi e y => et_yes) (fun i x b H' hi e y hb => ?_)
        cases hb
        obtain ⟨z, hz⟩ : ∃ z, as[i]? = some z := ⟨_, List.getElem?_eq_getElem (by rw [List.length_map] at hi; exact hi)⟩
        have := hset i z hz x y.2
        subst this
        intro H6 e6 Q6 q6
        exact eu_tuple (ev_var rfl) (e _ _ (h6 i z hz)) H6 e6 Q6 fun p H7 _ e7 h7 => q6 _ H7 e7 ⟨p, rfl, h7⟩
      have e9 : (List.range (as.map V.ref).length).filterMap (fun b => some (domsOf (suc G) G.length b)) = domsP G := by
        rw [List.length_map, asn]
        unfold domsP
        rw [List.filterMap_eq_map']
      rw [e9] at hrows
      exact s_retUP (eup_tuple mono_ints.e hrows) fun p H5 rs hp5 e5 h6 h7 => k p H5 rs (fresh_back e3 hp5) (e3.trans e5) h6 h7
end
end Sh
end

section
set_option Elab.async false
set_option linter.all false
set_option maxRecDepth 100000
set_option maxHeartbeats 4000000
/-! Walks: immediate. -/
namespace Sh
open PySem PySem.Spec PyProof.Rows L2 Evl Classical
open SF (RA Reach Dom sucOf domsOf others Imm)
theorem fm_filter {α : Type} (p : α → Bool) (l : List α) : l.filterMap (fun x => if p x = true then some x else none) = l.filter p := by
  induction l with
  | nil => rfl
  | cons a r ih =>
    rw [List.filterMap_cons, List.filter_cons, ih]
    by_cases h : p a = true
    · rw [if_pos h, if_pos h]
    · rw [if_neg h, if_neg h]
theorem fm_range_filter {α : Type} (p : α → Bool) (l : List α) : (List.range l.length).filterMap (fun i => l[i]?.bind fun x => if p x = true then some x else none) = l.filter p := by rw [fm_list, fm_filter]
section
variable {P : Program} {w : World} {K : PySem.W.Frag} {mg : Str → Option Value} {base : Heap} {f : Addr} {fd : FuncData} {σ : L2.St} {H : Hp} {g : TG} {tu tz : TS} {D : Ends} {ta tb te tl : TE} {tr : TA} {β : Type} {R : Hp → V → β → Prop} {bs : List β} {t : TT} {wi : TI} {n : Nat} {Y : Nat → Hp → V → Hp → Prop}
/-- [x for x in xs if p(x)], xs told by f -/
theorem el_filter {α : Type} {F : α → V} {l : List α} {vs : List Nat} {j : Nat} (p : α → Bool) (hi : EvI wi σ H l.length (YAt (l.map F))) (hn : l.length ≤ 40000) (hw : ∀ x, wipe ((wipe σ vs).set j (some x)) vs = wipe σ vs) (hj : ∀ x, ((wipe σ vs).set j (some x))[j]? = some (some x))
    (ht : ∀ (i : Nat) (a : α) H', l[i]? = some a → Ex H H' → EvT t ((wipe σ vs).set j (some (F a))) H' (p a)) : EvL (tLc wi (gName j) t (tVar j) vs) σ H ((l.filter p).map F) := by
  have h := elp_lcn (R := fun _ v b => v = F b) (t := t) (te := tVar j) mono_eq hi hn (fun i => l[i]?.bind fun x => if p x = true then some x else none) hw (fun i H' x H'' y => y.1) (fun i x H' hi e y => ?_) (fun i x b H' hi e y hb => ?_)
  · rw [fm_range_filter] at h
    exact el_of h
  · have y2 := y.2
    rw [List.getElem?_map] at y2
    cases ha : l[i]? with
    | none => rw [ha] at y2; cases y2
    | some a =>
      rw [ha] at y2
      rw [← Option.some.inj y2]
      refine et_is (ht i a H' ha e) ?_
      show p a = Option.isSome (if p a = true then some a else none)
      by_cases q : p a = true
      · rw [if_pos q, q]; rfl
      · rw [if_neg q]; simpa using q
  · have y2 := y.2
    rw [List.getElem?_map] at y2
    cases ha : l[i]? with
    | none => rw [ha] at y2; cases y2
    | some a =>
      rw [ha] at y2 hb
      rw [← Option.some.inj y2]
      have hb : (if p a = true then some a else none) = some b := hb
      by_cases q : p a = true
      · rw [if_pos q] at hb
        cases hb
        exact evr_eq (ev_var (hj _))
      · rw [if_neg q] at hb
        cases hb
theorem ei_map {α : Type} {F : α → V} {l : List α} (h : EvI wi σ H (l.map F).length (YAt (l.map F))) : EvI wi σ H l.length (YAt (l.map F)) := by
  rw [List.length_map] at h
  exact h
end
def spImm : Sp := fun vs H Q _ => ∃ v G, vs = [v] ∧ ProgAt H v G ∧ Small G ∧ 0 < G.length ∧ (∀ b, b < G.length → Reach (suc G) b) ∧
  ∀ p H' (fI : Nat → Nat), H p = none → Ex H H' → H' p = some (.tup (.non :: (List.range (G.length - 1)).map fun i => intV (fI (i + 1)))) → Imm (suc G) G.length fI → Q (.ref p) H'
section
variable {P : Program} {w : World} {K : PySem.W.Frag} {mg : Str → Option Value} {base : Heap} {f : Addr} {fd : FuncData}
abbrev s_immediate : Stmt := top 8
abbrev n_immediate : List Str := ["program", "rows", "found", "number", "others", "other"]
theorem sc_immediate : FnScope ["program", "rows", "found", "number", "others", "other"] ["program"] (defScope s_immediate) := ⟨rfl, rfl, rfl, by decide +kernel, rfl, by decide +kernel, by decide +kernel⟩
theorem ok_immediate (F : FnP K "immediate" "immediate" s_immediate f fd) (B : Blt mg) (C_dominators : Cal P w K mg base "dominators" 3 ["program"] spDoms) : FnOk P w K mg base CX0 4 f fd ["program"] spImm := by
  refine F.ok sc_immediate (fun vs H Q E h => ?_) (fun cdv A outer s H vs Q E hr h => ⟨_, PSs.nox ((pss_cons (ps_set (i := 1) sc_immediate.nd rfl (Or.inr rfl) (pe_cal C_dominators (hr.mono (by decide)) (by rfl) (pa_cons (pv 0) pa_nil))) (pss_cons (ps_set (i := 2) sc_immediate.nd rfl (Or.inl rfl) (pe_lst (pa_cons pe_non pa_nil))) (pss_cons (ps_for PassesOwn.never rfl (pi_range2 (by rfl) B.range (pa_cons pe_int (pa_cons (pe_callB call_len_seq (by rfl) B.len PySem.boot_len (pa_cons (pv 0) pa_nil)) pa_nil))) (pg_name (i := 3) sc_immediate.nd rfl (Or.inr rfl)) (pss_cons (ps_set (i := 4) sc_immediate.nd rfl (Or.inr rfl) (pe_lc (own := [("other", 5)]) (g := (gName 5)) rfl sc_immediate.nd (pi_tup (pe_ix ix_tup (pv 1) (pv 3) (fun _ _ => rfl))) (blkOk_by (own := [("other", 5)]) (N := ["program", "rows", "found", "number", "others", "other"]) (sc := (defScope s_immediate)) (by decide +kernel)) (fun _ _ _ _ _ => (pg_name (i := 5) sc_immediate.nd rfl (Or.inl rfl))) (fun _ _ _ _ _ => pts_one (pt_cmpR op_ne (pv 5) (pv 3) (nomark _))) (fun _ _ _ _ _ => (pv 5)))) (pss_one (ps_expr (pe_bm PySem.F.plainAttrs_list PySem.F.slot_list_append PySem.F.type_list_append mt_append (pv 2) (pa_cons (pe_ix ix_list (pe_lc (own := [("other", 5)]) (g := (gName 5)) rfl sc_immediate.nd (pi_list (pv 4)) (blkOk_by (own := [("other", 5)]) (N := ["program", "rows", "found", "number", "others", "other"]) (sc := (defScope s_immediate)) (by decide +kernel)) (fun _ _ _ _ _ => (pg_name (i := 5) sc_immediate.nd rfl (Or.inl rfl))) (fun _ _ _ _ _ => pts_one (pt_cmpR op_eq (pe_callB (call_lenK (K := K) rfl) (by rfl) B.len PySem.boot_len (pa_cons (pe_ix (ix_tupK (K := K) rfl) (pv 1) (pv 5) (fun _ _ => rfl)) pa_nil)) (pe_callB (call_lenK (K := K) rfl) (by rfl) B.len PySem.boot_len (pa_cons (pv 4) pa_nil)) (nomark _))) (fun _ _ _ _ _ => (pv 5))) pe_int (fun _ _ => rfl)) pa_nil)))))) (pss_one (ps_ret (pe_callTy call_tuple_of (by rfl) B.tuple (by decide +kernel) (pa_cons (pv 2) pa_nil)))))))), ?_⟩)
  · obtain ⟨v, G, rfl, _⟩ := h
    rfl
  · obtain ⟨v, G, rfl, hP, S, hG0, hR, k⟩ := h
    obtain ⟨xs, ⟨a, rfl, ha⟩, hp⟩ := id hP
    have hlen := pd_len hp
    have hG := S.len
    refine q_raw ⟨_, rfl, _, G, rfl, hP, S, hG0, fun r H1 rs hr1 e1 h1 hrs => ?_⟩
    have hrsl : rs.length = G.length := by rw [pd_len hrs]; simp [domsP]
    have row : ∀ {o : Nat} {H' : Hp}, o < G.length → Ex H1 H' → ∃ t, rs[o]? = some (.ref t) ∧ H' t = some (.tup ((domsOf (suc G) G.length o).map intV)) := fun {o H'} ho e => by
      obtain ⟨x, hx, t, rfl, ht⟩ := pd_get' hrs (i := o) (y := domsOf (suc G) G.length o) (by unfold domsP; rw [List.getElem?_map, List.getElem?_range ho]; rfl)
      exact ⟨t, hx, e _ _ ht⟩
    have dl : ∀ b, (domsOf (suc G) G.length b).length ≤ G.length := fun b => by
      have := List.length_filter_le (fun o => decide (Dom (suc G) o b)) (List.range G.length)
      rw [List.length_range] at this
      exact this
    have ol : ∀ b, (others (suc G) G.length b).length ≤ G.length := fun b => Nat.le_trans (List.length_filter_le _ _) (dl b)
    refine q_asgL (xs := [V.non]) (el_lst (ea1 ev_c) (by show 1 ≤ 100000; decide)) fun l H2 hl e2 h2 => ?_
    have e12 : Ex H H2 := e1.trans e2
    refine q_forR2 (ea2 ev_c (ev_lenT (K := K) (ev_var rfl) (e12 _ _ ha))) (by omega) (fun i σ' H' => (∃ o3 o4 o5, σ' = [some (.ref a), some (.ref r), some (.ref l), o3, o4, o5]) ∧ Ex H1 H' ∧ ∃ us : List Nat, us.length = i ∧ H' l = some (.lst (.non :: us.map intV)) ∧
        ∀ j u, us[j]? = some u → u ∈ others (suc G) G.length (j + 1) ∧ (domsOf (suc G) G.length u).length = (others (suc G) G.length (j + 1)).length)
      (fun H3 e3 => ⟨⟨none, none, none, rfl⟩, e2.trans e3, [], rfl, e3 _ _ h2, fun j u h => by simp at h⟩) ?_ ?_
    · rintro i σ' H' hi ⟨⟨o3, o4, o5, rfl⟩, e3, us, hul, h3, h4⟩
      have hiG : i + 1 < G.length := by omega
      have hb : V.int (1 + (i : Nat)) = intV (i + 1) := by show V.int (1 + (i : Nat)) = V.int ((i + 1 : Nat) : Int); congr 1; omega
      rw [hb]
      obtain ⟨t, ht1, ht2⟩ := row hiG e3
      have hoth : EvL (tLc (iTup K (tOp (rIxT K) (tVar 1) (tVar 3))) (gName 5) (tTest (tOp rNe (tVar 5) (tVar 3))) (tVar 5) [5]) [some (.ref a), some (.ref r), some (.ref l), some (intV (i + 1)), o4, o5] H' ((others (suc G) G.length (i + 1)).map intV) := by
        refine el_filter (fun o => decide (o ≠ i + 1)) (ei_map (ei_tup (ev_ixT (ev_var rfl) (e3 _ _ h1) (ev_var rfl) (atI_nat (j := i + 1) ht1)) ht2)) (by have := dl (i + 1); omega) (fun _ => rfl) (fun _ => rfl) fun j o H5 ho e5 => ?_
        refine et_is (et_T (ev_op (ev_var rfl) (ev_var rfl) (rv_ne rfl))) ?_
        show (!decide (intV o = intV (i + 1))) = decide (o ≠ i + 1)
        by_cases q : o = i + 1
        · subst q; simp
        · have : ¬ intV o = intV (i + 1) := fun z => q (by have := V.int.inj z; omega)
          rw [decide_eq_false this, decide_eq_true q]
          rfl
      refine q_asgL hoth fun po H4 hpo e4 h5 => ?_
      have e34 := e3.trans e4
      obtain ⟨u, hu1, hu2⟩ := SF.imm_ex hR (b := i + 1) (by omega) hiG
      have hpick : EvL (tLc (iList K (tVar 4)) (gName 5) (tTest (tOp rEq (tCB (rLenS K) (tCons (tOp (rIxT K) (tVar 1) (tVar 5)) tNil)) (tCB (rLenS K) (tCons (tVar 4) tNil)))) (tVar 5) [5]) [some (.ref a), some (.ref r), some (.ref l), some (intV (i + 1)), some (.ref po), o5] H4
          (((others (suc G) G.length (i + 1)).filter fun o => decide ((domsOf (suc G) G.length o).length = (others (suc G) G.length (i + 1)).length)).map intV) := by
        refine el_filter _ (ei_map (ei_lst (ev_var rfl) h5)) (by have := ol (i + 1); omega) (fun _ => rfl) (fun _ => rfl) fun j o H5 ho e5 => ?_
        have hoG := (SF.mem_others.mp (List.mem_of_getElem? ho)).1
        obtain ⟨t2, ht3, ht4⟩ := row hoG (e34.trans e5)
        refine et_is (et_T (ev_op (ev_lenT (ev_ixT (ev_var rfl) ((e34.trans e5) _ _ h1) (ev_var rfl) (atI_nat (j := o) ht3)) ht4) (ev_lenL (ev_var rfl) (e5 _ _ h5)) (rv_eq rfl))) ?_
        rw [List.length_map, List.length_map]
        exact decide_eq_decide.mpr ⟨fun z => by have := V.int.inj z; omega, fun z => by rw [z]⟩
      obtain ⟨v0, rest, hv⟩ : ∃ v0 rest, (others (suc G) G.length (i + 1)).filter (fun o => decide ((domsOf (suc G) G.length o).length = (others (suc G) G.length (i + 1)).length)) = v0 :: rest := by
        cases h : (others (suc G) G.length (i + 1)).filter (fun o => decide ((domsOf (suc G) G.length o).length = (others (suc G) G.length (i + 1)).length)) with
        | nil =>
          have : u ∈ (others (suc G) G.length (i + 1)).filter (fun o => decide ((domsOf (suc G) G.length o).length = (others (suc G) G.length (i + 1)).length)) := List.mem_filter.mpr ⟨hu1, decide_eq_true hu2⟩
          rw [h] at this
          cases this
        | cons v0 rest => exact ⟨v0, rest, rfl⟩
      have hv0 := List.mem_filter.mp (show v0 ∈ _ by rw [hv]; exact List.mem_cons_self ..)
      rw [hv] at hpick
      refine s_app (D := { nx := _, rt := _, bk := _, ct := _ }) (v := intV v0) (e4 _ _ h3) (ev_var rfl) (ev_ixN hpick ev_c at0) (by simp only [List.length_cons, List.length_map]; omega) fun H5 e5 => ?_
      have hl1 : H1 l = none := hl
      refine ⟨⟨_, _, _, rfl⟩, ex_upd e34 hl1 e5, us ++ [v0], by rw [List.length_append, hul]; rfl, by rw [upd_same, List.map_append]; rfl, fun j u hj => ?_⟩
      by_cases q : j < us.length
      · rw [List.getElem?_append_left q] at hj
        exact h4 j u hj
      · have : j = us.length := by
          have := (List.getElem?_eq_some_iff.mp hj).1
          rw [List.length_append, List.length_singleton] at this
          omega
        subst this
        rw [List.getElem?_append_right (Nat.le_refl _), Nat.sub_self] at hj
        cases hj
        rw [hul]
        exact ⟨hv0.1, of_decide_eq_true hv0.2⟩
    · rintro σ' H' ⟨⟨o3, o4, o5, rfl⟩, e3, us, hul, h3, h4⟩
      have hn : us.length = G.length - 1 := by rw [hul]; omega
      refine s_retU (eu_tuple (ev_var rfl) h3) fun p H5 hp5 e5 h6 => k p H5 (fun b => us.getD (b - 1) 0) (fresh_back e1 (fresh_back e3 hp5)) (e1.trans (e3.trans e5)) ?_ ?_
      · rw [h6]
        congr 3
        refine List.ext_getElem? fun j => ?_
        rw [List.getElem?_map, List.getElem?_map]
        by_cases q : j < us.length
        · rw [List.getElem?_range (by omega), List.getElem?_eq_getElem q]
          show some (intV us[j]) = some (intV (us.getD (j + 1 - 1) 0))
          rw [Nat.add_sub_cancel, List.getD_eq_getElem?_getD, List.getElem?_eq_getElem q]
          rfl
        · rw [List.getElem?_eq_none (by omega), List.getElem?_eq_none (by rw [List.length_range]; omega)]
          rfl
      · intro b h0 hb
        have hj : b - 1 < us.length := by omega
        obtain ⟨u, hu⟩ : ∃ u, us[b - 1]? = some u := ⟨_, List.getElem?_eq_getElem hj⟩
        have hb1 : b - 1 + 1 = b := by omega
        obtain ⟨q1, q2⟩ := h4 _ u hu
        rw [hb1] at q1 q2
        have eu : us.getD (b - 1) 0 = u := by rw [List.getD_eq_getElem?_getD, hu]; rfl
        show us.getD (b - 1) 0 < G.length ∧ Dom (suc G) (us.getD (b - 1) 0) b ∧ us.getD (b - 1) 0 ≠ b ∧ ∀ d, d < G.length → Dom (suc G) d b → d ≠ b → Dom (suc G) d (us.getD (b - 1) 0)
        rw [eu]
        obtain ⟨z1, z2, z3⟩ := SF.mem_others.mp q1
        exact ⟨z1, z2, z3, SF.imm_ok hR hb q1 q2⟩
end
end Sh
end

section
set_option Elab.async false
set_option linter.all false
set_option maxRecDepth 100000
set_option maxHeartbeats 4000000
/-! Walks: tree_order. -/
namespace Sh
open PySem PySem.Spec PyProof.Rows L2 Evl Classical
open SF (RA Reach Dom sucOf domsOf others Imm TSt TOrd kids)
def spTree : Sp := fun vs H Q _ => ∃ v G, vs = [v] ∧ ProgAt H v G ∧ Small G ∧ 0 < G.length ∧ (∀ b, b < G.length → Reach (suc G) b) ∧
  ∀ p H' (ns : List Nat), H p = none → Ex H H' → H' p = some (.lst (ns.map intV)) → TOrd (suc G) G.length ns → Q (.ref p) H'
section
variable {P : Program} {w : World} {K : PySem.W.Frag} {mg : Str → Option Value} {base : Heap} {f : Addr} {fd : FuncData} {σ : L2.St} {H : Hp} {g : TG} {tu tz : TS} {D : Ends} {ta tb te tl : TE} {tr : TA}
theorem ei_rngL {m : Nat} (h : EvA tr σ H [.int (m : Nat)]) (hm : m ≤ 100000) : EvI (iRng1 tr) σ H (List.range m).length (YAt ((List.range m).map intV)) := fun H1 e R' k => h H1 e _ fun H2 e2 =>
  ⟨(m : Nat), rfl, by omega, by omega, k _ _ H2 e2 (by
    have w := walk_range (lo := 0) (n := ((m : Nat) : Int).toNat)
    rw [List.length_range]
    refine w.mono (fun _ h => h) fun i H x H' hi _ y => ⟨y.1, ?_⟩
    rw [List.getElem?_map, List.getElem?_range (by omega), y.2]
    show some (intV i) = some (V.int (0 + (i : Nat)))
    rw [Int.zero_add]
    rfl) fun _ _ => trivial⟩
/-- x = xs.pop(0) -/
theorem s_pop0 {l : Addr} {xs : List V} {y : V} {i : Nat} (h : Ev ta σ H (.ref l)) (hl : H l = some (.lst (y :: xs))) (k : ∀ H1, Ex H H1 → D.nx (σ.set i (some y)) (upd H1 l (.lst xs))) : tAsg (tBM K "list" rPopAt ta (tCons (tC (.int 0)) tNil)) (gName i) D σ H :=
  h H (Ex.refl H) _ fun H1 e1 => ⟨.inl ⟨rfl, _, sq_of (e1 _ _ hl)⟩, l, y :: xs, 0, 0, y, rfl, rfl, e1 _ _ hl, by decide, by decide, by unfold seqIndex?; simp, rfl, k H1 e1⟩
theorem q_pop0 {l : Addr} {xs : List V} {y : V} {i : Nat} (h : Ev ta σ H (.ref l)) (hl : H l = some (.lst (y :: xs))) (k : ∀ H1, Ex H H1 → tz D (σ.set i (some y)) (upd H1 l (.lst xs))) : tSeq (tAsg (tBM K "list" rPopAt ta (tCons (tC (.int 0)) tNil)) (gName i)) tz D σ H := s_pop0 (D := { D with nx := tz D }) h hl k
/-- xs + ys, xs new -/
theorem el_catN {b : Addr} {xs zs : List V} (ha : EvL ta σ H xs) (hb : Ev tb σ H (.ref b)) (hz : H b = some (.lst zs)) (hl : xs.length + zs.length ≤ 100000) : EvL (tOp rCat ta tb) σ H (xs ++ zs) := fun H1 e Q q =>
  ha H1 e _ fun p H2 hp e2 h2 => hb H2 (e.trans e2) _ fun H3 e3 => ⟨p, b, xs, zs, rfl, rfl, e3 _ _ h2, (e.trans (e2.trans e3)) _ _ hz, sz_of hl, fun r hr => q r _ (fresh_back (e2.trans e3) hr) ((e2.trans e3).trans (Ex.new hr)) upd_same⟩
abbrev s_tree_order : Stmt := top 19
abbrev n_tree_order : List Str := ["program", "above", "found", "todo", "number", "other"]
theorem sc_tree_order : FnScope ["program", "above", "found", "todo", "number", "other"] ["program"] (defScope s_tree_order) := ⟨rfl, rfl, rfl, by decide +kernel, rfl, by decide +kernel, by decide +kernel⟩
theorem ok_tree_order (F : FnP K "tree_order" "tree_order" s_tree_order f fd) (B : Blt mg) (C_immediate : Cal P w K mg base "immediate" 4 ["program"] spImm) : FnOk P w K mg base CX0 5 f fd ["program"] spTree := by
  refine F.ok sc_tree_order (fun vs H Q E h => ?_) (fun cdv A outer s H vs Q E hr h => ⟨_, PSs.nox ((pss_cons (ps_set (i := 1) sc_tree_order.nd rfl (Or.inr rfl) (pe_cal C_immediate (hr.mono (by decide)) (by rfl) (pa_cons (pv 0) pa_nil))) (pss_cons (ps_set (i := 2) sc_tree_order.nd rfl (Or.inl rfl) (pe_lst pa_nil)) (pss_cons (ps_set (i := 3) sc_tree_order.nd rfl (Or.inl rfl) (pe_lst (pa_cons pe_int pa_nil))) (pss_cons (ps_while PassesOwn.never (pt_truth (pv 3) (by intro _; rfl)) (pss_cons (ps_set (i := 4) sc_tree_order.nd rfl (Or.inr rfl) (pe_bm PySem.F.plainAttrs_list PySem.F.slot_list_pop PySem.F.type_list_pop mt_popAt (pv 3) (pa_cons pe_int pa_nil))) (pss_cons (ps_expr (pe_bm PySem.F.plainAttrs_list PySem.F.slot_list_append PySem.F.type_list_append mt_append (pv 2) (pa_cons (pv 4) pa_nil))) (pss_one (ps_set (i := 3) sc_tree_order.nd rfl (Or.inl rfl) (pe_op op_cat (pe_lc (own := [("other", 5)]) (g := (gName 5)) rfl sc_tree_order.nd (pi_range1 (by rfl) B.range (pa_cons (pe_callB call_len_seq (by rfl) B.len PySem.boot_len (pa_cons (pv 0) pa_nil)) pa_nil)) (blkOk_by (own := [("other", 5)]) (N := ["program", "above", "found", "todo", "number", "other"]) (sc := (defScope s_tree_order)) (by decide +kernel)) (fun _ _ _ _ _ => (pg_name (i := 5) sc_tree_order.nd rfl (Or.inl rfl))) (fun _ _ _ _ _ => pts_one (pt_cmpR op_eq (pe_ix (ix_tupK (K := K) rfl) (pv 1) (pv 5) (fun _ _ => rfl)) (pv 4) (nomark _))) (fun _ _ _ _ _ => (pv 5))) (pv 3))))))) (pss_one (ps_ret (pv 2)))))))), ?_⟩)
  · obtain ⟨v, G, rfl, _⟩ := h
    rfl
  · obtain ⟨v, G, rfl, hP, S, hG0, hR, k⟩ := h
    obtain ⟨xs, ⟨a, rfl, ha⟩, hp⟩ := id hP
    have hlen := pd_len hp
    have hG := S.len
    refine q_raw ⟨_, rfl, _, G, rfl, hP, S, hG0, hR, fun r H1 fI hr1 e1 h1 hI => ?_⟩
    have row : ∀ c, c < G.length → (V.non :: (List.range (G.length - 1)).map fun i => intV (fI (i + 1)))[c]? = some (if c = 0 then V.non else intV (fI c)) := fun c hc => by
      cases c with
      | zero => rfl
      | succ c =>
        rw [List.getElem?_cons_succ, List.getElem?_map, List.getElem?_range (by omega), if_neg (Nat.succ_ne_zero c)]
        rfl
    refine q_asgL (xs := []) (el_lst ea_nil (by decide)) fun l H2 hl e2 h2 => ?_
    refine q_asgL (xs := [intV 0]) (el_lst (ea1 ev_c) (by show 1 ≤ 100000; decide)) fun l2 H3 hl2 e3 h3 => ?_
    have nll : l ≠ l2 := ne_of_none h2 hl2
    refine q_while (fun m σ' H' => ∃ fd td l2, (∃ o4 o5, σ' = [some (.ref a), some (.ref r), some (.ref l), some (.ref l2), o4, o5]) ∧ Ex H1 H' ∧ H1 l2 = none ∧ l ≠ l2 ∧ H' l = some (.lst (fd.map intV)) ∧ H' l2 = some (.lst (td.map intV)) ∧ TSt (suc G) G.length fI fd td ∧ G.length - fd.length = m) _
      ⟨[], [0], l2, ⟨none, none, rfl⟩, e2.trans e3, fresh_back e2 hl2, nll, e3 _ _ h2, h3, TSt.init hG0, rfl⟩ ?_
    rintro m σ' H' ⟨fd, td, l2, ⟨o4, o5, rfl⟩, e4, hl2, nll, h4, h5, T, rfl⟩
    have hsz : (fd ++ td).length ≤ G.length := nd_le T.nd T.lt
    rw [List.length_append] at hsz
    refine ⟨!td.isEmpty, et_list (ev_var rfl) h5 (by cases td <;> rfl), fun hb H5 e5 => ?_, fun hb H5 e5 => ?_⟩
    · obtain ⟨x, td', rfl⟩ : ∃ x td', td = x :: td' := by
        cases td with
        | nil => cases hb
        | cons x r => exact ⟨x, r, rfl⟩
      refine ⟨fun σ2 H2 => ∃ m', m' < G.length - fd.length ∧ ∃ fd td l2, (∃ o4 o5, σ2 = [some (.ref a), some (.ref r), some (.ref l), some (.ref l2), o4, o5]) ∧ Ex H1 H2 ∧ H1 l2 = none ∧ l ≠ l2 ∧ H2 l = some (.lst (fd.map intV)) ∧ H2 l2 = some (.lst (td.map intV)) ∧ TSt (suc G) G.length fI fd td ∧ G.length - fd.length = m', fun σ2 H2 h => h, ?_⟩
      have T' := T.step
      have hsz' : (fd ++ [x] ++ (kids G.length fI x ++ td')).length ≤ G.length := nd_le T'.nd T'.lt
      simp only [List.length_append, List.length_cons, List.length_nil] at hsz hsz'
      refine q_pop0 (ev_var rfl) (e5 _ _ h5) fun H6 e6 => ?_
      have e56 := e5.trans e6
      have ex6 := ex_upd (o := .lst (td'.map intV)) e4 hl2 e56
      have hl6 : upd H6 l2 (.lst (td'.map intV)) l = some (.lst (fd.map intV)) := by rw [upd_ne nll]; exact e56 _ _ h4
      refine q_app (v := intV x) hl6 (ev_var rfl) (ev_var rfl) (by rw [List.length_map]; omega) fun H7 e7 => ?_
      have ex7 := ex_upd (o := .lst (fd.map intV ++ [intV x])) ex6 hl e7
      have hl27 : upd H7 l (.lst (fd.map intV ++ [intV x])) l2 = some (.lst (td'.map intV)) := by rw [upd_ne nll.symm]; exact e7 _ _ upd_same
      have hkids : EvL (tLc (iRng1 (tCons (tCB (rLenS K) (tCons (tVar 0) tNil)) tNil)) (gName 5) (tTest (tOp rEq (tOp (rIxT K) (tVar 1) (tVar 5)) (tVar 4))) (tVar 5) [5]) [some (.ref a), some (.ref r), some (.ref l), some (.ref l2), some (intV x), o5] (upd H7 l (.lst (fd.map intV ++ [intV x]))) ((kids G.length fI x).map intV) := by
        have hr0 : EvI (iRng1 (tCons (tCB (rLenS K) (tCons (tVar 0) tNil)) tNil)) [some (.ref a), some (.ref r), some (.ref l), some (.ref l2), some (intV x), o5] (upd H7 l (.lst (fd.map intV ++ [intV x]))) (List.range G.length).length (YAt ((List.range G.length).map intV)) := by
          have := ev_lenT (K := K) (σ := [some (.ref a), some (.ref r), some (.ref l), some (.ref l2), some (intV x), o5]) (ev_var (i := 0) rfl) (ex7 _ _ (e1 _ _ ha))
          rw [hlen] at this
          exact ei_rngL (ea1 this) (by omega)
        refine el_filter (fun c => decide (0 < c ∧ fI c = x)) hr0 (by rw [List.length_range]; omega) (fun _ => rfl) (fun _ => rfl) fun j c H8 hc e8 => ?_
        have hcG := List.mem_range.mp (List.mem_of_getElem? hc)
        have hrow := row c hcG
        by_cases c0 : c = 0
        · rw [if_pos c0] at hrow
          refine et_is (et_T (ev_op (ev_ixT (ev_var rfl) (e8 _ _ (ex7 _ _ h1)) (ev_var rfl) (atI_nat (j := c) hrow)) (ev_var rfl) (rv_eq rfl))) ?_
          rw [decide_eq_false (show ¬ (0 < c ∧ fI c = x) from fun z => by omega)]
          exact decide_eq_false fun z => by cases z
        · rw [if_neg c0] at hrow
          refine et_is (et_T (ev_op (ev_ixT (ev_var rfl) (e8 _ _ (ex7 _ _ h1)) (ev_var rfl) (atI_nat (j := c) hrow)) (ev_var rfl) (rv_eq rfl))) ?_
          exact decide_eq_decide.mpr ⟨fun z => ⟨by omega, by have := V.int.inj z; omega⟩, fun z => by rw [z.2]⟩
      refine s_asgL (D := { nx := _, rt := _, bk := _, ct := _ }) (el_catN hkids (ev_var rfl) hl27 (by simp only [List.length_map]; omega)) fun l3 H8 hl3 e8 h8 => ?_
      refine ⟨_, ?_, fd ++ [x], kids G.length fI x ++ td', l3, ⟨_, _, rfl⟩, ex7.trans e8, fresh_back ex7 hl3, ?_, ?_, by rw [h8, List.map_append], T', rfl⟩
      · rw [List.length_append, List.length_singleton]; omega
      · exact ne_of_none upd_same hl3
      · rw [e8 _ _ upd_same, List.map_append]; rfl
    · obtain rfl : td = [] := by
        cases td with
        | nil => rfl
        | cons => cases hb
      exact s_ret (ev_var rfl) fun H6 e6 => k l H6 fd (fresh_back e1 hl) (e1.trans (e4.trans (e5.trans e6))) (e6 _ _ (e5 _ _ h4)) (T.done hI hR)
end
end Sh
end

section
set_option Elab.async false
set_option linter.all false
set_option maxRecDepth 100000
set_option maxHeartbeats 4000000
/-! Walks: before_rows. -/
namespace Sh
open PySem PySem.Spec PyProof.Rows L2 Evl
def aheadK (r : Row) (ks : List Str) : List Str := insAll (insAll [] (ks.filter fun x => decide (dby r ≠ some x))) (uses r)
def befK : List Row → List Str → List (List Str)
  | [], ks => [ks]
  | r :: rs, ks => aheadK r ((befK rs ks).headD []) :: befK rs ks
theorem befK_len (ks : List Str) : ∀ rs : List Row, (befK rs ks).length = rs.length + 1
  | [] => rfl
  | r :: rs => by
    show (befK rs ks).length + 1 = _
    rw [befK_len ks rs]
    rfl
theorem befK_cons (rs : List Row) (ks : List Str) : befK rs ks = (befK rs ks).headD [] :: (befK rs ks).tail := by cases rs <;> rfl
theorem aheadK_len (r : Row) (ks : List Str) : (aheadK r ks).length ≤ ks.length + (uses r).length := by
  unfold aheadK
  have h1 := insAll_len (uses r) (insAll [] (ks.filter fun x => decide (dby r ≠ some x)))
  have h2 := insAll_len (ks.filter fun x => decide (dby r ≠ some x)) []
  have h3 := List.length_filter_le (fun x => decide (dby r ≠ some x)) ks
  simp only [List.length_nil] at h2
  omega
theorem befK_hd {ks : List Str} : ∀ {rs : List Row}, (∀ r ∈ rs, (uses r).length ≤ 50) → ((befK rs ks).headD []).length ≤ ks.length + 50 * rs.length
  | [], _ => by simp [befK]
  | r :: rs, h => by
    have ih := befK_hd (ks := ks) (rs := rs) fun r hr => h r (List.mem_cons_of_mem _ hr)
    have h1 := aheadK_len r ((befK rs ks).headD [])
    have h2 := h r (List.mem_cons_self ..)
    show (aheadK r ((befK rs ks).headD [])).length ≤ _
    rw [List.length_cons]
    omega
def spBefore : Sp := fun vs H Q _ => ∃ (a d : Addr) (xs : List V) (rs : List Row) (ks : List Str), vs = [.ref a, .ref d] ∧ H a = some (.tup xs) ∧ Paired (RowAt H) xs rs ∧ H d = some (.dK (dkT ks)) ∧ rs.length ≤ 30 ∧ (∀ r ∈ rs, (uses r).length ≤ 50) ∧ ks.length ≤ 1000 ∧
  ∀ p H' ws, H p = none → Ex H H' → H' p = some (.lst ws) → Paired (DAt H') ws (befK rs ks) → Q (.ref p) H'
theorem drop_at {α : Type} {l : List α} {i : Nat} {x : α} (h : l[i]? = some x) : l.drop i = x :: l.drop (i + 1) := by
  obtain ⟨hi, e⟩ := List.getElem?_eq_some_iff.mp h
  rw [List.drop_eq_getElem_cons hi, e]
section
variable {P : Program} {w : World} {K : PySem.W.Frag} {mg : Str → Option Value} {base : Heap} {f : Addr} {fd : FuncData} {σ : L2.St} {H : Hp} {g : TG} {tu tz : TS} {D : Ends} {ta tb te tl : TE} {tr : TA}
theorem eu_rev {a : Addr} {xs : List V} (h : Ev te σ H (.ref a)) (ha : H a = some (.tup xs)) : EvU (tRevT K te) σ H xs.reverse := fun H1 e Q q =>
  h H1 e _ fun H2 e2 => ⟨a, xs, rfl, st_of ((e.trans e2) _ _ ha), fun p hp => q p _ (fresh_back e2 hp) (e2.trans (Ex.new hp)) upd_same⟩
theorem ew_uses {v : V} {r : Row} (h : Ev ta σ H v) (hr : RowAt H v r) (hz : (uses r).length ≤ 1000) : EvW (tCall spUses [] E0 (tCons ta tNil)) σ H ((uses r).map V.str) := fun H1 e Q q =>
  h H1 e _ fun H2 e2 => ⟨v, r, rfl, hr.mono (tx (e.trans e2)), hz, fun p H3 e3 h3 => q p H3 (e2.trans e3) h3⟩
def rIns : V → List V → Hp → VK → Prop := fun x vs H Q => ∃ (l : Addr) (xs : List V) (i : Int) (y : V), x = .ref l ∧ vs = [.int i, y] ∧ H l = some (.lst xs) ∧ xs.length < sizeLine ∧ 0 ≤ i ∧ i < 2 ^ 63 ∧ Q .non (upd H l (.lst (xs.take i.toNat ++ [y] ++ xs.drop i.toNat)))
/-- xs.insert(0, e) -/
theorem s_ins0 {l : Addr} {xs : List V} {v : V} (hl : H l = some (.lst xs)) (ha : Ev ta σ H (.ref l)) (h : Ev te σ H v) (hz : xs.length < 100000) (k : ∀ H1, Ex H H1 → D.nx σ (upd H1 l (.lst (v :: xs)))) :
    tDrop (tBM K "list" rIns ta (tCons (tC (.int 0)) (tCons te tNil))) D σ H := ha H (Ex.refl H) _ fun H1 e1 =>
  ⟨.inl ⟨rfl, xs, sq_of (e1 l _ hl)⟩, h H1 e1 _ fun H2 e2 => ⟨l, xs, 0, v, rfl, rfl, e2 l _ (e1 l _ hl), sz_lt hz, by decide, by decide, k H2 (e1.trans e2)⟩⟩
abbrev s_before_rows : Stmt := top 10
abbrev n_before_rows : List Str := ["rows", "live", "found", "row", "name", "ahead"]
theorem sc_before_rows : FnScope ["rows", "live", "found", "row", "name", "ahead"] ["rows", "live"] (defScope s_before_rows) := ⟨rfl, rfl, rfl, by decide +kernel, rfl, by decide +kernel, by decide +kernel⟩
theorem ok_before_rows (F : FnP K "before_rows" "before_rows" s_before_rows f fd) (B : Blt mg) (C_defined_by : Cal P w K mg base "defined_by" 1 ["instruction"] spDby) (C_uses_of : Cal P w K mg base "uses_of" 1 ["row"] spUses) : FnOk P w K mg base CX0 2 f fd ["rows", "live"] spBefore := by
  refine F.ok sc_before_rows (fun vs H Q E h => ?_) (fun cdv A outer s H vs Q E hr h => ⟨_, PSs.nox ((pss_cons (ps_set (i := 2) sc_before_rows.nd rfl (Or.inl rfl) (pe_lst (pa_cons (pv 1) pa_nil))) (pss_cons (ps_for PassesOwn.never rfl (pi_tup (pe_revT (pv 0))) (pg_name (i := 3) sc_before_rows.nd rfl (Or.inr rfl)) (pss_cons (ps_lock (ps_setDc (i := 5) (own := [("name", 4)]) (g := (gName 4)) rfl sc_before_rows.nd rfl rfl (swd_true rfl rfl rfl (by decide +kernel)) (pi_keys (pe_ix ix_list (pv 2) pe_int (fun _ _ => rfl))) (blkOk_by (own := [("name", 4)]) (N := ["rows", "live", "found", "row", "name", "ahead"]) (sc := (defScope s_before_rows)) (by decide +kernel)) (fun _ _ _ _ _ => (pg_name (i := 4) sc_before_rows.nd rfl (Or.inl rfl))) (fun _ _ _ _ _ => pts_one (pt_cmpR op_ne (pv 4) (pe_cal C_defined_by (hr.mono (by decide)) (by rfl) (pa_cons (pv 3) pa_nil)) (nomark _))) (fun _ _ _ _ _ => (pv 4)) (fun _ _ _ _ _ => pe_bl))) (pss_cons (ps_for PassesOwn.never rfl (pi_tup (pe_cal C_uses_of (hr.mono (by decide)) (by rfl) (pa_cons (pv 3) pa_nil))) (pg_name (i := 4) sc_before_rows.nd rfl (Or.inl rfl)) (pss_one (ps_dput (hu_of hr) (pv 5) (pv 4) pe_bl rfl))) (pss_one (ps_expr (pe_bm PySem.F.plainAttrs_list PySem.F.slot_list_insert PySem.F.type_list_insert mt_insert (pv 2) (pa_cons pe_int (pa_cons (pv 5) pa_nil)))))))) (pss_one (ps_ret (pv 2)))))), ?_⟩)
  · obtain ⟨a, d, xs, rs, ks, rfl, _⟩ := h
    rfl
  · obtain ⟨a, d, xs, rs, ks, rfl, ha, hp, hd, hrl, hus, hkl, k⟩ := h
    have hlen := pd_len hp
    refine q_asgL (xs := [V.ref d]) (el_lst (ea1 (ev_var rfl)) (by show 1 ≤ 100000; decide)) fun l H1 hl e1 h1 => ?_
    refine q_forW (ew_new (eu_rev (K := K) (ev_var rfl) (e1 _ _ ha))) fun pr H2 e2 hpr => ?_
    refine ⟨fun i σ' H' => (∃ o3 o4 o5, σ' = [some (.ref a), some (.ref d), some (.ref l), o3, o4, o5]) ∧ Ex H H' ∧ H' pr = some (.tup xs.reverse) ∧ ∃ ws, H' l = some (.lst ws) ∧ Paired (DAt H') ws (befK (rs.drop (rs.length - i)) ks), ?_, fun i σ' H' q => q.2.2.1, ?_, ?_⟩
    · refine ⟨⟨none, none, none, rfl⟩, e1.trans e2, hpr, [V.ref d], e2 _ _ h1, ?_⟩
      rw [Nat.sub_zero, List.drop_length]
      exact .cons ⟨d, rfl, (e1.trans e2) _ _ hd⟩ .nil
    · rintro i x σ' H' hx ⟨⟨o3, o4, o5, rfl⟩, e3, h3, ws, h4, h5⟩
      have hi : i < xs.length := by have := (List.getElem?_eq_some_iff.mp hx).1; rwa [List.length_reverse] at this
      have hx' : xs[xs.length - 1 - i]? = some x := by rw [List.getElem?_reverse hi] at hx; exact hx
      obtain ⟨r, hr0, hra⟩ := pd_get hp hx'
      rw [hlen] at hr0
      have hd1 := drop_at hr0
      have e9 : rs.length - 1 - i + 1 = rs.length - i := by omega
      rw [e9] at hd1
      have e10 : rs.length - (i + 1) = rs.length - 1 - i := by omega
      have hrm := List.mem_of_getElem? hr0
      have hul := hus r hrm
      have husd : ∀ r ∈ rs.drop (rs.length - i), (uses r).length ≤ 50 := fun r hr => hus r (List.mem_of_mem_drop hr)
      generalize hkk : (befK (rs.drop (rs.length - i)) ks).headD [] = k0
      have hk0 : k0.length ≤ 2500 := by
        have := befK_hd (ks := ks) husd
        rw [hkk, List.length_drop] at this
        omega
      rw [befK_cons, hkk] at h5
      obtain ⟨w0, ws', rfl⟩ : ∃ w0 ws', ws = w0 :: ws' := by cases h5; exact ⟨_, _, rfl⟩
      obtain ⟨d0, rfl, hd0⟩ : DAt H' w0 k0 := by cases h5; assumption
      have hll := pd_len h5
      rw [List.length_cons, List.length_cons, List.length_tail, befK_len, List.length_drop] at hll
      have ndl : d0 ≠ l := ne_of hd0 h4 (by intro z; cases z)
      -- the dict of those that are live behind, but the one that the row defines
      refine q_lockD (d := d0) (u := .dK (dkT k0)) (kvs := dkT (insAll [] (k0.filter fun x => decide (dby r ≠ some x)))) hd0 trivial (fun od => ?_) fun ah H5 hah e5 h6 => ?_
      · have hl' : upd H' d0 (.frz od (.dK (dkT k0))) l = some (.lst (.ref d0 :: ws')) := by rw [upd_ne ndl.symm]; exact h4
        refine ed_true (fun x => decide (dby r ≠ some x)) (ei_keys (ev_ixL (ev_var rfl) hl' ev_c at0) upd_same) (by omega) (fun _ => rfl) (fun _ => rfl) fun j y H6 hy e6 => ?_
        have hra6 : RowAt H6 x r := hra.mono ((tx e3).trans ((tx_of hd0 fun _ z => by cases z).trans (tx e6)))
        refine et_is (et_T (ev_op (ev_var rfl) (ev_dby (ev_var rfl) hra6) (rv_ne (by cases dby r <;> rfl)))) ?_
        cases hdb : dby r with
        | none => rfl
        | some z =>
          show (!decide (V.str y = V.str z)) = decide (some z ≠ some y)
          by_cases q : z = y
          · subst q; simp
          · have q2 : ¬ V.str y = V.str z := fun e => q (V.str.inj e).symm
            have q3 : some z ≠ some y := fun e => q (Option.some.inj e)
            rw [decide_eq_false q2, decide_eq_true q3]
            rfl
      have ndah : ∀ {z : Addr} {o : HO}, H' z = some o → z ≠ ah := fun h => ne_of_none h hah
      have hra5 : RowAt H5 x r := hra.mono (tx (e3.trans e5))
      refine q_forW (ew_uses (ev_var rfl) hra5 (by omega)) fun pu H6 e6 hpu => ?_
      have pne : pu ≠ ah := ne_of hpu (e6 _ _ h6) (by intro z; cases z)
      refine ⟨fun j σ' H7 => (∃ o4, σ' = [some (.ref a), some (.ref d), some (.ref l), some x, o4, some (.ref ah)]) ∧ Ex H' H7 ∧ H7 pu = some (.tup ((uses r).map V.str)) ∧ H7 ah = some (.dK (dkT (insAll (insAll [] (k0.filter fun x => decide (dby r ≠ some x))) ((uses r).take j)))), ?_, fun i σ' H' q => q.2.2.1, ?_, ?_⟩
      · exact ⟨⟨o4, rfl⟩, e5.trans e6, hpu, e6 _ _ h6⟩
      · rintro j y σ' H7 hy ⟨⟨o4, rfl⟩, f1, f2, f3⟩
        rw [List.getElem?_map] at hy
        cases hu : (uses r)[j]? with
        | none => rw [hu] at hy; cases hy
        | some u =>
          rw [hu] at hy
          cases hy
          refine s_dput (D := { nx := _, rt := _, bk := _, ct := _ }) (kk := Sum.inr u) f3 ev_c (ev_var rfl) (ev_var rfl) ?_ fun H8 e8 => ?_
          · rw [List.length_map]
            have h1 := insAll_len ((uses r).take j) (insAll [] (k0.filter fun x => decide (dby r ≠ some x)))
            have h2 := insAll_len (k0.filter fun x => decide (dby r ≠ some x)) []
            have h3 := List.length_filter_le (fun x => decide (dby r ≠ some x)) k0
            have h4 : ((uses r).take j).length ≤ (uses r).length := by rw [List.length_take]; omega
            simp only [List.length_nil] at h2
            omega
          · refine ⟨⟨_, rfl⟩, ex_upd f1 hah e8, by rw [upd_ne pne]; exact e8 _ _ f2, ?_⟩
            rw [upd_same, put_dkT, take_succ hu, insAll_snoc]
      · rintro σ' H7 ⟨⟨o4, rfl⟩, f1, f2, f3⟩
        rw [List.length_map, List.take_length] at f3
        refine s_ins0 (D := { nx := _, rt := _, bk := _, ct := _ }) (f1 _ _ h4) (ev_var rfl) (ev_var rfl) (by rw [List.length_cons]; omega) fun H8 e8 => ?_
        have hl0 : H l = none := hl
        have prl : pr ≠ l := ne_of h3 h4 (by intro z; cases z)
        have nl : ∀ ks, H8 l ≠ some (.dK ks) := fun ks z => by
          have := e8 _ _ (f1 _ _ h4)
          rw [z] at this
          cases this
        refine ⟨⟨_, _, _, rfl⟩, ex_upd (e3.trans f1) hl0 e8, by rw [upd_ne prl]; exact e8 _ _ (f1 _ _ h3), _, upd_same, ?_⟩
        rw [e10, hd1]
        show Paired _ _ (aheadK r ((befK (rs.drop (rs.length - i)) ks).headD []) :: befK (rs.drop (rs.length - i)) ks)
        rw [hkk]
        refine .cons (DAt.upd ⟨ah, rfl, e8 _ _ f3⟩ nl) ?_
        rw [befK_cons, hkk]
        exact Paired.mapP h5 fun v b q => DAt.upd (mono_dat _ _ _ _ (f1.trans e8) q) nl
    · rintro σ' H' ⟨⟨o3, o4, o5, rfl⟩, e3, h3, ws, h4, h5⟩
      rw [List.length_reverse, hlen, Nat.sub_self] at h5
      exact s_ret (ev_var rfl) fun H5 e5 => k l H5 ws hl (e3.trans e5) (e5 _ _ h4) (Paired.mapP h5 fun v b q => mono_dat _ _ _ _ e5 q)
end
end Sh
end

section
set_option Elab.async false
set_option linter.all false
set_option maxRecDepth 100000
set_option maxHeartbeats 4000000
/-! The living's lists: what renew makes, that it is sound, that it grows, that it is the living where it stands still. No machine here. -/
namespace Sh
open SF (LiveAt sucOf DefPt)
open PySem (Str)
abbrev at_ (I : List (List Str)) (c : Nat) : List Str := I.getD c []
def bhK (es : List (Nat × Nat)) (I : List (List Str)) (b : Nat) : List Str := es.foldl (fun acc e => if e.1 = b then insAll acc (at_ I e.2) else acc) []
theorem bhK_snoc (es : List (Nat × Nat)) (I : List (List Str)) (b : Nat) (e : Nat × Nat) : bhK (es ++ [e]) I b = if e.1 = b then insAll (bhK es I b) (at_ I e.2) else bhK es I b := by
  unfold bhK
  rw [List.foldl_append]
  rfl
theorem snoc_ind {α : Type} {p : List α → Prop} (h0 : p []) (hs : ∀ l a, p l → p (l ++ [a])) (l : List α) : p l := by
  have : ∀ l : List α, p l.reverse := by
    intro l
    induction l with
    | nil => exact h0
    | cons a l ih =>
      rw [List.reverse_cons]
      exact hs _ _ ih
  have h := this l.reverse
  rwa [List.reverse_reverse] at h
theorem mem_bhK {I : List (List Str)} {b : Nat} {x : Str} (es : List (Nat × Nat)) : x ∈ bhK es I b ↔ ∃ c, (b, c) ∈ es ∧ x ∈ at_ I c := by
  induction es using snoc_ind with
  | h0 => simp [bhK]
  | hs es e ih =>
    rw [bhK_snoc]
    by_cases h : e.1 = b
    · rw [if_pos h, mem_insAll, ih]
      constructor
      · rintro (⟨c, h1, h2⟩ | h2)
        · exact ⟨c, List.mem_append_left _ h1, h2⟩
        · exact ⟨e.2, List.mem_append_right _ (by rw [← h]; exact List.mem_singleton.mpr rfl), h2⟩
      · rintro ⟨c, h1, h2⟩
        rcases List.mem_append.mp h1 with h1 | h1
        · exact .inl ⟨c, h1, h2⟩
        · rw [← List.mem_singleton.mp h1]
          exact .inr h2
    · rw [if_neg h, ih]
      constructor
      · rintro ⟨c, h1, h2⟩
        exact ⟨c, List.mem_append_left _ h1, h2⟩
      · rintro ⟨c, h1, h2⟩
        rcases List.mem_append.mp h1 with h1 | h1
        · exact ⟨c, h1, h2⟩
        · exact absurd (by rw [← List.mem_singleton.mp h1]) h
theorem bhK_nd {I : List (List Str)} {b : Nat} (es : List (Nat × Nat)) : (bhK es I b).Nodup := by
  induction es using snoc_ind with
  | h0 => exact List.nodup_nil
  | hs es e ih =>
    rw [bhK_snoc]
    split
    · exact insAll_nd ih
    · exact ih
theorem aheadK_nd (r : Row) (ks : List Str) : (aheadK r ks).Nodup := insAll_nd (insAll_nd List.nodup_nil)
theorem mem_ahead {r : Row} {ks : List Str} {x : Str} : x ∈ aheadK r ks ↔ x ∈ uses r ∨ (dby r ≠ some x ∧ x ∈ ks) := by
  unfold aheadK
  rw [mem_insAll, mem_insAll, List.mem_filter, decide_eq_true_iff]
  constructor
  · rintro ((h | h) | h)
    · cases h
    · exact .inr ⟨h.2, h.1⟩
    · exact .inl h
  · rintro (h | h)
    · exact .inr h
    · exact .inl (.inr ⟨h.2, h.1⟩)
/-- the rows of a block, ahead of each of its rows -/
def rowsK (G : List PB) (I : List (List Str)) (b : Nat) (B : PB) : List (List Str) := (befK (B.ins ++ [B.fin]) (bhK (edgesP G) I b)).dropLast
theorem rowsK_len (G : List PB) (I : List (List Str)) (b : Nat) (B : PB) : (rowsK G I b B).length = B.ins.length + 1 := by
  unfold rowsK
  rw [List.length_dropLast, befK_len, List.length_append]
  simp
theorem befK_get (ks : List Str) : ∀ (rs : List Row) (k : Nat) (r : Row), rs[k]? = some r → ∃ l, (befK rs ks)[k + 1]? = some l ∧ (befK rs ks)[k]? = some (aheadK r l)
  | [], k, r, h => by simp at h
  | r0 :: rs, 0, r, h => by
    simp at h
    subst h
    refine ⟨(befK rs ks).headD [], ?_, rfl⟩
    show (befK rs ks)[0]? = _
    rw [befK_cons]
    rfl
  | r0 :: rs, k + 1, r, h => by
    have h : rs[k]? = some r := by simpa using h
    exact befK_get ks rs k r h
theorem befK_last (ks : List Str) : ∀ rs : List Row, (befK rs ks)[rs.length]? = some ks
  | [] => rfl
  | r :: rs => befK_last ks rs
/-- ahead of row k of block b -/
abbrev rw_ (G : List PB) (I : List (List Str)) (b : Nat) (B : PB) (k : Nat) : List Str := at_ (rowsK G I b B) k
theorem get_dropLast {α : Type} {l : List α} {i : Nat} (h : i + 1 < l.length) : l.dropLast[i]? = l[i]? := by
  rw [List.dropLast_eq_take, List.getElem?_take, if_pos (by omega)]
theorem rows_fin {G : List PB} {I : List (List Str)} {b : Nat} {B : PB} : rw_ G I b B B.ins.length = aheadK B.fin (bhK (edgesP G) I b) := by
  obtain ⟨l, h1, h2⟩ := befK_get (bhK (edgesP G) I b) (B.ins ++ [B.fin]) B.ins.length B.fin (by simp)
  have h3 := befK_last (bhK (edgesP G) I b) (B.ins ++ [B.fin])
  rw [List.length_append, List.length_singleton] at h3
  rw [h3] at h1
  cases h1
  unfold rw_ at_ rowsK
  rw [List.getD_eq_getElem?_getD, get_dropLast (by rw [befK_len, List.length_append]; simp), h2]
  rfl
theorem rows_ins {G : List PB} {I : List (List Str)} {b : Nat} {B : PB} {k : Nat} {r : Row} (h : B.ins[k]? = some r) : rw_ G I b B k = aheadK r (rw_ G I b B (k + 1)) := by
  have hk := (List.getElem?_eq_some_iff.mp h).1
  obtain ⟨l, h1, h2⟩ := befK_get (bhK (edgesP G) I b) (B.ins ++ [B.fin]) k r (by rw [List.getElem?_append_left hk]; exact h)
  have e : (befK (B.ins ++ [B.fin]) (bhK (edgesP G) I b)).length = B.ins.length + 2 := by rw [befK_len, List.length_append]; simp
  unfold rw_ at_ rowsK
  rw [List.getD_eq_getElem?_getD, List.getD_eq_getElem?_getD, get_dropLast (by omega), get_dropLast (by omega), h1, h2]
  rfl
/-- what flows into block b -/
def intoK (G : List PB) (I : List (List Str)) (b : Nat) (B : PB) : List Str := insAll [] ((rw_ G I b B 0).filter fun x => !decide (x ∈ B.params))
theorem mem_into {G : List PB} {I : List (List Str)} {b : Nat} {B : PB} {x : Str} : x ∈ intoK G I b B ↔ x ∈ rw_ G I b B 0 ∧ x ∉ B.params := by
  unfold intoK
  rw [mem_insAll, List.mem_filter]
  simp
theorem into_nd {G : List PB} {I : List (List Str)} {b : Nat} {B : PB} : (intoK G I b B).Nodup := insAll_nd List.nodup_nil
/-- more in, more out -/
theorem rows_mono {G : List PB} {I J : List (List Str)} (h : ∀ c x, x ∈ at_ I c → x ∈ at_ J c) {b : Nat} {B : PB} : ∀ n k, n + k = B.ins.length → ∀ x, x ∈ rw_ G I b B k → x ∈ rw_ G J b B k := by
  intro n
  induction n with
  | zero =>
    intro k hk x hx
    rw [Nat.zero_add] at hk
    subst hk
    rw [rows_fin, mem_ahead] at hx ⊢
    rcases hx with hx | ⟨h1, h2⟩
    · exact .inl hx
    · refine .inr ⟨h1, ?_⟩
      rw [mem_bhK] at h2 ⊢
      obtain ⟨c, h3, h4⟩ := h2
      exact ⟨c, h3, h c x h4⟩
  | succ n ih =>
    intro k hk x hx
    obtain ⟨r, hr⟩ : ∃ r, B.ins[k]? = some r := ⟨_, List.getElem?_eq_getElem (by omega)⟩
    rw [rows_ins hr, mem_ahead] at hx ⊢
    exact hx.imp id fun z => ⟨z.1, ih (k + 1) (by omega) x z.2⟩
theorem into_mono {G : List PB} {I J : List (List Str)} (h : ∀ c x, x ∈ at_ I c → x ∈ at_ J c) {b : Nat} {B : PB} {x : Str} (hx : x ∈ intoK G I b B) : x ∈ intoK G J b B := by
  rw [mem_into] at hx ⊢
  exact ⟨rows_mono h B.ins.length 0 rfl x hx.1, hx.2⟩
/-! ### the plain law's block -/
theorem pg_at {G : List PB} {b : Nat} {B : PB} (h : G[b]? = some B) : (toPg G)[b]? = some (toBk G B) := by
  unfold toPg
  rw [List.getElem?_map, h]
  rfl
theorem bk_ins {G : List PB} {B : PB} {k : Nat} {r : Row} (h : B.ins[k]? = some r) : (toBk G B).ins[k]? = some (dby r, uses r) := by
  show (B.ins.map fun r => (dby r, uses r))[k]? = _
  rw [List.getElem?_map, h]
  rfl
theorem bk_len {G : List PB} {B : PB} : (toBk G B).ins.length = B.ins.length := by
  show (B.ins.map fun r => (dby r, uses r)).length = _
  rw [List.length_map]
theorem pg_inv {G : List PB} {b : Nat} {C : SF.Bk Str} (h : (toPg G)[b]? = some C) : ∃ B, G[b]? = some B ∧ C = toBk G B := by
  unfold toPg at h
  rw [List.getElem?_map] at h
  cases e : G[b]? with
  | none => rw [e] at h; cases h
  | some B => rw [e] at h; cases h; exact ⟨B, rfl, rfl⟩
def parms (G : List PB) (c : Nat) : List Str := (G[c]?.map (·.params)).getD []
def Sound (G : List PB) (I : List (List Str)) : Prop := ∀ c x, x ∈ at_ I c → LiveAt (toPg G) c 0 x ∧ x ∉ parms G c
theorem parms_at {G : List PB} {c : Nat} {B : PB} (h : G[c]? = some B) : parms G c = B.params := by
  unfold parms
  rw [h]
  rfl
theorem rows_sound {G : List PB} {I : List (List Str)} (S : Sound G I) {b : Nat} {B : PB} (hB : G[b]? = some B) : ∀ n k, n + k = B.ins.length → ∀ x, x ∈ rw_ G I b B k → LiveAt (toPg G) b k x := by
  intro n
  induction n with
  | zero =>
    intro k hk x hx
    rw [Nat.zero_add] at hk
    subst hk
    rw [rows_fin, mem_ahead] at hx
    rw [← bk_len (G := G) (B := B)]
    rcases hx with hx | ⟨h1, h2⟩
    · exact .fin (pg_at hB) hx
    · rw [mem_bhK] at h2
      obtain ⟨c, h3, h4⟩ := h2
      obtain ⟨B', hB', l, hl, rfl⟩ := mem_edges.mp h3
      rw [hB] at hB'
      cases hB'
      obtain ⟨q1, q2⟩ := S _ x h4
      obtain ⟨C, hC, _⟩ := SF.live_lt q1
      refine .edge (pg_at hB) (List.mem_map.mpr ⟨l, hl, rfl⟩) hC ?_ q1
      obtain ⟨C', hC', rfl⟩ := pg_inv hC
      rw [parms_at hC'] at q2
      exact q2
  | succ n ih =>
    intro k hk x hx
    obtain ⟨r, hr⟩ : ∃ r, B.ins[k]? = some r := ⟨_, List.getElem?_eq_getElem (by omega)⟩
    rw [rows_ins hr, mem_ahead] at hx
    rcases hx with hx | ⟨h1, h2⟩
    · exact .use (pg_at hB) (bk_ins hr) hx
    · exact .step (pg_at hB) (bk_ins hr) h1 (ih (k + 1) (by omega) x h2)
/-- where it stands still it holds all the living -/
theorem rows_full {G : List PB} (SG : Small G) {I : List (List Str)} (F : ∀ b B, G[b]? = some B → ∀ x, x ∈ intoK G I b B → x ∈ at_ I b) {b k : Nat} {x : Str} (h : LiveAt (toPg G) b k x) : ∀ B, G[b]? = some B → x ∈ rw_ G I b B k := by
  induction h with
  | @use b k x C d us hC hk hx =>
    intro B hB
    obtain ⟨B', hB', rfl⟩ := pg_inv hC
    rw [hB] at hB'
    cases hB'
    obtain ⟨r, hr⟩ : ∃ r, B.ins[k]? = some r := ⟨_, List.getElem?_eq_getElem (by have := (List.getElem?_eq_some_iff.mp hk).1; rwa [bk_len] at this)⟩
    rw [bk_ins hr] at hk
    cases hk
    rw [rows_ins hr, mem_ahead]
    exact .inl hx
  | @fin b x C hC hx =>
    intro B hB
    obtain ⟨B', hB', rfl⟩ := pg_inv hC
    rw [hB] at hB'
    cases hB'
    rw [bk_len, rows_fin, mem_ahead]
    exact .inl hx
  | @step b k x C d us hC hk hd _ ih =>
    intro B hB
    obtain ⟨B', hB', rfl⟩ := pg_inv hC
    rw [hB] at hB'
    cases hB'
    obtain ⟨r, hr⟩ : ∃ r, B.ins[k]? = some r := ⟨_, List.getElem?_eq_getElem (by have := (List.getElem?_eq_some_iff.mp hk).1; rwa [bk_len] at this)⟩
    rw [bk_ins hr] at hk
    cases hk
    rw [rows_ins hr, mem_ahead]
    exact .inr ⟨hd, ih B hB⟩
  | @edge b c x C1 C hC1 hc hC hx _ ih =>
    intro B hB
    obtain ⟨B', hB', rfl⟩ := pg_inv hC1
    rw [hB] at hB'
    cases hB'
    obtain ⟨B2, hB2, rfl⟩ := pg_inv hC
    obtain ⟨l, hl, rfl⟩ := List.mem_map.mp hc
    rw [bk_len, rows_fin, mem_ahead]
    refine .inr ⟨by rw [SG.fd B (List.mem_of_getElem? hB)]; exact nofun, ?_⟩
    rw [mem_bhK]
    exact ⟨_, mem_edges.mpr ⟨B, hB, l, hl, rfl⟩, F _ B2 hB2 x (mem_into.mpr ⟨ih B2 hB2, hx⟩)⟩
end Sh
end

section
set_option Elab.async false
set_option linter.all false
set_option maxRecDepth 100000
set_option maxHeartbeats 4000000
/-! Walks: the class Living: behind, told. -/
namespace Sh
open PySem PySem.Spec PyProof.Rows L2 Evl
def lf (v : V) (ord lI lR : Addr) : List (Str × V) := [("program", v), ("order", .ref ord), ("into", .ref lI), ("rows", .ref lR)]
theorem lf1 (v : V) (ord lI lR : Addr) : (lf v ord lI lR).lookup ("program" : Str) = some v := by rfl
theorem lf2 (v : V) (ord lI lR : Addr) : (lf v ord lI lR).lookup ("order" : Str) = some (.ref ord) := by rfl
theorem lf3 (v : V) (ord lI lR : Addr) : (lf v ord lI lR).lookup ("into" : Str) = some (.ref lI) := by rfl
theorem lf4 (v : V) (ord lI lR : Addr) : (lf v ord lI lR).lookup ("rows" : Str) = some (.ref lR) := by rfl
/-- the class, as it stands -/
structure TxL (K : PySem.W.Frag) (C : Addr) : Prop where
  cl : Cls K C
  n1 : NoAttr K C "program"
  n2 : NoAttr K C "order"
  n3 : NoAttr K C "into"
  n4 : NoAttr K C "rows"
/-- a list of dicts, no list of the object's own -/
def RwAt (lI lR : Addr) (H : Hp) (v : V) (kss : List (List Str)) : Prop := ∃ l, v = .ref l ∧ l ≠ lI ∧ l ≠ lR ∧ ∃ ws, H l = some (.lst ws) ∧ Paired (DAt H) ws kss
structure Liv (C x dx ord lI lR : Addr) (v : V) (G : List PB) (H : Hp) (I : List (List Str)) (Rw : List (List (List Str))) : Prop where
  ob : H x = some (.ins C dx (lf v ord lI lR))
  od : H ord = some (.tup ((defsP G).map V.str))
  ne : lI ≠ lR
  into : ∃ wI, H lI = some (.lst wI) ∧ Paired (DAt H) wI I
  rows : ∃ wR, H lR = some (.lst wR) ∧ Paired (RwAt lI lR H) wR Rw
theorem mono_rw {lI lR : Addr} : MonoE (RwAt lI lR) := fun _ _ _ _ e ⟨l, h1, h2, h3, ws, h4, h5⟩ => ⟨l, h1, h2, h3, ws, e _ _ h4, Paired.mapP h5 fun v b q => mono_dat _ _ _ _ e q⟩
theorem Liv.mono {C x dx ord lI lR : Addr} {v : V} {G : List PB} {H H' : Hp} {I : List (List Str)} {Rw : List (List (List Str))} (L : Liv C x dx ord lI lR v G H I Rw) (e : Ex H H') : Liv C x dx ord lI lR v G H' I Rw := by
  obtain ⟨wI, h1, h2⟩ := L.into
  obtain ⟨wR, h3, h4⟩ := L.rows
  exact ⟨e _ _ L.ob, e _ _ L.od, L.ne, ⟨wI, e _ _ h1, Paired.mapP h2 fun v b q => mono_dat _ _ _ _ e q⟩, ⟨wR, e _ _ h3, Paired.mapP h4 fun v b q => mono_rw _ _ _ _ e q⟩⟩
section
variable {P : Program} {w : World} {K : PySem.W.Frag} {mg : Str → Option Value} {base : Heap} {f C : Addr} {fd : FuncData} {σ : L2.St} {H : Hp} {g : TG} {tu tz : TS} {D : Ends} {ta tb te tl td : TE} {tr : TA} {β : Type} {R : Hp → V → β → Prop} {bs : List β}
theorem ev_fld {x dx : Addr} {fs : List (Str × V)} {f : Str} {v : V} (h : Ev ta σ H (.ref x)) (ho : H x = some (.ins C dx fs)) (c : Cls K C) (n : NoAttr K C f) (hf : fs.lookup f = some v) : Ev (tFld K ta f) σ H v := fun H1 e Q q =>
  h H1 e _ fun H2 e2 => ⟨x, C, dx, fs, v, rfl, (e.trans e2) _ _ ho, c, n, hf, q H2 e2⟩
theorem s_asgT {v : V} (h : Ev te σ H v) (k : ∀ H1, Ex H H1 → g v σ H1 D.nx) : tAsg te g D σ H := h H (Ex.refl H) _ k
theorem q_asgT {v : V} (h : Ev te σ H v) (k : ∀ H1, Ex H H1 → g v σ H1 (tz D)) : tSeq (tAsg te g) tz D σ H := h H (Ex.refl H) _ k
theorem s_forUP (h : EvUP R tl σ H bs) (k : ∀ p ws H1, H p = none → Ex H H1 → H1 p = some (.tup ws) → Paired (R H1) ws bs → ∃ Pv : Nat → L2.St → Hp → Prop, Pv 0 σ H1 ∧ (∀ i σ' H', Pv i σ' H' → H' p = some (.tup ws)) ∧
    (∀ i x σ' H', ws[i]? = some x → Pv i σ' H' → g x σ' H' fun σ2 H2 => tu { D with nx := Pv (i + 1), ct := Pv (i + 1), bk := D.nx } σ2 H2) ∧ ∀ σ' H', Pv ws.length σ' H' → D.nx σ' H') : tFor (iTup K tl) g tu D σ H :=
  h H (Ex.refl H) _ fun p H1 ws hp e hw pd => by
    obtain ⟨Pv, h0, hG, hs, hd⟩ := k p ws H1 hp e hw pd
    exact ⟨p, rfl, ⟨ws, st_of hw⟩, for_tup Pv h0 (fun i σ' H' _ q => st_of (hG i σ' H' q)) hs hd⟩
theorem q_forUP (h : EvUP R tl σ H bs) (k : ∀ p ws H1, H p = none → Ex H H1 → H1 p = some (.tup ws) → Paired (R H1) ws bs → ∃ Pv : Nat → L2.St → Hp → Prop, Pv 0 σ H1 ∧ (∀ i σ' H', Pv i σ' H' → H' p = some (.tup ws)) ∧
    (∀ i x σ' H', ws[i]? = some x → Pv i σ' H' → g x σ' H' fun σ2 H2 => tu { D with nx := Pv (i + 1), ct := Pv (i + 1), bk := tz D } σ2 H2) ∧ ∀ σ' H', Pv ws.length σ' H' → tz D σ' H') : tSeq (tFor (iTup K tl) g tu) tz D σ H :=
  s_forUP (D := { D with nx := tz D }) h k
/-- d.update(e) -/
theorem s_dupd {d e' : Addr} {ks ls : List Str} (hd : H d = some (.dK (dkT ks))) (he : H e' = some (.dK (dkT ls))) (ne : d ≠ e') (ha : Ev ta σ H (.ref d)) (h : Ev te σ H (.ref e')) (hz : ks.length + ls.length ≤ 100000) (k : ∀ H1, Ex H H1 → D.nx σ (upd H1 d (.dK (dkT (insAll ks ls))))) :
    tDrop (tBM K "dict" rDUpd ta (tCons te tNil)) D σ H := ha H (Ex.refl H) _ fun H1 e1 => by
  have t1 : tyV K "dict" (.ref d) H1 := .inr (.inr (.inl ⟨rfl, .inl ⟨_, e1 _ _ hd⟩⟩))
  exact ⟨t1, h H1 e1 _ fun H2 e2 => ⟨d, e', dkT ks, dkT ls, rfl, rfl, ne, (e1.trans e2) _ _ hd, (e1.trans e2) _ _ he, sz_of (by simp only [List.length_map]; exact hz), by rw [merge_dkT]; exact k H2 (e1.trans e2)⟩⟩
def spBehind (C : Addr) : Sp := fun vs H Q _ => ∃ (x dx ord lI lR : Addr) (v : V) (G : List PB) (I : List (List Str)) (Rw : List (List (List Str))) (b : Nat), vs = [.ref x, intV b] ∧ Liv C x dx ord lI lR v G H I Rw ∧ ProgAt H v G ∧ Small G ∧ I.length = G.length ∧ (∀ ks ∈ I, ks.length ≤ 400) ∧
  ∀ p H', H p = none → Ex H H' → H' p = some (.dK (dkT (bhK (edgesP G) I b))) → Q (.ref p) H'
theorem bhK_len {I : List (List Str)} (hI : ∀ ks ∈ I, ks.length ≤ 400) (b : Nat) (es : List (Nat × Nat)) : (bhK es I b).length ≤ 400 * es.length := by
  induction es using snoc_ind with
  | h0 => simp [bhK]
  | hs es e ih =>
    rw [bhK_snoc, List.length_append, List.length_singleton]
    have h1 := insAll_len (at_ I e.2) (bhK es I b)
    have h2 : (at_ I e.2).length ≤ 400 := by
      unfold at_
      rw [List.getD_eq_getElem?_getD]
      cases h : I[e.2]? with
      | none => simp
      | some ks => exact hI ks (List.mem_of_getElem? h)
    split <;> omega
abbrev s_behind : Stmt := inCl (top 11) 1
abbrev n_behind : List Str := ["self", "number", "found", "source", "_", "target"]
theorem sc_behind : FnScope ["self", "number", "found", "source", "_", "target"] ["self", "number"] (defScope s_behind) := ⟨rfl, rfl, rfl, by decide +kernel, rfl, by decide +kernel, by decide +kernel⟩
theorem ok_behind (F : FnP K "behind" "Living.behind" s_behind f fd) (B : Blt mg) (TL : TxL K C) (C_edges : Cal P w K mg base "edges" 2 ["program"] spEdges) : FnOk P w K mg base CX0 3 f fd ["self", "number"] (spBehind C) := by
  refine F.ok sc_behind (fun vs H Q E h => ?_) (fun cdv A outer s H vs Q E hr h => ⟨_, PSs.nox ((pss_cons (ps_set (i := 2) sc_behind.nd rfl (Or.inl rfl) pe_dnewK) (pss_cons (ps_for PassesOwn.never rfl (pi_tup (pe_cal C_edges (hr.mono (by decide)) (by rfl) (pa_cons (pe_fld (pv 0) rfl) pa_nil))) (pg_tup (by rfl) (pgs_cons (pg_name (i := 3) sc_behind.nd rfl (Or.inl rfl)) (pgs_cons (pg_name (i := 4) sc_behind.nd rfl (Or.inl rfl)) (pgs_cons (pg_name (i := 5) sc_behind.nd rfl (Or.inl rfl)) (pgs_cons (pg_name (i := 4) sc_behind.nd rfl (Or.inl rfl)) pgs_nil))))) (pss_one (ps_if (pt_cmpR op_eq (pv 3) (pv 1) (nomark _)) (pss_one (ps_expr (pe_bm PySem.F.plainAttrs_dict PySem.F.slot_dict_update PySem.F.type_dict_update mt_dupd (pv 2) (pa_cons (pe_ix ix_list (pe_fld (pv 0) rfl) (pv 5) (fun _ _ => rfl)) pa_nil)))) pss_nil))) (pss_one (ps_ret (pv 2)))))), ?_⟩)
  · obtain ⟨x, dx, ord, lI, lR, v, G, I, Rw, b, rfl, _⟩ := h
    rfl
  · obtain ⟨x, dx, ord, lI, lR, v, G, I, Rw, b, rfl, L, hP, S, hIl, hI4, k⟩ := h
    have hG := S.len
    have hE : (edgesP G).length ≤ 2 * G.length := edgesTo_le G G.length
    refine q_asgD ed_new fun d H1 hd e1 h1 => ?_
    have L1 := L.mono e1
    refine q_forUP (R := EdgeAt) (bs := edgesP G) (ev_edges (ev_fld (ev_var rfl) L1.ob TL.cl TL.n1 (lf1 _ _ _ _)) (hP.mono (tx e1)) S) fun p ws H2 hp2 e2 hws hpd => ?_
    refine ⟨fun i σ' H' => (∃ o3 o4 o5, σ' = [some (.ref x), some (intV b), some (.ref d), o3, o4, o5]) ∧ Ex H H' ∧ H' p = some (.tup ws) ∧ Paired (EdgeAt H') ws (edgesP G) ∧ H' d = some (.dK (dkT (bhK ((edgesP G).take i) I b))), ⟨⟨none, none, none, rfl⟩, e1.trans e2, hws, hpd, e2 _ _ h1⟩, fun i σ' H' q => q.2.2.1, ?_, ?_⟩
    · rintro i y σ' H' hy ⟨⟨o3, o4, o5, rfl⟩, e3, h3, h4, h5⟩
      obtain ⟨⟨u, t⟩, hut, sd, va, a, rfl, ha⟩ := pd_get h4 hy
      refine g_tup4 ha ?_
      have npd : p ≠ d := ne_of h3 h5 (by intro z; cases z)
      have L3 := L.mono e3
      obtain ⟨wI, q1, q2⟩ := L3.into
      refine s_when (b := decide (u = b)) (et_is (et_T (ev_op (ev_var rfl) (ev_var rfl) (rv_eq rfl))) (decide_eq_decide.mpr ⟨fun z => by have := V.int.inj z; omega, fun z => by rw [z]; rfl⟩)) (fun hb H4 e4 => ?_) (fun hb H4 e4 => ?_)
      · have hb := of_decide_eq_true hb
        have htG : t < G.length := edges_lt S (u, t) (List.mem_of_getElem? hut)
        obtain ⟨ks, hks⟩ : ∃ ks, I[t]? = some ks := ⟨_, List.getElem?_eq_getElem (by omega)⟩
        obtain ⟨y, hy2, dt, rfl, hdt⟩ := pd_get' q2 hks
        have hd0 : H d = none := hd
        have hin : H lI = some (.lst (L.into.choose)) := L.into.choose_spec.1
        have ndt : d ≠ dt := by
          obtain ⟨wI0, p1, p2⟩ := L.into
          have := e3 _ _ p1
          rw [q1] at this
          cases this
          obtain ⟨y2, hy3, dt2, e9, hdt2⟩ := pd_get' p2 hks
          rw [hy2] at hy3
          cases hy3
          cases e9
          exact (ne_of_none hdt2 hd0).symm
        have hatt : at_ I t = ks := by unfold at_; rw [List.getD_eq_getElem?_getD, hks]; rfl
        have hk4 := hI4 ks (List.mem_of_getElem? hks)
        have hbl := bhK_len hI4 b ((edgesP G).take i)
        have htl : ((edgesP G).take i).length ≤ (edgesP G).length := by rw [List.length_take]; omega
        refine s_dupd (D := { nx := _, rt := _, bk := _, ct := _ }) (e4 _ _ h5) (e4 _ _ hdt) ndt (ev_var rfl) (ev_ixL (ev_fld (ev_var rfl) (e4 _ _ L3.ob) TL.cl TL.n3 (lf3 _ _ _ _)) (e4 _ _ q1) (ev_var rfl) (atI_nat (j := t) hy2)) (by omega) fun H5 e45' => ?_
        have e5 := e4.trans e45'
        have t5 : TX H5 (upd H5 d (.dK (dkT (insAll (bhK ((edgesP G).take i) I b) ks)))) := tx_of (e5 _ _ h5) fun _ z => by cases z
        refine ⟨⟨_, _, _, rfl⟩, ex_upd e3 hd0 e5, by rw [upd_ne npd]; exact e5 _ _ h3, Paired.mapP h4 fun v b q => mono_edge _ _ _ _ ((tx e5).trans t5) q, ?_⟩
        rw [upd_same, take_succ hut, bhK_snoc, if_pos hb, hatt]
      · have hb := of_decide_eq_false hb
        refine ⟨⟨_, _, _, rfl⟩, e3.trans e4, e4 _ _ h3, Paired.mapP h4 fun v b q => mono_edge.e _ _ _ _ e4 q, ?_⟩
        rw [e4 _ _ h5, take_succ hut, bhK_snoc, if_neg hb]
    · rintro σ' H' ⟨⟨o3, o4, o5, rfl⟩, e3, h3, h4, h5⟩
      rw [pd_len h4, List.take_length] at h5
      exact s_ret (ev_var rfl) fun H5 e5 => k d H5 hd (e3.trans e5) (e5 _ _ h5)
/-- told(known) -/
def spTold (C : Addr) : Sp := fun vs H Q _ => ∃ (x dx ord lI lR kd : Addr) (v : V) (G : List PB) (I : List (List Str)) (Rw : List (List (List Str))) (ks : List Str), vs = [.ref x, .ref kd] ∧ Liv C x dx ord lI lR v G H I Rw ∧ Small G ∧ H kd = some (.dK (dkT ks)) ∧
  ∀ p H', H p = none → Ex H H' → H' p = some (.tup (((defsP G).filter fun x => decide (x ∈ ks)).map V.str)) → Q (.ref p) H'
abbrev s_told : Stmt := inCl (top 11) 3
abbrev n_told : List Str := ["self", "known", "name"]
theorem sc_told : FnScope ["self", "known", "name"] ["self", "known"] (defScope s_told) := ⟨rfl, rfl, rfl, by decide +kernel, rfl, by decide +kernel, by decide +kernel⟩
theorem ok_told (F : FnP K "told" "Living.told" s_told f fd) (B : Blt mg) (TL : TxL K C) : FnOk P w K mg base CX0 1 f fd ["self", "known"] (spTold C) := by
  refine F.ok sc_told (fun vs H Q E h => ?_) (fun cdv A outer s H vs Q E hr h => ⟨_, PSs.nox ((pss_one (ps_ret (pe_callTy call_tuple_of (by rfl) B.tuple (by decide +kernel) (pa_cons (pe_lc (own := [("name", 2)]) (g := (gName 2)) rfl sc_told.nd (pi_tup (pe_fld (pv 0) rfl)) (blkOk_by (own := [("name", 2)]) (N := ["self", "known", "name"]) (sc := (defScope s_told)) (by decide +kernel)) (fun _ _ _ _ _ => (pg_name (i := 2) sc_told.nd rfl (Or.inl rfl))) (fun _ _ _ _ _ => pts_one (pt_cmp (pc_din (hu_of hr) (pv 2) (pv 1)))) (fun _ _ _ _ _ => (pv 2))) pa_nil))))), ?_⟩)
  · obtain ⟨x, dx, ord, lI, lR, kd, v, G, I, Rw, ks, rfl, _⟩ := h
    rfl
  · obtain ⟨x, dx, ord, lI, lR, kd, v, G, I, Rw, ks, rfl, L, S, hk, k⟩ := h
    have hdl := S.defs
    have hf : EvL (tLc (iTup K (tFld K (tVar 0) "order")) (gName 2) (tB (tDIn (tVar 2) (tVar 1))) (tVar 2) [2]) (start n_told [.ref x, .ref kd]) H (((defsP G).filter fun x => decide (x ∈ ks)).map V.str) := by
      refine el_filter (fun x => decide (x ∈ ks)) (ei_map (ei_tup (ev_fld (ev_var (i := 0) rfl) L.ob TL.cl TL.n2 (lf2 _ _ _ _)) L.od)) (by omega) (fun _ => rfl) (fun _ => rfl) fun j y H1 hy e1 => ?_
      exact et_B (ev_din (k := Sum.inr y) (ev_var rfl) (ev_var rfl) (e1 _ _ hk) (by rw [valV_dkT]; by_cases q : y ∈ ks <;> simp [q]))
    exact s_retU (eu_tupleN hf) fun p H1 hp e1 h1 => k p H1 hp e1 h1
end
end Sh
end

section
set_option Elab.async false
set_option linter.all false
set_option maxRecDepth 100000
set_option maxHeartbeats 4000000
/-! Walks: the class Living: renew. -/
namespace Sh
open PySem PySem.Spec PyProof.Rows L2 Evl
theorem pd_set {α β : Type} {F : α → β → Prop} {a : α} {b : β} (h : F a b) : ∀ {l : List α} {m : List β} (j : Nat), Paired F l m → Paired F (l.set j a) (m.set j b)
  | _, _, _, .nil => .nil
  | _, _, 0, .cons x t => .cons h t
  | _, _, j + 1, .cons x t => .cons x (pd_set h j t)
theorem pd_dropLast {α β : Type} {F : α → β → Prop} : ∀ {l : List α} {m : List β}, Paired F l m → Paired F l.dropLast m.dropLast
  | _, _, .nil => .nil
  | _, _, .cons x .nil => .nil
  | _, _, .cons x (.cons y t) => .cons x (pd_dropLast (.cons y t))
theorem dat_updL {H : Hp} {v : V} {ks : List Str} {l : Addr} {ws : List V} {o : HO} (h : DAt H v ks) (hl : H l = some (.lst ws)) : DAt (upd H l o) v ks := h.upd fun ks z => by rw [hl] at z; cases z
section
variable {C x dx ord lI lR : Addr} {v : V} {G : List PB} {H : Hp} {I : List (List Str)} {Rw : List (List (List Str))}
theorem Liv.setR (L : Liv C x dx ord lI lR v G H I Rw) {wR ws : List V} {p : Addr} {kss : List (List Str)} (hw : H lR = some (.lst wR)) (hp : H p = some (.lst ws)) (n1 : p ≠ lI) (n2 : p ≠ lR) (pd : Paired (DAt H) ws kss) (j : Nat) :
    Liv C x dx ord lI lR v G (upd H lR (.lst (wR.set j (.ref p)))) I (Rw.set j kss) := by
  obtain ⟨wI, h1, h2⟩ := L.into
  obtain ⟨wR', h3, h4⟩ := L.rows
  rw [hw] at h3
  cases h3
  refine ⟨by rw [upd_ne (ne_of L.ob hw (by intro z; cases z))]; exact L.ob, by rw [upd_ne (ne_of L.od hw (by intro z; cases z))]; exact L.od, L.ne, ⟨wI, by rw [upd_ne L.ne]; exact h1, Paired.mapP h2 fun v b q => dat_updL q hw⟩, ⟨_, upd_same, ?_⟩⟩
  refine pd_set ⟨p, rfl, n1, n2, ws, by rw [upd_ne n2]; exact hp, Paired.mapP pd fun v b q => dat_updL q hw⟩ j (Paired.mapP h4 fun v b q => ?_)
  obtain ⟨l, q1, q2, q3, ws, q4, q5⟩ := q
  exact ⟨l, q1, q2, q3, ws, by rw [upd_ne q3]; exact q4, Paired.mapP q5 fun v b q => dat_updL q hw⟩
theorem Liv.setI (L : Liv C x dx ord lI lR v G H I Rw) {wI : List V} {d : Addr} {ks : List Str} (hw : H lI = some (.lst wI)) (hd : H d = some (.dK (dkT ks))) (j : Nat) :
    Liv C x dx ord lI lR v G (upd H lI (.lst (wI.set j (.ref d)))) (I.set j ks) Rw := by
  obtain ⟨wI', h1, h2⟩ := L.into
  obtain ⟨wR, h3, h4⟩ := L.rows
  rw [hw] at h1
  cases h1
  have hda : DAt H (.ref d) ks := ⟨d, rfl, hd⟩
  refine ⟨by rw [upd_ne (ne_of L.ob hw (by intro z; cases z))]; exact L.ob, by rw [upd_ne (ne_of L.od hw (by intro z; cases z))]; exact L.od, L.ne, ⟨_, upd_same, pd_set (dat_updL hda hw) j (Paired.mapP h2 fun v b q => dat_updL q hw)⟩, ⟨wR, by rw [upd_ne L.ne.symm]; exact h3, Paired.mapP h4 fun v b q => ?_⟩⟩
  obtain ⟨l, q1, q2, q3, ws, q4, q5⟩ := q
  exact ⟨l, q1, q2, q3, ws, by rw [upd_ne q2]; exact q4, Paired.mapP q5 fun v b q => dat_updL q hw⟩
/-- the names in hand: told apart, of the program -/
structure IOk (G : List PB) (I : List (List Str)) : Prop where
  len : I.length = G.length
  nd : ∀ ks ∈ I, ks.Nodup
  sub : ∀ ks ∈ I, ∀ x ∈ ks, x ∈ defsP G
theorem IOk.le (i : IOk G I) (S : Small G) : ∀ ks ∈ I, ks.length ≤ 400 := fun ks h => Nat.le_trans (SF.nd_sub (i.nd ks h) (i.sub ks h)) S.defs
theorem at_mem {c : Nat} {x : Str} (h : x ∈ at_ I c) : at_ I c ∈ I := by
  unfold at_ at h ⊢
  rw [List.getD_eq_getElem?_getD] at h ⊢
  cases e : I[c]? with
  | none => rw [e] at h; cases h
  | some ks => exact List.mem_of_getElem? e
theorem IOk.bh (i : IOk G I) (S : Small G) (b : Nat) : (bhK (edgesP G) I b).length ≤ 400 := by
  refine Nat.le_trans (SF.nd_sub (bhK_nd _) fun x hx => ?_) S.defs
  rw [mem_bhK] at hx
  obtain ⟨c, _, h⟩ := hx
  exact i.sub _ (at_mem h) x h
end
section
variable {P : Program} {w : World} {K : PySem.W.Frag} {mg : Str → Option Value} {base : Heap} {f C : Addr} {fd : FuncData} {σ : L2.St} {H : Hp} {g : TG} {tu tz : TS} {D : Ends} {ta tb te tl td : TE} {tr : TA} {β : Type} {R : Hp → V → β → Prop} {bs : List β}
theorem q_setLP {l : Addr} {j : Nat} {xs : List V} (m : MonoE R) (h : EvLP R te σ H bs) (ho : Ev ta σ H (.ref l)) (hi : Ev tb σ H (intV j)) (hl : H l = some (.lst xs)) (hj : j < xs.length) (k : ∀ p ws H1, H p = none → Ex H H1 → H1 p = some (.lst ws) → Paired (R H1) ws bs → tz D σ (upd H1 l (.lst (xs.set j (.ref p))))) :
    tSeq (tAsg te (gSub ta tb rSetL)) tz D σ H := h H (Ex.refl H) _ fun p H1 ws hp e1 hw pd => ho H1 e1 _ fun H2 e2 => hi H2 (e1.trans e2) _ fun H3 e3 =>
  ⟨l, xs, (j : Int), j, rfl, rfl, ((e1.trans e2).trans e3) l _ hl, ixN_nat hj, k p ws H3 hp ((e1.trans e2).trans e3) (e3 _ _ (e2 _ _ hw)) (Paired.mapP pd fun v b q => m _ _ _ _ (e2.trans e3) q)⟩
theorem elp_butLast (h : EvLP R te σ H bs) (m : MonoE R) : EvLP R (tSl (rSlL K) te tNoPart (tPart (tUn (rU fun i => .int (-i)) (tC (.int 1))))) σ H bs.dropLast := fun H1 e Q q => h H1 e _ fun p H2 ws hp e2 hw pd =>
  ⟨1, rfl, -1, rfl, p, ws, rfl, sq_of hw, fun r hr => q r _ ws.dropLast (fresh_back e2 hr) (e2.trans (Ex.new hr)) (by
    rw [upd_same]
    congr 2
    unfold cutV
    have e1 : HT.sIx ws.length 0 none = 0 := rfl
    have e2 : HT.sIx ws.length ws.length (some (-1)) = ws.length - 1 := by
      show (if (-1 : Int) < 0 then (-1 + (ws.length : Int)).toNat else min (-1 : Int).toNat ws.length) = _
      rw [if_pos (by decide)]
      omega
    rw [e1, e2, List.drop_zero, Nat.sub_zero, List.dropLast_eq_take]) (Paired.mapP (pd_dropLast pd) fun v b q => m _ _ _ _ (Ex.new hr) q)⟩
theorem inV_eq (y : Str) (ys : List Str) : inV (.str y) (ys.map V.str) = decide (y ∈ ys) := by
  rw [← inV_strs y ys]
  rfl
theorem ed_behind {x dx ord lI lR : Addr} {v : V} {G : List PB} {I : List (List Str)} {Rw : List (List (List Str))} {b : Nat} (h : Ev ta σ H (.ref x)) (h2 : Ev tb σ H (intV b)) (L : Liv C x dx ord lI lR v G H I Rw) (hP : ProgAt H v G) (S : Small G) (i : IOk G I) :
    EvD (tMeth C "behind" (spBehind C) [] E0 ta (tCons tb tNil)) σ H (dkT (bhK (edgesP G) I b)) := fun H1 e Q q => h H1 e _ fun H2 e2 =>
  ⟨x, dx, lf v ord lI lR, rfl, (e.trans e2) _ _ L.ob, by rfl, h2 H2 (e.trans e2) _ fun H3 e3 => ⟨x, dx, ord, lI, lR, v, G, I, Rw, b, rfl, L.mono (e.trans (e2.trans e3)), hP.mono (tx (e.trans (e2.trans e3))), S, i.len, i.le S, fun p H4 hp e4 h4 => q p H4 (fresh_back (e2.trans e3) hp) ((e2.trans e3).trans e4) h4⟩⟩
theorem elp_before {xs : List V} {rs : List Row} {ks : List Str} (h : EvW ta σ H xs) (hp : Paired (RowAt H) xs rs) (h2 : EvD tb σ H (dkT ks)) (hl : rs.length ≤ 30) (hu : ∀ r ∈ rs, (uses r).length ≤ 50) (hk : ks.length ≤ 1000) : EvLP DAt (tCall spBefore [] E0 (tCons ta (tCons tb tNil))) σ H (befK rs ks) := fun H1 e Q q =>
  h H1 e _ fun a H2 e2 ha => h2 H2 (e.trans e2) _ fun d H3 hd e3 h3 => ⟨a, d, xs, rs, ks, rfl, e3 _ _ ha, Paired.mapP hp fun v b q => mono_row _ _ _ _ (tx (e.trans (e2.trans e3))) q, h3, hl, hu, hk, fun p H4 ws hp4 e4 h4 h5 => q p H4 ws (fresh_back (e2.trans e3) hp4) ((e2.trans e3).trans e4) h4 h5⟩
/-- was it another set: the answer of renew -/
def chg (new old : List Str) : Bool := !(new.length == old.length && new.all fun x => decide (x ∈ old))
def spRenew (C : Addr) : Sp := fun vs H Q _ => ∃ (x dx ord lI lR : Addr) (v : V) (G : List PB) (I : List (List Str)) (Rw : List (List (List Str))) (b : Nat) (B : PB), vs = [.ref x, intV b] ∧ Liv C x dx ord lI lR v G H I Rw ∧ ProgAt H v G ∧ Small G ∧ IOk G I ∧ Rw.length = G.length ∧ G[b]? = some B ∧
  ∀ H', (∀ a o, a ≠ lI → a ≠ lR → H a = some o → H' a = some o) → Liv C x dx ord lI lR v G H' (I.set b (intoK G I b B)) (Rw.set b (rowsK G I b B)) → Q (.bl (chg (intoK G I b B) (at_ I b))) H'
abbrev s_renew : Stmt := inCl (top 11) 2
abbrev n_renew : List Str := ["self", "number", "_", "parameters", "instructions", "end", "into", "changed", "name"]
theorem sc_renew : FnScope ["self", "number", "_", "parameters", "instructions", "end", "into", "changed", "name"] ["self", "number"] (defScope s_renew) := ⟨rfl, rfl, rfl, by decide +kernel, rfl, by decide +kernel, by decide +kernel⟩
theorem ok_renew {fb : Addr} {fdb : FuncData} (F : FnP K "renew" "Living.renew" s_renew f fd) (B : Blt mg) (TL : TxL K C) (C_before_rows : Cal P w K mg base "before_rows" 2 ["rows", "live"] spBefore) (M_behind : Meth K C "behind" fb) (G_behind : FnOk P w K mg base CX0 3 fb fdb ["self", "number"] (spBehind C)) (B_behind : Binds K fdb ["self", "number"] []) :
    FnOk P w K mg base CX0 4 f fd ["self", "number"] (spRenew C) := by
  refine F.ok sc_renew (fun vs H Q E h => ?_) (fun cdv A outer s H vs Q E hr h => ⟨_, PSs.nox ((pss_cons (ps_asg (pe_ix ix_tup (pe_fld (pv 0) rfl) (pv 1) (fun _ _ => rfl)) (pg_tup (by rfl) (pgs_cons (pg_name (i := 2) sc_renew.nd rfl (Or.inl rfl)) (pgs_cons (pg_name (i := 3) sc_renew.nd rfl (Or.inr rfl)) (pgs_cons (pg_name (i := 4) sc_renew.nd rfl (Or.inl rfl)) (pgs_cons (pg_name (i := 5) sc_renew.nd rfl (Or.inl rfl)) pgs_nil)))))) (pss_cons (ps_asg (pe_slice sl_list (pe_cal C_before_rows (hr.mono (by decide)) (by rfl) (pa_cons (pe_op op_catA (pv 4) (pe_tup (pa_cons (pv 5) pa_nil))) (pa_cons (pe_meth (pv 0) TL.cl M_behind G_behind (hr.mono (by decide)) B_behind .nil pass0 (pa_cons (pv 1) pa_nil)) pa_nil))) po_none (po_some (pe_un un_neg pe_int))) (pg_sub (pe_fld (pv 0) rfl) (pv 1) set_list)) (pss_cons (ps_lock (ps_setDc (i := 6) (own := [("name", 8)]) (g := (gName 8)) rfl sc_renew.nd rfl rfl (swd_true rfl rfl rfl (by decide +kernel)) (pi_keys (pe_ix ix_list (pe_ix ix_list (pe_fld (pv 0) rfl) (pv 1) (fun _ _ => rfl)) pe_int (fun _ _ => rfl))) (blkOk_by (own := [("name", 8)]) (N := ["self", "number", "_", "parameters", "instructions", "end", "into", "changed", "name"]) (sc := (defScope s_renew)) (by decide +kernel)) (fun _ _ _ _ _ => (pg_name (i := 8) sc_renew.nd rfl (Or.inl rfl))) (fun _ _ _ _ _ => pts_one (pt_cmpR (op_notInK (K := K) rfl) (pv 8) (pv 3) (by rfl))) (fun _ _ _ _ _ => (pv 8)) (fun _ _ _ _ _ => pe_bl))) (pss_cons (ps_set (i := 7) sc_renew.nd rfl (Or.inl rfl) (pe_cmpR (op_neT (Nat.lt_of_succ_lt (hu_of hr))) (pv 6) (pe_ix ix_list (pe_fld (pv 0) rfl) (pv 1) (fun _ _ => rfl)) (nomark _))) (pss_cons (ps_asg (pv 6) (pg_sub (pe_fld (pv 0) rfl) (pv 1) set_list)) (pss_one (ps_ret (pv 7))))))))), ?_⟩)
  · obtain ⟨x, dx, ord, lI, lR, v, G, I, Rw, b, B, rfl, _⟩ := h
    rfl
  · obtain ⟨x, dx, ord, lI, lR, v, G, I, Rw, b, B, rfl, L, hP, S, iok, hRl, hB, k⟩ := h
    have hBm := List.mem_of_getElem? hB
    have hbG := (List.getElem?_eq_some_iff.mp hB).1
    obtain ⟨xs, ⟨a, rfl, ha⟩, hp⟩ := id hP
    obtain ⟨y, hy, hbk⟩ := pd_get' hp hB
    obtain ⟨vp, vi, vf, ⟨ab, rfl, hab⟩, ⟨ap, rfl, hap⟩, ⟨is, ⟨ai, rfl, hai⟩, hpi⟩, hfa⟩ := hbk
    refine q_asgT (ev_ixT (ev_fld (ev_var rfl) L.ob TL.cl TL.n1 (lf1 _ _ _ _)) ha (ev_var rfl) (atI_nat (j := b) hy)) fun H1 e1 => ?_
    refine g_tup4 (e1 _ _ hab) ?_
    have L1 := L.mono e1
    have hins := S.ins B hBm
    have hus := S.us B hBm
    obtain ⟨wR, hwR, hpR⟩ := L1.rows
    have hpr : Paired (RowAt H1) (is ++ [vf]) (B.ins ++ [B.fin]) := pd_snoc (Paired.mapP hpi fun v r q => mono_row _ _ _ _ (tx e1) q) (hfa.mono (tx e1))
    have hwl := pd_len hpR
    have hil := pd_len hpi
    refine q_setLP (j := b) mono_dat (elp_butLast (elp_before (ew_cat (K := K) (ew_old (ev_var rfl) (e1 _ _ hai)) (ew_new (eu_tup (ea1 (ev_var rfl)) (by show 1 ≤ 100000; decide))) (by rw [List.length_singleton]; omega)) hpr (ed_behind (ev_var rfl) (ev_var rfl) L1 (hP.mono (tx e1)) S iok)
      (by rw [List.length_append, List.length_singleton]; omega) (fun r hr => hus r (by rcases List.mem_append.mp hr with q | q; exact List.mem_cons_of_mem _ q; rw [List.mem_singleton.mp q]; exact List.mem_cons_self ..)) (by have := iok.bh S b; omega)) mono_dat) (ev_fld (ev_var rfl) L1.ob TL.cl TL.n4 (lf4 _ _ _ _)) (ev_var rfl) hwR (by omega) fun p ws H2 hp2 e2 hws hpd => ?_
    have L2 := L1.mono e2
    obtain ⟨wI, hwI, hpI⟩ := L1.into
    have npI : p ≠ lI := (ne_of_none hwI hp2).symm
    have npR : p ≠ lR := (ne_of_none hwR hp2).symm
    have L3 := L2.setR (e2 _ _ hwR) hws npI npR hpd b
    generalize hH3 : upd H2 lR (.lst (wR.set b (.ref p))) = H3 at L3
    have e03 : ∀ z o, z ≠ lI → z ≠ lR → H z = some o → H3 z = some o := fun z o _ h2 h => by rw [← hH3, upd_ne h2]; exact e2 _ _ (e1 _ _ h)
    have hR3 : H3 lR = some (.lst (wR.set b (.ref p))) := by rw [← hH3]; exact upd_same
    have hp3 : H3 p = some (.lst ws) := by rw [← hH3, upd_ne npR]; exact hws
    have hap3 : H3 ap = some (.tup (B.params.map V.str)) := by
      rw [← hH3, upd_ne (ne_of (e2 _ _ (e1 _ _ hap)) (e2 _ _ hwR) (by intro z; cases z))]
      exact e2 _ _ (e1 _ _ hap)
    -- the first of the rows
    have hk0 : ∃ d0 ws', ws = .ref d0 :: ws' ∧ H3 d0 = some (.dK (dkT (rw_ G I b B 0))) := by
      have hl := rowsK_len G I b B
      have hpd' : Paired (DAt H2) ws (rowsK G I b B) := hpd
      obtain ⟨y0, hy0⟩ : ∃ y0, (rowsK G I b B)[0]? = some y0 := ⟨_, List.getElem?_eq_getElem (by omega)⟩
      obtain ⟨w0, hw0, d0, rfl, hd0⟩ := pd_get' hpd' hy0
      have e9 : rw_ G I b B 0 = y0 := by unfold rw_ at_; rw [List.getD_eq_getElem?_getD, hy0]; rfl
      obtain ⟨ws', rfl⟩ : ∃ ws', ws = .ref d0 :: ws' := by
        cases ws with
        | nil => simp at hw0
        | cons q r => simp at hw0; exact ⟨r, by rw [hw0]⟩
      refine ⟨d0, ws', rfl, ?_⟩
      rw [e9, ← hH3, upd_ne (ne_of hd0 (e2 _ _ hwR) (by intro z; cases z))]
      exact hd0
    obtain ⟨d0, ws', rfl, hd0⟩ := hk0
    have hrl : (rw_ G I b B 0).length ≤ 3000 := by
      have h1 := befK_hd (ks := bhK (edgesP G) I b) (rs := B.ins ++ [B.fin]) (fun r hr => hus r (by rcases List.mem_append.mp hr with q | q; exact List.mem_cons_of_mem _ q; rw [List.mem_singleton.mp q]; exact List.mem_cons_self ..))
      have h2 := iok.bh S b
      have h3 : rw_ G I b B 0 = (befK (B.ins ++ [B.fin]) (bhK (edgesP G) I b)).headD [] := by
        unfold rw_ at_ rowsK
        rw [List.getD_eq_getElem?_getD, get_dropLast (by rw [befK_len, List.length_append]; simp), befK_cons]
        rfl
      rw [h3]
      rw [List.length_append, List.length_singleton] at h1
      omega
    have ndI : d0 ≠ lI := ne_of hd0 (L3.into.choose_spec.1) (by intro z; cases z)
    refine q_lockD (d := d0) (u := .dK (dkT (rw_ G I b B 0))) (kvs := dkT (intoK G I b B)) hd0 trivial (fun od => ?_) fun di H4 hdi e4 h4 => ?_
    · have hx' : upd H3 d0 (.frz od (.dK (dkT (rw_ G I b B 0)))) x = some (.ins C dx (lf (.ref a) ord lI lR)) := by rw [upd_ne (ne_of L3.ob hd0 (by intro z; cases z))]; exact L3.ob
      have hR' : upd H3 d0 (.frz od (.dK (dkT (rw_ G I b B 0)))) lR = some (.lst (wR.set b (.ref p))) := by rw [upd_ne (ne_of hR3 hd0 (by intro z; cases z))]; exact hR3
      have hp' : upd H3 d0 (.frz od (.dK (dkT (rw_ G I b B 0)))) p = some (.lst (.ref d0 :: ws')) := by rw [upd_ne (ne_of hp3 hd0 (by intro z; cases z))]; exact hp3
      have ha' : upd H3 d0 (.frz od (.dK (dkT (rw_ G I b B 0)))) ap = some (.tup (B.params.map V.str)) := by rw [upd_ne (ne_of hap3 hd0 (by intro z; cases z))]; exact hap3
      refine ed_true (fun y => !decide (y ∈ B.params)) (ei_keys (ev_ixL (ev_ixL (ev_fld (ev_var rfl) hx' TL.cl TL.n4 (lf4 _ _ _ _)) hR' (ev_var rfl) (atI_nat (j := b) (by rw [List.getElem?_set_self (by omega)]))) hp' ev_c at0) upd_same) (by omega) (fun _ => rfl) (fun _ => rfl) fun j y H6 hy e6 => ?_
      refine et_is (et_T (ev_op (ev_var rfl) (ev_var rfl) (rv_niT (st_of (e6 _ _ ha')) rfl (flat_strs _)))) ?_
      rw [inV_eq]
    have L4 := L3.mono e4
    obtain ⟨wI4, hI4, hpI4⟩ := L4.into
    have hIl : wI4.length = G.length := by rw [pd_len hpI4]; exact iok.len
    obtain ⟨wo, hwo, dold, rfl, hdold⟩ := pd_get' hpI4 (i := b) (y := at_ I b) (by unfold at_; rw [List.getD_eq_getElem?_getD, List.getElem?_eq_getElem (by rw [iok.len]; exact hbG)]; rfl)
    refine q_raw ?_
    refine ev_var (i := 6) rfl H4 (Ex.refl _) _ fun H5 e5 => ?_
    refine ev_ixL (ev_fld (ev_var (i := 0) rfl) (e5 _ _ L4.ob) TL.cl TL.n3 (lf3 _ _ _ _)) (e5 _ _ hI4) (ev_var (i := 1) rfl) (atI_nat (j := b) hwo) H5 (Ex.refl _) _ fun H6 e6 => ?_
    have e56 := e5.trans e6
    refine ⟨di, dold, intoK G I b B, at_ I b, rfl, rfl, e56 _ _ h4, e56 _ _ hdold, ?_⟩
    have L6 := L4.mono e56
    refine q_setL (j := b) (v := .ref di) (e56 _ _ hI4) (ev_var rfl) (ev_fld (ev_var rfl) L6.ob TL.cl TL.n3 (lf3 _ _ _ _)) (ev_var rfl) (by omega) fun H7 e7 => ?_
    have L7 := (L6.mono e7).setI (e7 _ _ (e56 _ _ hI4)) (e7 _ _ (e56 _ _ h4)) b
    refine s_ret (ev_var rfl) fun H8 e8 => k H8 (fun z o h1 h2 hz => e8 _ _ (by rw [upd_ne h1]; exact e7 _ _ (e56 _ _ (e4 _ _ (e03 z o h1 h2 hz))))) (L7.mono e8)
end
end Sh
end

section
set_option Elab.async false
set_option linter.all false
set_option maxRecDepth 100000
set_option maxHeartbeats 4000000
/-! The living's loop: it is kept, it grows, it ends. No machine here. -/
namespace Sh
open SF (LiveAt sucOf DefPt WF)
open PySem (Str)
def sumLen (I : List (List Str)) : Nat := (I.map (·.length)).sum
theorem sum_set : ∀ (I : List (List Str)) (j : Nat) (a : List Str), j < I.length → sumLen (I.set j a) + (at_ I j).length = sumLen I + a.length
  | [], j, a, h => by simp at h
  | k :: I, 0, a, _ => by simp [sumLen, at_]; omega
  | k :: I, j + 1, a, h => by
    have ih := sum_set I j a (by simpa using h)
    have e1 : sumLen ((k :: I).set (j + 1) a) = k.length + sumLen (I.set j a) := by simp [sumLen]
    have e2 : sumLen (k :: I) = k.length + sumLen I := by simp [sumLen]
    have e3 : at_ (k :: I) (j + 1) = at_ I j := by simp [at_]
    rw [e1, e2, e3]
    omega
theorem sum_le {I : List (List Str)} (h : ∀ ks ∈ I, ks.length ≤ 400) : sumLen I ≤ 400 * I.length := by
  induction I with
  | nil => simp [sumLen]
  | cons k I ih =>
    have h1 := ih fun ks hk => h ks (List.mem_cons_of_mem _ hk)
    have h2 := h k (List.mem_cons_self ..)
    have e2 : sumLen (k :: I) = k.length + sumLen I := by simp [sumLen]
    rw [e2, List.length_cons]
    omega
theorem at_set {I : List (List Str)} {b : Nat} {a : List Str} (h : b < I.length) (c : Nat) : at_ (I.set b a) c = if c = b then a else at_ I c := by
  unfold at_
  rw [List.getD_eq_getElem?_getD, List.getD_eq_getElem?_getD]
  by_cases e : c = b
  · subst e
    rw [if_pos rfl, List.getElem?_set_self h]
    rfl
  · rw [if_neg e, List.getElem?_set_ne (fun z => e z.symm)]
structure LoopI (G : List PB) (I : List (List Str)) (Rw : List (List (List Str))) : Prop where
  iok : IOk G I
  sound : Sound G I
  infl : ∀ b B, G[b]? = some B → ∀ x, x ∈ at_ I b → x ∈ intoK G I b B
  rl : Rw.length = G.length
theorem live_defs {G : List PB} (W : WF (toPg G)) {b k : Nat} {x : Str} (h : LiveAt (toPg G) b k x) : x ∈ defsP G := by
  rw [defsP_eq, SF.mem_defs]
  obtain ⟨e, j, hD, _⟩ := SF.live_avail W h
  exact ⟨e, j, hD⟩
section
variable {G : List PB} {I : List (List Str)} {Rw : List (List (List Str))} {b : Nat} {B : PB}
theorem into_sound (S : Sound G I) (hB : G[b]? = some B) {x : Str} (h : x ∈ intoK G I b B) : LiveAt (toPg G) b 0 x ∧ x ∉ parms G b := by
  rw [mem_into] at h
  rw [parms_at hB]
  exact ⟨rows_sound S hB B.ins.length 0 rfl x h.1, h.2⟩
theorem up (L : LoopI G I Rw) (hB : G[b]? = some B) (c : Nat) (x : Str) (h : x ∈ at_ I c) : x ∈ at_ (I.set b (intoK G I b B)) c := by
  have hb := (List.getElem?_eq_some_iff.mp hB).1
  rw [at_set (by rw [L.iok.len]; exact hb)]
  by_cases e : c = b
  · subst e
    rw [if_pos rfl]
    exact L.infl c B hB x h
  · rw [if_neg e]; exact h
theorem renew_ok (W : WF (toPg G)) (L : LoopI G I Rw) (hB : G[b]? = some B) : LoopI G (I.set b (intoK G I b B)) (Rw.set b (rowsK G I b B)) where
  iok := by
    have hb := (List.getElem?_eq_some_iff.mp hB).1
    refine ⟨by rw [List.length_set]; exact L.iok.len, fun ks h => ?_, fun ks h x hx => ?_⟩
    · rcases List.mem_or_eq_of_mem_set h with h | h
      · exact L.iok.nd ks h
      · rw [h]; exact into_nd
    · rcases List.mem_or_eq_of_mem_set h with h | h
      · exact L.iok.sub ks h x hx
      · rw [h] at hx
        exact live_defs W (into_sound L.sound hB hx).1
  sound := by
    have hb := (List.getElem?_eq_some_iff.mp hB).1
    intro c x h
    rw [at_set (by rw [L.iok.len]; exact hb)] at h
    by_cases e : c = b
    · subst e
      rw [if_pos rfl] at h
      exact into_sound L.sound hB h
    · rw [if_neg e] at h
      exact L.sound c x h
  infl := by
    have hb := (List.getElem?_eq_some_iff.mp hB).1
    intro c C hC x h
    rw [at_set (by rw [L.iok.len]; exact hb)] at h
    by_cases e : c = b
    · subst e
      rw [if_pos rfl] at h
      rw [hB] at hC
      cases hC
      exact into_mono (up L hB) h
    · rw [if_neg e] at h
      exact into_mono (up L hB) (L.infl c C hC x h)
  rl := by rw [List.length_set]; exact L.rl
theorem renew_sum (L : LoopI G I Rw) (hB : G[b]? = some B) : sumLen I ≤ sumLen (I.set b (intoK G I b B)) ∧ (chg (intoK G I b B) (at_ I b) = true → sumLen I < sumLen (I.set b (intoK G I b B))) ∧
    (chg (intoK G I b B) (at_ I b) = false → ∀ c x, x ∈ at_ (I.set b (intoK G I b B)) c ↔ x ∈ at_ I c) := by
  have hb := (List.getElem?_eq_some_iff.mp hB).1
  have hbI : b < I.length := by rw [L.iok.len]; exact hb
  have hs := sum_set I b (intoK G I b B) hbI
  have hsub : ∀ x ∈ at_ I b, x ∈ intoK G I b B := fun x hx => L.infl b B hB x hx
  have hnd : (at_ I b).Nodup := by
    unfold at_
    rw [List.getD_eq_getElem?_getD, List.getElem?_eq_getElem hbI]
    exact L.iok.nd _ (List.getElem_mem hbI)
  have hle := SF.nd_sub hnd hsub
  refine ⟨by omega, fun h => ?_, fun h c x => ?_⟩
  · refine Classical.byContradiction fun z => ?_
    have he : (intoK G I b B).length = (at_ I b).length := by omega
    have hback : ∀ x ∈ intoK G I b B, x ∈ at_ I b := fun x hx => Classical.byContradiction fun n => by
      have h2 := SF.nd_sub (l := x :: at_ I b) (m := intoK G I b B) (List.nodup_cons.mpr ⟨n, hnd⟩) fun y hy => (List.mem_cons.mp hy).elim (fun e => e ▸ hx) (hsub y)
      rw [List.length_cons] at h2
      omega
    unfold chg at h
    have h1 : ((intoK G I b B).all fun x => decide (x ∈ at_ I b)) = true := List.all_eq_true.mpr fun x hx => decide_eq_true (hback x hx)
    rw [h1, he, beq_self_eq_true] at h
    cases h
  · rw [at_set hbI]
    by_cases e : c = b
    · subst e
      rw [if_pos rfl]
      unfold chg at h
      have h2 : ((intoK G I c B).length == (at_ I c).length && (intoK G I c B).all fun x => decide (x ∈ at_ I c)) = true := by simpa using h
      rw [Bool.and_eq_true] at h2
      exact ⟨fun hx => of_decide_eq_true (List.all_eq_true.mp h2.2 x hx), hsub x⟩
    · rw [if_neg e]
theorem befK_nd {ks : List Str} (h : ks.Nodup) : ∀ (rs : List Row) (l : List Str), l ∈ befK rs ks → l.Nodup
  | [], l, hl => by
    rw [List.mem_singleton.mp hl]
    exact h
  | r :: rs, l, hl => by
    rcases List.mem_cons.mp hl with e | e
    · rw [e]
      exact aheadK_nd _ _
    · exact befK_nd h rs l e
theorem rowsK_nd : ∀ l ∈ rowsK G I b B, l.Nodup := fun l hl => befK_nd (bhK_nd _) _ l (List.dropLast_subset _ hl)
/-- block b stands still, its rows are those of I -/
def Still (G : List PB) (I : List (List Str)) (Rw : List (List (List Str))) (b : Nat) (B : PB) : Prop := (∀ x, x ∈ intoK G I b B → x ∈ at_ I b) ∧ ∃ kss, Rw[b]? = some kss ∧ kss.length = B.ins.length + 1 ∧ (∀ l ∈ kss, l.Nodup) ∧ ∀ k, k ≤ B.ins.length → ∀ x, x ∈ at_ kss k ↔ x ∈ rw_ G I b B k
theorem rows_same {J : List (List Str)} (h : ∀ c x, x ∈ at_ J c ↔ x ∈ at_ I c) {k : Nat} (hk : k ≤ B.ins.length) {x : Str} : x ∈ rw_ G J b B k ↔ x ∈ rw_ G I b B k :=
  ⟨rows_mono (fun c x => (h c x).mp) (B.ins.length - k) k (by omega) x, rows_mono (fun c x => (h c x).mpr) (B.ins.length - k) k (by omega) x⟩
theorem still_step (L : LoopI G I Rw) {i : Nat} {B0 : PB} (hB : G[i]? = some B0) (hc : chg (intoK G I i B0) (at_ I i) = false) (h : ∀ b, b < i → ∀ B, G[b]? = some B → Still G I Rw b B) :
    ∀ b, b < i + 1 → ∀ B, G[b]? = some B → Still G (I.set i (intoK G I i B0)) (Rw.set i (rowsK G I i B0)) b B := by
  intro b hb B hGb
  have hi := (List.getElem?_eq_some_iff.mp hB).1
  have same := (renew_sum L hB).2.2 hc
  by_cases e : b = i
  · subst e
    rw [hB] at hGb
    cases hGb
    refine ⟨fun x hx => ?_, rowsK G I b B0, by rw [List.getElem?_set_self (by rw [L.rl]; exact hi)], rowsK_len .., rowsK_nd, fun k hk x => (rows_same same hk).symm⟩
    rw [at_set (by rw [L.iok.len]; exact hi), if_pos rfl]
    exact into_mono (fun c x => (same c x).mp) hx
  · obtain ⟨h1, kss, h2, h3, h5, h4⟩ := h b (by omega) B hGb
    refine ⟨fun x hx => (same b x).mpr (h1 x (into_mono (fun c x => (same c x).mp) hx)), kss, by rw [List.getElem?_set_ne (fun z => e z.symm)]; exact h2, h3, h5, fun k hk x => (h4 k hk x).trans (rows_same same hk).symm⟩
/-- what the object holds in the end -/
def Final (G : List PB) (I : List (List Str)) (Rw : List (List (List Str))) : Prop := ∀ b B, G[b]? = some B → (∀ x, x ∈ at_ I b ↔ LiveAt (toPg G) b 0 x ∧ x ∉ B.params) ∧ ∃ kss, Rw[b]? = some kss ∧ kss.length = B.ins.length + 1 ∧ (∀ l ∈ kss, l.Nodup) ∧ ∀ k, k ≤ B.ins.length → ∀ x, x ∈ at_ kss k ↔ LiveAt (toPg G) b k x
theorem still_final (SG : Small G) (L : LoopI G I Rw) (h : ∀ b, b < G.length → ∀ B, G[b]? = some B → Still G I Rw b B) : Final G I Rw := by
  have hF : ∀ b B, G[b]? = some B → ∀ x, x ∈ intoK G I b B → x ∈ at_ I b := fun b B hB => (h b (List.getElem?_eq_some_iff.mp hB).1 B hB).1
  intro b B hB
  obtain ⟨h1, kss, h2, h3, h5, h4⟩ := h b (List.getElem?_eq_some_iff.mp hB).1 B hB
  have hrow : ∀ k, k ≤ B.ins.length → ∀ x, x ∈ rw_ G I b B k ↔ LiveAt (toPg G) b k x := fun k hk x => ⟨rows_sound L.sound hB (B.ins.length - k) k (by omega) x, fun hl => rows_full SG hF hl B hB⟩
  refine ⟨fun x => ?_, kss, h2, h3, h5, fun k hk x => (h4 k hk x).trans (hrow k hk x)⟩
  constructor
  · intro hx
    have := L.sound b x hx
    rw [parms_at hB] at this
    exact this
  · rintro ⟨q1, q2⟩
    exact h1 x (mem_into.mpr ⟨(hrow 0 (Nat.zero_le _) x).mpr q1, q2⟩)
end
theorem loop_init {G : List PB} : LoopI G (List.replicate G.length []) (List.replicate G.length []) := by
  have h : ∀ c, at_ (List.replicate G.length ([] : List Str)) c = [] := fun c => by
    unfold at_
    rw [List.getD_eq_getElem?_getD, List.getElem?_replicate]
    split <;> rfl
  refine ⟨⟨by simp, fun ks hk => ?_, fun ks hk x hx => ?_⟩, fun c x hx => ?_, fun b B _ x hx => ?_, by simp⟩
  · rw [List.eq_of_mem_replicate hk]; exact List.nodup_nil
  · rw [List.eq_of_mem_replicate hk] at hx; cases hx
  · rw [h] at hx; cases hx
  · rw [h] at hx; cases hx
end Sh
end

section
set_option Elab.async false
set_option linter.all false
set_option maxRecDepth 100000
set_option maxHeartbeats 4000000
/-! Walks: the class Living: __init__. -/
namespace Sh
open PySem PySem.Spec PyProof.Rows L2 Evl
open SF (WF)
theorem pd_rep {α β : Type} {F : α → β → Prop} {b : β} : ∀ (l : List α), (∀ a ∈ l, F a b) → Paired F l (List.replicate l.length b)
  | [], _ => .nil
  | a :: l, h => .cons (h a (List.mem_cons_self ..)) (pd_rep l fun a ha => h a (List.mem_cons_of_mem _ ha))
theorem lfp (v : V) (ord lI lR : Addr) : putF "rows" (.ref lR) (putF "into" (.ref lI) (putF "order" (.ref ord) (putF "program" v []))) = lf v ord lI lR := by rfl
section
variable {P : Program} {w : World} {K : PySem.W.Frag} {mg : Str → Option Value} {base : Heap} {f C : Addr} {fd : FuncData} {σ : L2.St} {H : Hp} {g : TG} {tu tz : TS} {D : Ends} {ta tb te tl td tv : TE} {tr : TA} {β : Type} {R : Hp → V → β → Prop} {bs : List β} {wi : TI} {n : Nat} {Y : Nat → Hp → V → Hp → Prop}
theorem q_fld {Rv : Hp → V → Prop} {x dx : Addr} {fs : List (Str × V)} {f : Str} (h : EvR Rv tv σ H) (ha : Ev ta σ H (.ref x)) (ho : H x = some (.ins C dx fs)) (c : Cls K C) (n : NoAttr K C f) (hl : fs.length < 1000) (k : ∀ v H1 H2, Ex H H1 → Rv H1 v → Ex H1 H2 → tz D σ (upd H2 x (.ins C dx (putF f v fs)))) : tSeq (sFld K ta tv f) tz D σ H :=
  h H (Ex.refl H) _ fun v H1 e1 r => ha H1 e1 _ fun H2 e2 => ⟨x, C, dx, fs, rfl, (e1.trans e2) _ _ ho, c, n, hl, k v H1 H2 e1 r e2⟩
theorem er_news {vs : List Nat} {j : Nat} {o : HO} (hi : EvI wi σ H n Y) (hY : ∀ i H' x H'', Y i H' x H'' → H'' = H') (hn : n ≤ 40000) (hw : ∀ x, wipe ((wipe σ vs).set j (some x)) vs = wipe σ vs) (hte : ∀ σ' H' (Q : VK), (∀ p, H' p = none → Q (.ref p) (upd H' p o)) → te σ' H' Q) :
    EvR (fun H2 v => ∃ (D : Addr) (as : List Addr), v = .ref D ∧ H D = none ∧ H2 D = some (.lst (as.map V.ref)) ∧ as.length = n ∧ as.Nodup ∧ D ∉ as ∧ ∀ a ∈ as, H a = none ∧ H2 a = some o) (tLc wi (gName j) tYes te vs) σ H := fun H1 e1 Q q =>
  el_news hi hY hn hw hte H1 e1 Q fun D H2 as hD e2 h1 h2 h3 h4 h5 => q _ H2 e2 ⟨D, as, rfl, fresh_back e1 hD, h1, h2, h3, h4, fun a ha => ⟨fresh_back e1 (h5 a ha).1, (h5 a ha).2⟩⟩
def spInit (C : Addr) : Sp := fun vs H Q _ => ∃ (x dx : Addr) (v : V) (G : List PB), vs = [.ref x, v] ∧ H x = some (.ins C dx []) ∧ ProgAt H v G ∧ Small G ∧ WF (toPg G) ∧
  ∀ H' (ord lI lR : Addr) (I : List (List Str)) (Rw : List (List (List Str))), ExB x H H' → Liv C x dx ord lI lR v G H' I Rw → LoopI G I Rw → Final G I Rw → Q .non H'
abbrev s_init : Stmt := inCl (top 11) 0
abbrev n_init : List Str := ["self", "program", "changed", "number", "_"]
theorem sc_init : FnScope ["self", "program", "changed", "number", "_"] ["self", "program"] (defScope s_init) := ⟨rfl, rfl, rfl, by decide +kernel, rfl, by decide +kernel, by decide +kernel⟩
theorem ok_init {fr : Addr} {fdr : FuncData} (F : FnP K "__init__" "Living.__init__" s_init f fd) (B : Blt mg) (TL : TxL K C) (C_definitions : Cal P w K mg base "definitions" 2 ["program"] spDefs) (M_renew : Meth K C "renew" fr) (G_renew : FnOk P w K mg base CX0 4 fr fdr ["self", "number"] (spRenew C)) (B_renew : Binds K fdr ["self", "number"] []) :
    FnOk P w K mg base CX0 5 f fd ["self", "program"] (spInit C) := by
  refine F.ok sc_init (fun vs H Q E h => ?_) (fun cdv A outer s H vs Q E hr h => ⟨_, PSs.nox ((pss_cons (ps_fld (pv 0) (pv 1) rfl) (pss_cons (ps_fld (pv 0) (pe_cal C_definitions (hr.mono (by decide)) (by rfl) (pa_cons (pv 1) pa_nil)) rfl) (pss_cons (ps_fld (pv 0) (pe_lc (own := [("_", 4)]) (g := (gName 4)) rfl sc_init.nd (pi_tup (pv 1)) (blkOk_by (own := [("_", 4)]) (N := ["self", "program", "changed", "number", "_"]) (sc := (defScope s_init)) (by decide +kernel)) (fun _ _ _ _ _ => (pg_name (i := 4) sc_init.nd rfl (Or.inl rfl))) (fun _ _ _ _ _ => pts_nil) (fun _ _ _ _ _ => pe_dnewK)) rfl) (pss_cons (ps_fld (pv 0) (pe_lc (own := [("_", 4)]) (g := (gName 4)) rfl sc_init.nd (pi_tup (pv 1)) (blkOk_by (own := [("_", 4)]) (N := ["self", "program", "changed", "number", "_"]) (sc := (defScope s_init)) (by decide +kernel)) (fun _ _ _ _ _ => (pg_name (i := 4) sc_init.nd rfl (Or.inl rfl))) (fun _ _ _ _ _ => pts_nil) (fun _ _ _ _ _ => (pe_lst pa_nil))) rfl) (pss_cons (ps_set (i := 2) sc_init.nd rfl (Or.inl rfl) pe_bl) (pss_one (ps_while PassesOwn.never (pt_val (pv 2)) (pss_cons (ps_set (i := 2) sc_init.nd rfl (Or.inl rfl) pe_bl) (pss_one (ps_for PassesOwn.never rfl (pi_range1 (by rfl) B.range (pa_cons (pe_callB call_len_seq (by rfl) B.len PySem.boot_len (pa_cons (pv 1) pa_nil)) pa_nil)) (pg_name (i := 3) sc_init.nd rfl (Or.inl rfl)) (pss_one (ps_if (pt_val (pe_meth (pv 0) TL.cl M_renew G_renew (hr.mono (by decide)) B_renew .nil pass0 (pa_cons (pv 3) pa_nil))) (pss_one (ps_set (i := 2) sc_init.nd rfl (Or.inl rfl) pe_bl)) pss_nil))))))))))))), ?_⟩)
  · obtain ⟨x, dx, v, G, rfl, _⟩ := h
    rfl
  · obtain ⟨x, dx, v, G, rfl, hx, hP, S, hW, k⟩ := h
    obtain ⟨xs, ⟨a, rfl, ha⟩, hp⟩ := id hP
    have hlen := pd_len hp
    have hG := S.len
    have tx0 : ∀ {H' : Hp} {fs : List (Str × V)}, H' x = some (.ins C dx fs) → ∀ {o : HO}, TX H' (upd H' x o) := fun h => tx_of h fun _ z => by cases z
    -- self.program
    refine q_fld (evr_eq (ev_var (i := 1) rfl)) (ev_var rfl) hx TL.cl TL.n1 (by decide) fun y H1 H2 e1 ey e2 => ?_
    subst ey
    have e12 := e1.trans e2
    have hx2 : upd H2 x (.ins C dx (putF "program" (.ref a) [])) x = some (.ins C dx (putF "program" (.ref a) [])) := upd_same
    have xe2 : ExB x H (upd H2 x (.ins C dx (putF "program" (.ref a) []))) := fun b o hb h => by rw [upd_ne hb]; exact e12 _ _ h
    have hP2 : ProgAt (upd H2 x (.ins C dx (putF "program" (.ref a) []))) (.ref a) G := hP.mono ((tx e12).trans (tx0 (e12 _ _ hx)))
    generalize upd H2 x (.ins C dx (putF "program" (.ref a) [])) = H3 at hx2 xe2 hP2
    -- self.order
    have hdefs : EvR (fun H' v => ∃ p, v = .ref p ∧ H3 p = none ∧ H' p = some (.tup ((defsP G).map V.str))) (tCall spDefs [] E0 (tCons (tVar 1) tNil)) (start n_init [.ref x, .ref a]) H3 := by
      refine evr_call (ea1 (ev_var (i := 1) rfl)) fun H4 e4 Q4 q4 => ⟨.ref a, G, rfl, hP2.mono (tx e4), S, fun p H5 hp5 e5 h5 => q4 _ H5 e5 ⟨p, rfl, fresh_back e4 hp5, h5⟩⟩
    refine q_fld hdefs (ev_var rfl) hx2 TL.cl TL.n2 (by show 1 < 1000; decide) fun y H4 H5 e4 hy e5 => ?_
    obtain ⟨ord, rfl, ho0, ho⟩ := hy
    have e45 := e4.trans e5
    have nox : ord ≠ x := (ne_of_none hx2 ho0).symm
    have hx5 : upd H5 x (.ins C dx (putF "order" (.ref ord) (putF "program" (.ref a) []))) x = some (.ins C dx (putF "order" (.ref ord) (putF "program" (.ref a) []))) := upd_same
    have xe5 : ExB x H (upd H5 x (.ins C dx (putF "order" (.ref ord) (putF "program" (.ref a) [])))) := fun b o hb h => by rw [upd_ne hb]; exact e45 _ _ (xe2 _ _ hb h)
    have hP5 : ProgAt (upd H5 x (.ins C dx (putF "order" (.ref ord) (putF "program" (.ref a) [])))) (.ref a) G := hP2.mono ((tx e45).trans (tx0 (e45 _ _ hx2)))
    have ho5 : upd H5 x (.ins C dx (putF "order" (.ref ord) (putF "program" (.ref a) []))) ord = some (.tup ((defsP G).map V.str)) := by rw [upd_ne nox]; exact e5 _ _ ho
    generalize upd H5 x (.ins C dx (putF "order" (.ref ord) (putF "program" (.ref a) []))) = H6 at hx5 xe5 hP5 ho5
    have hax : a ≠ x := ne_of ha hx (by intro z; cases z)
    have ha6 : H6 a = some (.tup xs) := xe5 _ _ hax ha
    -- self.into
    refine q_fld (er_news (σ := start n_init [.ref x, .ref a]) (vs := [4]) (j := 4) (o := .dK []) (ei_tup (K := K) (ev_var (i := 1) rfl) ha6) (fun i H' x H'' y => y.1) (by omega) (fun _ => rfl) te_dnew) (ev_var rfl) hx5 TL.cl TL.n3 (by show 2 < 1000; decide) fun y H7 H8 e7 hy e8 => ?_
    obtain ⟨lI, as, rfl, hI0, hI, has, hand, hIas, hasd⟩ := hy
    have e78 := e7.trans e8
    have nIx : lI ≠ x := (ne_of_none hx5 hI0).symm
    have nax : ∀ z ∈ as, z ≠ x := fun z hz => (ne_of_none hx5 (hasd z hz).1).symm
    have hx8 : upd H8 x (.ins C dx (putF "into" (.ref lI) (putF "order" (.ref ord) (putF "program" (.ref a) [])))) x = some (.ins C dx (putF "into" (.ref lI) (putF "order" (.ref ord) (putF "program" (.ref a) [])))) := upd_same
    have xe8 : ExB x H (upd H8 x (.ins C dx (putF "into" (.ref lI) (putF "order" (.ref ord) (putF "program" (.ref a) []))))) := fun b o hb h => by rw [upd_ne hb]; exact e78 _ _ (xe5 _ _ hb h)
    have hP8 : ProgAt (upd H8 x (.ins C dx (putF "into" (.ref lI) (putF "order" (.ref ord) (putF "program" (.ref a) []))))) (.ref a) G := hP5.mono ((tx e78).trans (tx0 (e78 _ _ hx5)))
    have ho8 : upd H8 x (.ins C dx (putF "into" (.ref lI) (putF "order" (.ref ord) (putF "program" (.ref a) [])))) ord = some (.tup ((defsP G).map V.str)) := by rw [upd_ne nox]; exact e78 _ _ ho5
    have hI8 : upd H8 x (.ins C dx (putF "into" (.ref lI) (putF "order" (.ref ord) (putF "program" (.ref a) [])))) lI = some (.lst (as.map V.ref)) := by rw [upd_ne nIx]; exact e8 _ _ hI
    have hd8 : ∀ z ∈ as, upd H8 x (.ins C dx (putF "into" (.ref lI) (putF "order" (.ref ord) (putF "program" (.ref a) [])))) z = some (.dK []) := fun z hz => by rw [upd_ne (nax z hz)]; exact e8 _ _ (hasd z hz).2
    have hH0 : ∀ {z : Addr}, H6 z = none → z ≠ x → H z = none := fun {z} h n => by
      cases q : H z with
      | none => rfl
      | some o => rw [xe5 _ _ n q] at h; cases h
    have hI00 := hH0 hI0 nIx
    generalize upd H8 x (.ins C dx (putF "into" (.ref lI) (putF "order" (.ref ord) (putF "program" (.ref a) [])))) = H9 at hx8 xe8 hP8 ho8 hI8 hd8
    have ha9 : H9 a = some (.tup xs) := xe8 _ _ hax ha
    -- self.rows
    refine q_fld (er_news (σ := start n_init [.ref x, .ref a]) (vs := [4]) (j := 4) (o := .lst []) (ei_tup (K := K) (ev_var (i := 1) rfl) ha9) (fun i H' x H'' y => y.1) (by omega) (fun _ => rfl) te_nil) (ev_var rfl) hx8 TL.cl TL.n4 (by show 3 < 1000; decide) fun y HA HB eA hy eB => ?_
    obtain ⟨lR, rs, rfl, hR0, hR, hrs, hrnd, hRrs, hrsd⟩ := hy
    have eAB := eA.trans eB
    have nRx : lR ≠ x := (ne_of_none hx8 hR0).symm
    have nRI : lI ≠ lR := ne_of_none hI8 hR0
    have nrx : ∀ z ∈ rs, z ≠ x := fun z hz => (ne_of_none hx8 (hrsd z hz).1).symm
    have nrI : ∀ z ∈ rs, z ≠ lI := fun z hz => (ne_of_none hI8 (hrsd z hz).1).symm
    have hR00 : H lR = none := by
      cases q : H lR with
      | none => rfl
      | some o => rw [xe8 _ _ nRx q] at hR0; cases hR0
    rw [lfp]
    have xeB : ExB x H (upd HB x (.ins C dx (lf (.ref a) ord lI lR))) := fun b o hb h => by rw [upd_ne hb]; exact eAB _ _ (xe8 _ _ hb h)
    have LB : Liv C x dx ord lI lR (.ref a) G (upd HB x (.ins C dx (lf (.ref a) ord lI lR))) (List.replicate G.length []) (List.replicate G.length []) := by
      refine ⟨upd_same, by rw [upd_ne nox]; exact eAB _ _ ho8, nRI, ⟨as.map V.ref, by rw [upd_ne nIx]; exact eAB _ _ hI8, ?_⟩, ⟨rs.map V.ref, by rw [upd_ne nRx]; exact eB _ _ hR, ?_⟩⟩
      · have := pd_rep (F := DAt (upd HB x (.ins C dx (lf (.ref a) ord lI lR)))) (b := ([] : List Str)) (as.map V.ref) fun z hz => by
          obtain ⟨q, hq, rfl⟩ := List.mem_map.mp hz
          exact ⟨q, rfl, by rw [upd_ne (nax q hq)]; exact eAB _ _ (hd8 q hq)⟩
        rw [List.length_map, has, hlen] at this
        exact this
      · have := pd_rep (F := RwAt lI lR (upd HB x (.ins C dx (lf (.ref a) ord lI lR)))) (b := ([] : List (List Str))) (rs.map V.ref) fun z hz => by
          obtain ⟨q, hq, rfl⟩ := List.mem_map.mp hz
          exact ⟨q, rfl, nrI q hq, fun e => hRrs (by rw [← e]; exact hq), [], by rw [upd_ne (nrx q hq)]; exact eB _ _ (hrsd q hq).2, .nil⟩
        rw [List.length_map, hrs, hlen] at this
        exact this
    generalize upd HB x (.ins C dx (lf (.ref a) ord lI lR)) = HC at xeB LB
    refine q_asg ev_c fun HD eD => ?_
    refine s_while (D := { nx := _, rt := _, bk := _, ct := _ }) (fun m σ' H' => ∃ ch I Rw o3 o4, σ' = [some (.ref x), some (.ref a), some (.bl ch), o3, o4] ∧ ExB x H H' ∧ Liv C x dx ord lI lR (.ref a) G H' I Rw ∧ LoopI G I Rw ∧ (ch = false → Final G I Rw) ∧ m = if ch = true then (4000 - sumLen I) + 1 else 0) _
      ⟨true, _, _, none, none, rfl, fun b o hb h => eD _ _ (xeB b o hb h), LB.mono eD, loop_init, (by intro z; cases z), rfl⟩ ?_
    rintro m σ' H' ⟨ch, I, Rw, o3, o4, rfl, xe, L, LP, hF, hm⟩
    refine ⟨ch, et_B (ev_var rfl), fun hc HE eE => ?_, fun hc HE eE => ?_⟩
    · subst hc
      rw [if_pos rfl] at hm
      refine ⟨fun σ2 H2 => ∃ m', m' < m ∧ ∃ ch I Rw o3 o4, σ2 = [some (.ref x), some (.ref a), some (.bl ch), o3, o4] ∧ ExB x H H2 ∧ Liv C x dx ord lI lR (.ref a) G H2 I Rw ∧ LoopI G I Rw ∧ (ch = false → Final G I Rw) ∧ m' = if ch = true then (4000 - sumLen I) + 1 else 0, fun σ2 H2 h => h, ?_⟩
      refine q_asg ev_c fun HG eG => ?_
      have eEG := eE.trans eG
      have hlG : ((xs.length : Nat) : Int).toNat = xs.length := Int.toNat_natCast _
      have haG : HG a = some (.tup xs) := eEG _ _ (xe _ _ hax ha)
      refine s_forR1 (D := { nx := _, rt := _, bk := _, ct := _ }) (ea1 (ev_lenT (K := K) (ev_var rfl) haG)) (by omega) (fun i σ' H' => ∃ ch I2 Rw2 o3 o4, σ' = [some (.ref x), some (.ref a), some (.bl ch), o3, o4] ∧ ExB x H H' ∧ Liv C x dx ord lI lR (.ref a) G H' I2 Rw2 ∧ LoopI G I2 Rw2 ∧ sumLen I ≤ sumLen I2 ∧ (ch = true → sumLen I < sumLen I2) ∧ (ch = false → ∀ b, b < i → ∀ B, G[b]? = some B → Still G I2 Rw2 b B))
        (fun HI eI => ⟨false, I, Rw, o3, o4, rfl, fun b o hb h => eI _ _ (eEG _ _ (xe b o hb h)), L.mono (eEG.trans eI), LP, Nat.le_refl _, (by intro z; cases z), fun _ b hb => absurd hb (Nat.not_lt_zero b)⟩) ?_ ?_
      · rintro i σ' HI hi ⟨ch, I2, Rw2, o3, o4, rfl, xeI, LI, LPI, s1, s2, s3⟩
        have hiG : i < G.length := by omega
        obtain ⟨B0, hB0⟩ : ∃ B0, G[i]? = some B0 := ⟨_, List.getElem?_eq_getElem hiG⟩
        have hPI : ProgAt HI (.ref a) G := hP.mono fun b ys hb => xeI _ _ (ne_of hb hx (by intro z; cases z)) hb
        refine ⟨_, rfl, x, dx, _, rfl, LI.ob, by rfl, _, rfl, x, dx, ord, lI, lR, .ref a, G, I2, Rw2, i, B0, rfl, LI, hPI, S, LPI.iok, LPI.rl, hB0, fun HJ eJ LJ => ⟨_, rfl, ?_⟩⟩
        have LPJ := renew_ok hW LPI hB0
        obtain ⟨r1, r2, r3⟩ := renew_sum LPI hB0
        have xeJ : ExB x H HJ := fun b o hb h => eJ _ _ (fun e => by rw [e, hI00] at h; cases h) (fun e => by rw [e, hR00] at h; cases h) (xeI b o hb h)
        cases hcg : chg (intoK G I2 i B0) (at_ I2 i) with
        | true =>
          have r2 := r2 hcg
          refine s_asg (D := { nx := _, rt := _, bk := _, ct := _ }) ev_c fun HK eK => ?_
          exact ⟨true, _, _, _, _, rfl, fun b o hb h => eK _ _ (xeJ b o hb h), LJ.mono eK, LPJ, by omega, (fun _ => by omega), (by intro z; cases z)⟩
        | false =>
          refine ⟨ch, _, _, _, _, rfl, xeJ, LJ, LPJ, by omega, fun z => by have := s2 z; omega, fun z => still_step LPI hB0 hcg (s3 z)⟩
      · rintro σ' HI ⟨ch, I2, Rw2, o3, o4, rfl, xeI, LI, LPI, s1, s2, s3⟩
        rw [hlG, hlen] at s3
        have hle := sum_le (LPI.iok.le S)
        rw [LPI.iok.len] at hle
        refine ⟨_, ?_, ch, I2, Rw2, o3, o4, rfl, xeI, LI, LPI, fun z => still_final S LPI (s3 z), rfl⟩
        cases ch with
        | true =>
          have := s2 rfl
          rw [hm, if_pos rfl]
          omega
        | false =>
          rw [hm, if_neg Bool.false_ne_true]
          omega
    · subst hc
      exact k HE ord lI lR I Rw (fun b o hb h => eE _ _ (xe b o hb h)) (L.mono eE) LP (hF rfl)
end
end Sh
end

section
set_option Elab.async false
set_option linter.all false
set_option maxRecDepth 100000
set_option maxHeartbeats 4000000
/-! Walks: the class Living: sets. -/
namespace Sh
open PySem PySem.Spec PyProof.Rows L2 Evl Classical
open SF (WF InSet DefPt LiveAt)
noncomputable def pset (G : List PB) (b p : Nat) : List Str := (defsP G).filter fun x => decide (InSet (toPg G) b p x)
noncomputable def bsetsTo (G : List PB) (b : Nat) (B : PB) (j : Nat) : List (List Str × List Str) := (pset G b 0, B.params) :: (List.range j).filterMap fun i => (B.ins[i]?.bind dby).map fun n => (pset G b (i + 1), [n])
noncomputable def bsets (G : List PB) (b : Nat) (B : PB) : List (List Str × List Str) := bsetsTo G b B B.ins.length
noncomputable def bsetsO (G : List PB) (b : Nat) : List (List Str × List Str) := (G[b]?.map (bsets G b)).getD []
noncomputable def setsTo (G : List PB) (n : Nat) : List (List Str × List Str) := ((List.range n).map (bsetsO G)).flatten
noncomputable def setsP (G : List PB) : List (List Str × List Str) := setsTo G G.length
theorem sets_succ (G : List PB) (n : Nat) : setsTo G (n + 1) = setsTo G n ++ bsetsO G n := by
  unfold setsTo
  rw [List.range_succ, List.map_append, List.flatten_append]
  simp
theorem bsetsO_at {G : List PB} {b : Nat} {B : PB} (h : G[b]? = some B) : bsetsO G b = bsets G b B := by
  unfold bsetsO
  rw [h]
  rfl
theorem bsetsTo_succ (G : List PB) (b : Nat) (B : PB) (j : Nat) : bsetsTo G b B (j + 1) = bsetsTo G b B j ++ ((B.ins[j]?.bind dby).map fun n => (pset G b (j + 1), [n])).toList := by
  unfold bsetsTo
  rw [fm_succ]
  rfl
theorem bsetsTo_len (G : List PB) (b : Nat) (B : PB) (j : Nat) : (bsetsTo G b B j).length ≤ j + 1 := by
  unfold bsetsTo
  rw [List.length_cons]
  have := fm_le (fun i => (B.ins[i]?.bind dby).map fun n => (pset G b (i + 1), [n])) j
  omega
theorem setsTo_len {G : List PB} (S : Small G) (n : Nat) (hn : n ≤ G.length) : (setsTo G n).length ≤ 21 * n := by
  induction n with
  | zero => simp [setsTo]
  | succ n ih =>
    have h1 := ih (by omega)
    obtain ⟨B, hB⟩ : ∃ B, G[n]? = some B := ⟨_, List.getElem?_eq_getElem (by omega)⟩
    rw [sets_succ, List.length_append, bsetsO_at hB]
    have h2 := bsetsTo_len G n B B.ins.length
    have h3 := S.ins B (List.mem_of_getElem? hB)
    unfold bsets
    omega
theorem inset0 {G : List PB} {b : Nat} {B : PB} (hB : G[b]? = some B) {x : Str} : InSet (toPg G) b 0 x ↔ x ∈ B.params ∨ LiveAt (toPg G) b 0 x := by
  unfold InSet DefPt
  constructor
  · rintro (⟨C, hC, (⟨_, h⟩ | ⟨i, us, h, _⟩)⟩ | h)
    · rw [pg_at hB] at hC
      cases hC
      exact .inl h
    · cases h
    · exact .inr h
  · rintro (h | h)
    · exact .inl ⟨_, pg_at hB, .inl ⟨rfl, h⟩⟩
    · exact .inr h
theorem insetS {G : List PB} {b i : Nat} {B : PB} (hB : G[b]? = some B) {r : Row} (hr : B.ins[i]? = some r) {n : Str} (hn : dby r = some n) {x : Str} : InSet (toPg G) b (i + 1) x ↔ x = n ∨ LiveAt (toPg G) b (i + 1) x := by
  unfold InSet DefPt
  constructor
  · rintro (⟨C, hC, (⟨h, _⟩ | ⟨j, us, h, hj⟩)⟩ | h)
    · cases h
    · rw [pg_at hB] at hC
      cases hC
      cases h
      rw [bk_ins hr, hn] at hj
      cases hj
      exact .inl rfl
    · exact .inr h
  · rintro (h | h)
    · subst h
      exact .inl ⟨_, pg_at hB, .inr ⟨i, uses r, rfl, by rw [bk_ins hr, hn]⟩⟩
    · exact .inr h
def SetAt (H : Hp) (v : V) (e : List Str × List Str) : Prop := ∃ vn vd, TupAt H v [vn, vd] ∧ StrsAt H vn e.1 ∧ StrsAt H vd e.2
theorem mono_set : MonoT SetAt := fun _ _ _ _ e ⟨vn, vd, h1, h2, h3⟩ => ⟨vn, vd, h1.mono e, h2.mono e, h3.mono e⟩
section
variable {P : Program} {w : World} {K : PySem.W.Frag} {mg : Str → Option Value} {base : Heap} {f C : Addr} {fd : FuncData} {σ : L2.St} {H : Hp} {g : TG} {tu tz : TS} {D : Ends} {ta tb te tl td tv : TE} {tr : TA} {β : Type} {R : Hp → V → β → Prop} {bs : List β}
def rDictD : List V → Hp → VK → Prop := fun xs H Q => ∃ (a : Addr) (kvs : List (Key × V)), xs = [.ref a] ∧ Rd H a (.dK kvs) ∧ ∀ p, H p = none → Q (.ref p) (upd H p (.dK kvs))
theorem ed_dict {d : Addr} {kvs : List (Key × V)} (h : Ev ta σ H (.ref d)) (hd : H d = some (.dK kvs)) : EvD (tCB rDictD (tCons ta tNil)) σ H kvs := fun H1 e Q q =>
  h H1 e _ fun H2 e2 => ⟨d, kvs, rfl, .inl ((e.trans e2) _ _ hd), fun p hp => q p _ (fresh_back e2 hp) (e2.trans (Ex.new hp)) upd_same⟩
/-- d.update({..}) -/
theorem s_dupdN {d : Addr} {ks ls : List Str} (hd : H d = some (.dK (dkT ks))) (ha : Ev ta σ H (.ref d)) (h : EvD te σ H (dkT ls)) (hz : ks.length + ls.length ≤ 100000) (k : ∀ H1, Ex H H1 → D.nx σ (upd H1 d (.dK (dkT (insAll ks ls))))) :
    tDrop (tBM K "dict" rDUpd ta (tCons te tNil)) D σ H := ha H (Ex.refl H) _ fun H1 e1 => by
  have t1 : tyV K "dict" (.ref d) H1 := .inr (.inr (.inl ⟨rfl, .inl ⟨_, e1 _ _ hd⟩⟩))
  exact ⟨t1, h H1 e1 _ fun e' H2 hn e2 he => ⟨d, e', dkT ks, dkT ls, rfl, rfl, ne_of_none (e1 _ _ hd) hn, (e1.trans e2) _ _ hd, he, sz_of (by simp only [List.length_map]; exact hz), by rw [merge_dkT]; exact k H2 (e1.trans e2)⟩⟩
theorem q_dupdN {d : Addr} {ks ls : List Str} (hd : H d = some (.dK (dkT ks))) (ha : Ev ta σ H (.ref d)) (h : EvD te σ H (dkT ls)) (hz : ks.length + ls.length ≤ 100000) (k : ∀ H1, Ex H H1 → tz D σ (upd H1 d (.dK (dkT (insAll ks ls))))) :
    tSeq (tDrop (tBM K "dict" rDUpd ta (tCons te tNil))) tz D σ H := s_dupdN (D := { D with nx := tz D }) hd ha h hz k
theorem eu_told {x dx ord lI lR kd : Addr} {v : V} {G : List PB} {I : List (List Str)} {Rw : List (List (List Str))} {ks : List Str} (h : Ev ta σ H (.ref x)) (h2 : Ev tb σ H (.ref kd)) (L : Liv C x dx ord lI lR v G H I Rw) (S : Small G) (hk : H kd = some (.dK (dkT ks))) :
    EvU (tMeth C "told" (spTold C) [] E0 ta (tCons tb tNil)) σ H (((defsP G).filter fun x => decide (x ∈ ks)).map V.str) := fun H1 e Q q => h H1 e _ fun H2 e2 =>
  ⟨x, dx, lf v ord lI lR, rfl, (e.trans e2) _ _ L.ob, by rfl, h2 H2 (e.trans e2) _ fun H3 e3 => ⟨x, dx, ord, lI, lR, kd, v, G, I, Rw, ks, rfl, L.mono (e.trans (e2.trans e3)), S, (e.trans (e2.trans e3)) _ _ hk, fun p H4 hp e4 h4 => q p H4 (fresh_back (e2.trans e3) hp) ((e2.trans e3).trans e4) h4⟩⟩
theorem er_pair {xs ys : List Str} (ha : EvU ta σ H (xs.map V.str)) (hb : EvW tb σ H (ys.map V.str)) : EvR (fun H v => SetAt H v (xs, ys)) (tTup (tCons ta (tCons tb tNil))) σ H := fun H1 e Q q =>
  ha H1 e _ fun p H2 _ e2 hp => hb H2 (e.trans e2) _ fun p2 H3 e3 hp2 => ⟨by show 2 ≤ sizeLine; decide, fun r hr => q _ _ (e2.trans (e3.trans (Ex.new hr))) ⟨.ref p, .ref p2, ⟨r, rfl, upd_same⟩, ⟨p, rfl, Ex.new hr _ _ (e3 _ _ hp)⟩, ⟨p2, rfl, Ex.new hr _ _ hp2⟩⟩⟩
def spSets (C : Addr) : Sp := fun vs H Q _ => ∃ (x dx ord lI lR : Addr) (v : V) (G : List PB) (I : List (List Str)) (Rw : List (List (List Str))), vs = [.ref x] ∧ Liv C x dx ord lI lR v G H I Rw ∧ ProgAt H v G ∧ Small G ∧ WF (toPg G) ∧ LoopI G I Rw ∧ Final G I Rw ∧
  ∀ p H' ws, H p = none → Ex H H' → H' p = some (.lst ws) → Paired (SetAt H') ws (setsP G) → Q (.ref p) H'
abbrev s_sets : Stmt := inCl (top 11) 4
abbrev n_sets : List Str := ["self", "found", "number", "block", "_", "parameters", "instructions", "known", "name", "at", "row"]
theorem sc_sets : FnScope ["self", "found", "number", "block", "_", "parameters", "instructions", "known", "name", "at", "row"] ["self"] (defScope s_sets) := ⟨rfl, rfl, rfl, by decide +kernel, rfl, by decide +kernel, by decide +kernel⟩
theorem ok_sets {ft : Addr} {fdt : FuncData} (F : FnP K "sets" "Living.sets" s_sets f fd) (B : Blt mg) (TL : TxL K C) (C_defined_by : Cal P w K mg base "defined_by" 1 ["instruction"] spDby) (M_told : Meth K C "told" ft) (G_told : FnOk P w K mg base CX0 1 ft fdt ["self", "known"] (spTold C)) (B_told : Binds K fdt ["self", "known"] []) :
    FnOk P w K mg base CX0 2 f fd ["self"] (spSets C) := by
  refine F.ok sc_sets (fun vs H Q E h => ?_) (fun cdv A outer s H vs Q E hr h => ⟨_, PSs.nox ((pss_cons (ps_set (i := 1) sc_sets.nd rfl (Or.inl rfl) (pe_lst pa_nil)) (pss_cons (ps_for PassesOwn.never rfl (pi_enumT (by rfl) B.enumerate (pa_cons (pe_fld (pv 0) rfl) pa_nil)) (pg_tup (by rfl) (pgs_cons (pg_name (i := 2) sc_sets.nd rfl (Or.inl rfl)) (pgs_cons (pg_name (i := 3) sc_sets.nd rfl (Or.inl rfl)) pgs_nil))) (pss_cons (ps_asg (pv 3) (pg_tup (by rfl) (pgs_cons (pg_name (i := 4) sc_sets.nd rfl (Or.inl rfl)) (pgs_cons (pg_name (i := 5) sc_sets.nd rfl (Or.inl rfl)) (pgs_cons (pg_name (i := 6) sc_sets.nd rfl (Or.inl rfl)) (pgs_cons (pg_name (i := 4) sc_sets.nd rfl (Or.inl rfl)) pgs_nil)))))) (pss_cons (ps_set (i := 7) sc_sets.nd rfl (Or.inl rfl) (pe_callTy call_dictD (by rfl) B.dict (by decide +kernel) (pa_cons (pe_ix ix_list (pe_fld (pv 0) rfl) (pv 2) (fun _ _ => rfl)) pa_nil))) (pss_cons (ps_expr (pe_bm PySem.F.plainAttrs_dict PySem.F.slot_dict_update PySem.F.type_dict_update mt_dupd (pv 7) (pa_cons (pe_dc (own := [("name", 8)]) (g := (gName 8)) rfl sc_sets.nd (pi_tup (pv 5)) (blkOk_by (own := [("name", 8)]) (N := ["self", "found", "number", "block", "_", "parameters", "instructions", "known", "name", "at", "row"]) (sc := (defScope s_sets)) (by decide +kernel)) (fun _ _ _ _ _ => (pg_name (i := 8) sc_sets.nd rfl (Or.inl rfl))) (fun _ _ _ _ _ => pts_nil) (fun _ _ _ _ _ => (pv 8)) (fun _ _ _ _ _ => pe_bl)) pa_nil))) (pss_cons (ps_expr (pe_bm PySem.F.plainAttrs_list PySem.F.slot_list_append PySem.F.type_list_append mt_append (pv 1) (pa_cons (pe_tup (pa_cons (pe_meth (pv 0) TL.cl M_told G_told (hr.mono (by decide)) B_told .nil pass0 (pa_cons (pv 7) pa_nil)) (pa_cons (pv 5) pa_nil))) pa_nil))) (pss_one (ps_for PassesOwn.never rfl (pi_enumT (by rfl) B.enumerate (pa_cons (pv 6) pa_nil)) (pg_tup (by rfl) (pgs_cons (pg_name (i := 9) sc_sets.nd rfl (Or.inl rfl)) (pgs_cons (pg_name (i := 10) sc_sets.nd rfl (Or.inl rfl)) pgs_nil))) (pss_cons (ps_set (i := 8) sc_sets.nd rfl (Or.inl rfl) (pe_cal C_defined_by (hr.mono (by decide)) (by rfl) (pa_cons (pv 10) pa_nil))) (pss_one (ps_if (pt_cmpR op_notN (pv 8) pe_non (nomark _)) (pss_cons (ps_set (i := 7) sc_sets.nd rfl (Or.inl rfl) (pe_callTy call_dictD (by rfl) B.dict (by decide +kernel) (pa_cons (pe_ix ix_list (pe_ix ix_list (pe_fld (pv 0) rfl) (pv 2) (fun _ _ => rfl)) (pe_op op_add (pv 9) pe_int) (fun _ _ => rfl)) pa_nil))) (pss_cons (ps_dput (hu_of hr) (pv 7) (pv 8) pe_bl rfl) (pss_one (ps_expr (pe_bm PySem.F.plainAttrs_list PySem.F.slot_list_append PySem.F.type_list_append mt_append (pv 1) (pa_cons (pe_tup (pa_cons (pe_meth (pv 0) TL.cl M_told G_told (hr.mono (by decide)) B_told .nil pass0 (pa_cons (pv 7) pa_nil)) (pa_cons (pe_tup (pa_cons (pv 8) pa_nil)) pa_nil))) pa_nil)))))) pss_nil)))))))))) (pss_one (ps_ret (pv 1)))))), ?_⟩)
  · obtain ⟨x, dx, ord, lI, lR, v, G, I, Rw, rfl, _⟩ := h
    rfl
  · obtain ⟨x, dx, ord, lI, lR, v, G, I, Rw, rfl, L, hP, S, hW, LP, hF, k⟩ := h
    obtain ⟨xs, ⟨a, rfl, ha⟩, hp⟩ := id hP
    have hlen := pd_len hp
    have hG := S.len
    refine q_asgL (xs := []) (el_lst ea_nil (by decide)) fun l H1 hl e1 h1 => ?_
    refine q_forET (a := a) (xs := xs) (ea1 (ev_fld (ev_var rfl) (e1 _ _ L.ob) TL.cl TL.n1 (lf1 _ _ _ _))) (e1 _ _ ha) (fun i σ' H' => (∃ o2 o3 o4 o5 o6 o7 o8 o9 o10, σ' = [some (.ref x), some (.ref l), o2, o3, o4, o5, o6, o7, o8, o9, o10]) ∧ Ex H H' ∧ ∃ ws, H' l = some (.lst ws) ∧ Paired (SetAt H') ws (setsTo G i))
      (fun H2 e2 => ⟨⟨none, none, none, none, none, none, none, none, none, rfl⟩, e1.trans e2, [], e2 _ _ h1, .nil⟩) (fun i σ' H' q => q.2.1 _ _ ha) ?_ ?_
    · rintro i y σ' H' T hy ⟨⟨o2, o3, o4, o5, o6, o7, o8, o9, o10, rfl⟩, e2, ws, h2, h3⟩ hT
      obtain ⟨B0, hB, hbk⟩ := pd_get hp hy
      have e3 : Ex H (upd H' T (.tup [.int (i : Nat), y])) := e2.trans (Ex.new hT)
      have h23 : upd H' T (.tup [.int (i : Nat), y]) l = some (.lst ws) := Ex.new hT _ _ h2
      have p23 : Paired (SetAt (upd H' T (.tup [.int (i : Nat), y]))) ws (setsTo G i) := Paired.mapP h3 fun v b q => mono_set.e _ _ _ _ (Ex.new hT) q
      refine g_tup2 upd_same ?_
      generalize upd H' T (.tup [.int (i : Nat), y]) = H3 at e3 h23 p23
      obtain ⟨vp, vi, vf, ⟨ab, rfl, hab⟩, ⟨ap, rfl, hap⟩, ⟨is, ⟨ai, rfl, hai⟩, hpi⟩, _⟩ := hbk
      have hBm := List.mem_of_getElem? hB
      have hiG := (List.getElem?_eq_some_iff.mp hB).1
      have hpar := S.par B0 hBm
      have hins := S.ins B0 hBm
      have hsl := setsTo_len S i (by omega)
      have hil := pd_len hpi
      obtain ⟨f1, kss, f2, f3, f5, f4⟩ := hF i B0 hB
      refine q_asgT (ev_var rfl) fun H4 e4 => g_tup4 ((e3.trans e4) _ _ hab) ?_
      have e04 := e3.trans e4
      have L4 := L.mono e04
      obtain ⟨wI, hwI, hpI⟩ := L4.into
      have hati : I[i]? = some (at_ I i) := by unfold at_; rw [List.getD_eq_getElem?_getD, List.getElem?_eq_getElem (by rw [LP.iok.len]; exact hiG)]; rfl
      obtain ⟨wd, hwd, dd, rfl, hdd⟩ := pd_get' hpI hati
      refine q_asgD (ed_dict (ev_ixL (ev_fld (ev_var rfl) L4.ob TL.cl TL.n3 (lf3 _ _ _ _)) hwI (ev_var rfl) (atI_nat (j := i) hwd)) hdd) fun kd H5 hkd e5 h5 => ?_
      have hkd0 : H kd = none := fresh_back e04 hkd
      have hIle := LP.iok.le S _ (List.mem_of_getElem? hati)
      have hdc : EvD (tDc (iTup K (tVar 5)) (gName 8) tYes (tVar 8) (tC (.bl true)) [8]) [some (.ref x), some (.ref l), some (.int (i : Nat)), some (.ref ab), some vf, some (.ref ap), some (.ref ai), some (.ref kd), o8, o9, o10] H5 (dkT (insAll [] (B0.params.filter fun _ => true))) :=
        ed_true (fun _ => true) (ei_map (ei_tup (ev_var rfl) ((e04.trans e5) _ _ hap))) (by omega) (fun _ => rfl) (fun _ => rfl) fun j y H6 hy e6 => et_yes
      have hpl : (insAll [] (B0.params.filter fun _ => true)).length ≤ 20 := by
        have h1 := insAll_len (B0.params.filter fun _ => true) []
        have h2 := List.length_filter_le (fun _ => true) B0.params
        simp only [List.length_nil] at h1
        omega
      refine q_dupdN h5 (ev_var rfl) hdc (by omega) fun H6 e6 => ?_
      have e56 := e5.trans e6
      have e06 : Ex H (upd H6 kd (.dK (dkT (insAll (at_ I i) (insAll [] (B0.params.filter fun _ => true)))))) := ex_upd e04 hkd0 e56
      have nlk : l ≠ kd := ne_of_none (e4 _ _ h23) hkd
      have hl6 : upd H6 kd (.dK (dkT (insAll (at_ I i) (insAll [] (B0.params.filter fun _ => true))))) l = some (.lst ws) := by rw [upd_ne nlk]; exact e56 _ _ (e4 _ _ h23)
      have t36 : TX H3 (upd H6 kd (.dK (dkT (insAll (at_ I i) (insAll [] (B0.params.filter fun _ => true)))))) := (tx (e4.trans e56)).trans (tx_of (e6 _ _ h5) fun _ z => by cases z)
      have hk6 : upd H6 kd (.dK (dkT (insAll (at_ I i) (insAll [] (B0.params.filter fun _ => true))))) kd = some (.dK (dkT (insAll (at_ I i) (insAll [] (B0.params.filter fun _ => true))))) := upd_same
      generalize upd H6 kd (.dK (dkT (insAll (at_ I i) (insAll [] (B0.params.filter fun _ => true))))) = H7 at e06 hl6 t36 hk6
      have hfe : ((defsP G).filter fun x => decide (x ∈ insAll (at_ I i) (insAll [] (B0.params.filter fun _ => true)))) = pset G i 0 := by
        unfold pset
        refine List.filter_congr fun z _ => decide_eq_decide.mpr ?_
        rw [mem_insAll, mem_insAll, List.mem_filter, f1, inset0 hB]
        constructor
        · rintro (h | h | h)
          · exact .inr h.1
          · cases h
          · exact .inl h.1
        · rintro (h | h)
          · exact .inr (.inr ⟨h, rfl⟩)
          · by_cases q : z ∈ B0.params
            · exact .inr (.inr ⟨q, rfl⟩)
            · exact .inl ⟨h, q⟩
      refine q_appR (Rv := fun H v => SetAt H v (pset G i 0, B0.params)) hl6 (ev_var rfl) (by rw [← hfe]; exact er_pair (eu_told (ev_var rfl) (ev_var rfl) (L.mono e06) S hk6) (ew_old (ev_var rfl) (e06 _ _ hap))) (by rw [pd_len p23]; omega) fun sv H8 e8 hsv => ?_
      have hl0 : H l = none := hl
      have t78 : TX H7 (upd H8 l (.lst (ws ++ [sv]))) := (tx e8).trans (tx_of (e8 _ _ hl6) fun _ z => by cases z)
      have t8 : TX H8 (upd H8 l (.lst (ws ++ [sv]))) := tx_of (e8 _ _ hl6) fun _ z => by cases z
      have e09 : Ex H (upd H8 l (.lst (ws ++ [sv]))) := ex_upd e06 hl0 e8
      have p9 : Paired (SetAt (upd H8 l (.lst (ws ++ [sv])))) (ws ++ [sv]) (setsTo G i ++ bsetsTo G i B0 0) := pd_append (Paired.mapP p23 fun v b q => mono_set _ _ _ _ (t36.trans t78) q) (.cons (mono_set _ _ _ _ t8 hsv) .nil)
      have hl9 : upd H8 l (.lst (ws ++ [sv])) l = some (.lst (ws ++ [sv])) := upd_same
      generalize upd H8 l (.lst (ws ++ [sv])) = H9 at e09 p9 hl9
      refine s_forET (D := { nx := _, rt := _, bk := _, ct := _ }) (a := ai) (xs := is) (ea1 (ev_var rfl)) (e09 _ _ hai) (fun j σ' H' => (∃ o7 o8 o9 o10, σ' = [some (.ref x), some (.ref l), some (.int (i : Nat)), some (.ref ab), some vf, some (.ref ap), some (.ref ai), o7, o8, o9, o10]) ∧ Ex H H' ∧ ∃ ws, H' l = some (.lst ws) ∧ Paired (SetAt H') ws (setsTo G i ++ bsetsTo G i B0 j))
        (fun HA eA => ⟨⟨_, _, _, _, rfl⟩, e09.trans eA, _, eA _ _ hl9, Paired.mapP p9 fun v b q => mono_set.e _ _ _ _ eA q⟩) (fun j σ' H' q => q.2.1 _ _ hai) ?_ ?_
      · rintro j vr σ' HA T2 hvr ⟨⟨o7, o8, o9, o10, rfl⟩, eA, wsA, hlA, hpA⟩ hT2
        obtain ⟨r, hr0, hra⟩ := pd_get hpi hvr
        have hjl := (List.getElem?_eq_some_iff.mp hr0).1
        refine g_tup2 upd_same ?_
        have eB : Ex H (upd HA T2 (.tup [.int (j : Nat), vr])) := eA.trans (Ex.new hT2)
        have hlB : upd HA T2 (.tup [.int (j : Nat), vr]) l = some (.lst wsA) := Ex.new hT2 _ _ hlA
        have pB : Paired (SetAt (upd HA T2 (.tup [.int (j : Nat), vr]))) wsA (setsTo G i ++ bsetsTo G i B0 j) := Paired.mapP hpA fun v b q => mono_set.e _ _ _ _ (Ex.new hT2) q
        generalize upd HA T2 (.tup [.int (j : Nat), vr]) = HB at eB hlB pB
        refine q_asg (ev_dby (ev_var rfl) (hra.mono (tx eB))) fun HC eC => ?_
        have e0C := eB.trans eC
        have hbsl := bsetsTo_len G i B0 j
        have hAl := pd_len pB
        rw [List.length_append] at hAl
        refine s_when (ev_some (ev_var rfl)) (fun hb HD eD => ?_) (fun hb HD eD => ?_)
        · obtain ⟨nm, hnm⟩ := Option.isSome_iff_exists.mp hb
          rw [hnm]
          have e0D := e0C.trans eD
          have LD := L.mono e0D
          obtain ⟨wR, hwR, hpR⟩ := LD.rows
          obtain ⟨wr, hwr, lr, rfl, _, _, wsr, hwsr, hpr⟩ := pd_get' hpR f2
          have hkj : kss[j + 1]? = some (at_ kss (j + 1)) := by unfold at_; rw [List.getD_eq_getElem?_getD, List.getElem?_eq_getElem (by omega)]; rfl
          obtain ⟨wd2, hwd2, dd2, rfl, hdd2⟩ := pd_get' hpr hkj
          have hkl : (at_ kss (j + 1)).length ≤ 400 := Nat.le_trans (SF.nd_sub (f5 _ (List.mem_of_getElem? hkj)) fun z hz => live_defs hW ((f4 (j + 1) (by omega) z).mp hz)) S.defs
          refine q_asgD (ed_dict (ev_ixL (ev_ixL (ev_fld (ev_var rfl) LD.ob TL.cl TL.n4 (lf4 _ _ _ _)) hwR (ev_var rfl) (atI_nat (j := i) hwr)) hwsr (ev_is (ev_op (ev_var rfl) ev_c rv_I0) (show V.int ((j : Nat) + 1) = V.int ((j + 1 : Nat) : Int) from rfl)) (atI_nat (j := j + 1) hwd2)) hdd2) fun kd2 HE hkd2 eE hE => ?_
          have hkd20 : H kd2 = none := fresh_back e0D hkd2
          refine q_dput (kk := Sum.inr nm) hE ev_c (ev_var rfl) (ev_var rfl) (by rw [List.length_map]; omega) fun HF eF => ?_
          rw [put_dkT]
          have eDF := eD.trans (eE.trans eF)
          have e0F : Ex H (upd HF kd2 (.dK (dkT (insK (at_ kss (j + 1)) nm)))) := ex_upd e0D hkd20 (eE.trans eF)
          have nlk2 : l ≠ kd2 := ne_of_none (eD _ _ (eC _ _ hlB)) hkd2
          have hlF : upd HF kd2 (.dK (dkT (insK (at_ kss (j + 1)) nm))) l = some (.lst wsA) := by rw [upd_ne nlk2]; exact eDF _ _ (eC _ _ hlB)
          have tBF : TX HB (upd HF kd2 (.dK (dkT (insK (at_ kss (j + 1)) nm)))) := (tx (eC.trans eDF)).trans (tx_of (eF _ _ hE) fun _ z => by cases z)
          have hkF : upd HF kd2 (.dK (dkT (insK (at_ kss (j + 1)) nm))) kd2 = some (.dK (dkT (insK (at_ kss (j + 1)) nm))) := upd_same
          generalize upd HF kd2 (.dK (dkT (insK (at_ kss (j + 1)) nm))) = HG at e0F hlF tBF hkF
          have hfe2 : ((defsP G).filter fun x => decide (x ∈ insK (at_ kss (j + 1)) nm)) = pset G i (j + 1) := by
            unfold pset
            refine List.filter_congr fun z _ => decide_eq_decide.mpr ?_
            rw [mem_insK, f4 (j + 1) (by omega), insetS hB hr0 hnm]
            exact ⟨fun h => h.elim .inr .inl, fun h => h.elim .inr .inl⟩
          refine s_appR (D := { nx := _, rt := _, bk := _, ct := _ }) (Rv := fun H v => SetAt H v (pset G i (j + 1), [nm])) hlF (ev_var rfl) (by rw [← hfe2]; exact er_pair (eu_told (ev_var rfl) (ev_var rfl) (L.mono e0F) S hkF) (ew_new (eu_tup (ea1 (ev_var rfl)) (by show 1 ≤ 100000; decide)))) (by omega) fun sv2 HI eI hsv2 => ?_
          have tI : TX HI (upd HI l (.lst (wsA ++ [sv2]))) := tx_of (eI _ _ hlF) fun _ z => by cases z
          refine ⟨⟨_, _, _, _, rfl⟩, ex_upd e0F hl0 eI, _, upd_same, ?_⟩
          rw [bsetsTo_succ, hr0, ← List.append_assoc]
          show Paired _ _ (_ ++ ((dby r).map fun n => (pset G i (j + 1), [n])).toList)
          rw [hnm]
          exact pd_snoc (Paired.mapP pB fun v b q => mono_set _ _ _ _ (tBF.trans ((tx eI).trans tI)) q) (mono_set _ _ _ _ tI hsv2)
        · have hnm : dby r = none := Option.not_isSome_iff_eq_none.mp (by rw [hb]; exact Bool.false_ne_true)
          refine ⟨⟨_, _, _, _, rfl⟩, e0C.trans eD, wsA, eD _ _ (eC _ _ hlB), ?_⟩
          rw [bsetsTo_succ, hr0]
          show Paired _ _ (setsTo G i ++ (bsetsTo G i B0 j ++ ((dby r).map fun n => (pset G i (j + 1), [n])).toList))
          rw [hnm]
          simp only [Option.map_none, Option.toList_none, List.append_nil]
          exact Paired.mapP pB fun v b q => mono_set.e _ _ _ _ (eC.trans eD) q
      · rintro σ' HA ⟨⟨o7, o8, o9, o10, rfl⟩, eA, wsA, hlA, hpA⟩
        refine ⟨⟨_, _, _, _, _, _, _, _, _, rfl⟩, eA, wsA, hlA, ?_⟩
        rw [sets_succ, bsetsO_at hB]
        rw [hil] at hpA
        exact hpA
    · rintro σ' H' ⟨⟨o2, o3, o4, o5, o6, o7, o8, o9, o10, rfl⟩, e2, ws, h2, h3⟩
      rw [hlen] at h3
      exact s_ret (ev_var rfl) fun H3 e3 => k l H3 ws hl (e2.trans e3) (e3 _ _ h2) (Paired.mapP h3 fun v b q => mono_set.e _ _ _ _ e3 q)
end
end Sh
end

section
set_option Elab.async false
set_option linter.all false
set_option maxRecDepth 100000
set_option maxHeartbeats 4000000
/-! Walks: definition_sets, pressure. -/
namespace Sh
open PySem PySem.Spec PyProof.Rows L2 Evl Classical
open SF (WF)
section
variable {P : Program} {w : World} {K : PySem.W.Frag} {mg : Str → Option Value} {base : Heap} {f C : Addr} {fd : FuncData} {σ : L2.St} {H : Hp} {g : TG} {tu tz : TS} {D : Ends} {ta tb te tl td tv : TE} {tr : TA} {tt : TT} {α β : Type} {R : Hp → V → α → Prop} {R2 : Hp → V → β → Prop} {bs : List α}
theorem lc_pd {J : It} {n : Nat} {Gk : Hp → Prop} {vs : List Nat} {ws : List V} {H1 : Hp} {D : Addr} {Qd : Hp → Prop} (w : Walk J ws.length Gk (YAt ws)) (hD : H1 D = none) (mR : MonoE R) (m2 : MonoT R2) (pd : Paired (R H1) ws bs) (hn : bs.length ≤ 40000) (out : α → Option β) (hG : ∀ H', Ex H1 H' → Gk H')
    (hs : ∀ x b H', Ex H1 H' → R H' x b → b ∈ bs → ∀ C : L2.St → Hp → Prop, (∀ σ2 H2, wipe σ2 vs = wipe σ vs → Ex H' H2 → EvT tt σ2 H2 (out b).isSome → (∀ c, out b = some c → EvR (fun H y => R2 H y c) te σ2 H2) → C σ2 H2) → g x (wipe σ vs) H' C)
    (hd : ∀ H' us, Ex H1 H' → H' D = some (.lst us) → Paired (R2 H') us (bs.filterMap out) → Qd H') :
    ∃ W : Nat → Nat → Hp → Prop, (∃ m, W 0 m (upd H1 D (.lst []))) ∧ ∀ i m H, W i m H →
      (J.stop i H ∧ Qd H) ∨ (J.go i H ∧ ∃ Nx : Hp → Prop, (∀ H', Nx H' → ∃ m', m' < m ∧ W (i + 1) m' H') ∧ ∀ x H', J.yld i H x H' → g x (wipe σ vs) H' fun σ2 H2 => wipe σ2 vs = wipe σ vs ∧ tt σ2 H2 fun b H3 =>
        if b = true then te σ2 H3 fun y H4 => ∃ acc, H4 D = some (.lst acc) ∧ acc.length < sizeLine ∧ Nx (upd H4 D (.lst (acc ++ [y]))) else Nx H3) := by
  have hl := pd_len pd
  refine lc_rel w hD (by omega) R2 (fun i => bs[i]?.bind out) hG (fun Ha Hb v b hw e => m2 _ _ _ _ (exb_tx hw e)) ?_ ?_
  · rintro i x H' H'' hi e3 _ ⟨rfl, hx⟩ C c
    obtain ⟨b, hb, hr⟩ := pd_get pd hx
    rw [hb] at c
    exact hs x b _ e3 (mR _ _ _ _ e3 hr) (List.mem_of_getElem? hb) C c
  · intro H' us e3 h1 h2
    rw [hl, fm_list] at h2
    exact hd H' us e3 h1 h2
/-- [.. for .. in e], e a new list -/
theorem elp_lcP {vs : List Nat} (mR : MonoE R) (m2 : MonoT R2) (h : EvLP R tl σ H bs) (hn : bs.length ≤ 40000) (out : α → Option β)
    (hs : ∀ x b H', Ex H H' → R H' x b → b ∈ bs → ∀ C : L2.St → Hp → Prop, (∀ σ2 H2, wipe σ2 vs = wipe σ vs → Ex H' H2 → EvT tt σ2 H2 (out b).isSome → (∀ c, out b = some c → EvR (fun H y => R2 H y c) te σ2 H2) → C σ2 H2) → g x (wipe σ vs) H' C) :
    EvLP R2 (tLc (iList K tl) g tt te vs) σ H (bs.filterMap out) := fun H1 e Q q => h H1 e _ fun p H2 ws hp e2 hw pd => ⟨p, rfl, ⟨ws, sq_of hw⟩, fun D hD =>
  lc_pd (n := ws.length) (walk_list (K := K)) hD mR m2 pd hn out (fun H' e => sq_of (e _ _ hw)) (fun x b H' e3 => hs x b H' (e.trans (e2.trans e3))) fun H' us e3 h1 h2 => q D H' us (fresh_back e2 hD) (e2.trans e3) h1 h2⟩
/-- .. e a new tuple -/
theorem elp_lcUP {vs : List Nat} (mR : MonoE R) (m2 : MonoT R2) (h : EvUP R tl σ H bs) (hn : bs.length ≤ 40000) (out : α → Option β)
    (hs : ∀ x b H', Ex H H' → R H' x b → b ∈ bs → ∀ C : L2.St → Hp → Prop, (∀ σ2 H2, wipe σ2 vs = wipe σ vs → Ex H' H2 → EvT tt σ2 H2 (out b).isSome → (∀ c, out b = some c → EvR (fun H y => R2 H y c) te σ2 H2) → C σ2 H2) → g x (wipe σ vs) H' C) :
    EvLP R2 (tLc (iTup K tl) g tt te vs) σ H (bs.filterMap out) := fun H1 e Q q => h H1 e _ fun p H2 ws hp e2 hw pd => ⟨p, rfl, ⟨ws, st_of hw⟩, fun D hD =>
  lc_pd (n := ws.length) (walk_tup (K := K)) hD mR m2 pd hn out (fun H' e => st_of (e _ _ hw)) (fun x b H' e3 => hs x b H' (e.trans (e2.trans e3))) fun H' us e3 h1 h2 => q D H' us (fresh_back e2 hD) (e2.trans e3) h1 h2⟩
theorem elp_sets {v : V} {G : List PB} (h : Ev ta σ H v) (hP : ProgAt H v G) (S : Small G) (hW : WF (toPg G)) : EvLP SetAt (tMeth C "sets" (spSets C) [] E0 (tMake C (spInit C) [] E0 (tCons ta tNil)) tNil) σ H (setsP G) := fun H1 e Q q => h H1 e _ fun H2 e2 => by
  intro x dx hx hdx hne
  have eN : Ex H2 (upd (upd H2 dx (.own x)) x (.ins C dx [])) := fun b o hb => by rw [upd_ne (ne_of_none hb hx), upd_ne (ne_of_none hb hdx)]; exact hb
  refine ⟨x, dx, v, G, rfl, upd_same, hP.mono (tx (e.trans (e2.trans eN))), S, hW, fun H3 ord lI lR I Rw xe L LP hF => ⟨rfl, ?_⟩⟩
  have e23 : Ex H2 H3 := fun b o hb => xe b o (ne_of_none hb hx) (eN _ _ hb)
  exact ⟨x, dx, _, rfl, L.ob, by rfl, x, dx, ord, lI, lR, v, G, I, Rw, rfl, L, hP.mono (tx (e.trans (e2.trans e23))), S, hW, LP, hF, fun p H4 ws hp e4 h4 h5 => q p H4 ws (fresh_back (e2.trans e23) hp) ((e2.trans e23).trans e4) h4 h5⟩
theorem fm_some {α β : Type} (f : α → β) (l : List α) : l.filterMap (fun x => some (f x)) = l.map f := by
  rw [List.filterMap_eq_map']
noncomputable def dsets (G : List PB) : List (List Str) := (setsP G).map (·.1)
def spDsets : Sp := fun vs H Q _ => ∃ v G, vs = [v] ∧ ProgAt H v G ∧ Small G ∧ WF (toPg G) ∧ ∀ p H' ws, H p = none → Ex H H' → H' p = some (.tup ws) → Paired (StrsAt H') ws (dsets G) → Q (.ref p) H'
theorem sets_len {G : List PB} (S : Small G) : (setsP G).length ≤ 210 := by
  have h1 := setsTo_len S G.length (Nat.le_refl _)
  have h2 := S.len
  unfold setsP
  omega
abbrev s_definition_sets : Stmt := top 12
abbrev n_definition_sets : List Str := ["program", "names", "_"]
theorem sc_definition_sets : FnScope ["program", "names", "_"] ["program"] (defScope s_definition_sets) := ⟨rfl, rfl, rfl, by decide +kernel, rfl, by decide +kernel, by decide +kernel⟩
theorem ok_definition_sets {fi fs : Addr} {fdi fds : FuncData} (F : FnP K "definition_sets" "definition_sets" s_definition_sets f fd) (B : Blt mg) (TL : TxL K C) (MLiving : Mk K C fi) (GLiving : FnOk P w K mg base CX0 5 fi fdi ["self", "program"] (spInit C)) (MGL : mg "Living" = some (.ref C)) (BL : Binds K fdi ["self", "program"] [])
    (M_sets : Meth K C "sets" fs) (G_sets : FnOk P w K mg base CX0 2 fs fds ["self"] (spSets C)) (B_sets : Binds K fds ["self"] []) : FnOk P w K mg base CX0 7 f fd ["program"] spDsets := by
  refine F.ok sc_definition_sets (fun vs H Q E h => ?_) (fun cdv A outer s H vs Q E hr h => ⟨_, PSs.nox ((pss_one (ps_ret (pe_callTy call_tuple_of (by rfl) B.tuple (by decide +kernel) (pa_cons (pe_lc (own := [("names", 1), ("_", 2)]) (g := (gTup K 2 (gCons (gName 1) (gCons (gName 2) gNil)))) rfl sc_definition_sets.nd (pi_list (pe_meth0 (pe_make MLiving GLiving (hr.mono (by decide)) (by rfl) MGL BL .nil pass0 (pa_cons (pv 0) pa_nil)) TL.cl M_sets G_sets (hr.mono (by decide)) B_sets .nil pass0)) (blkOk_by (own := [("names", 1), ("_", 2)]) (N := ["program", "names", "_"]) (sc := (defScope s_definition_sets)) (by decide +kernel)) (fun _ _ _ _ _ => (pg_tupK (K := K) rfl rfl (pgs_cons (pg_name (i := 1) sc_definition_sets.nd rfl (Or.inl rfl)) (pgs_cons (pg_name (i := 2) sc_definition_sets.nd rfl (Or.inl rfl)) pgs_nil)))) (fun _ _ _ _ _ => pts_nil) (fun _ _ _ _ _ => (pv 1))) pa_nil))))), ?_⟩)
  · obtain ⟨v, G, rfl, _⟩ := h
    rfl
  · obtain ⟨v, G, rfl, hP, S, hW, k⟩ := h
    have hsl := sets_len S
    have hc : EvLP StrsAt (tLc (iList K (tMeth C "sets" (spSets C) [] E0 (tMake C (spInit C) [] E0 (tCons (tVar 0) tNil)) tNil)) (gTup K 2 (gCons (gName 1) (gCons (gName 2) gNil))) tYes (tVar 1) [1, 2]) (start n_definition_sets [v]) H (dsets G) := by
      unfold dsets
      rw [← fm_some]
      refine elp_lcP mono_set.e mono_strs (elp_sets (ev_var rfl) hP S hW) (by omega) (fun e => some e.1) ?_
      rintro x ⟨ns, ds⟩ H' e3 ⟨vn, vd, ⟨t, rfl, ht⟩, hn, hd⟩ hm Cc c
      refine g_tup2 ht (c _ _ rfl (Ex.refl _) et_yes fun c hc => ?_)
      cases hc
      exact evr (ev_var rfl) fun H2 e2 => hn.mono (tx e2)
    exact s_retUP (eup_tuple mono_strs.e hc) fun p H1 ws hp e1 h1 h2 => k p H1 ws hp e1 h1 h2
theorem eup_dsets {v : V} {G : List PB} (h : Ev ta σ H v) (hP : ProgAt H v G) (S : Small G) (hW : WF (toPg G)) : EvUP StrsAt (tCall spDsets [] E0 (tCons ta tNil)) σ H (dsets G) := fun H1 e Q q => h H1 e _ fun H2 e2 =>
  ⟨v, G, rfl, hP.mono (tx (e.trans e2)), S, hW, fun p H3 ws hp e3 h3 h4 => q p H3 ws (fresh_back e2 hp) (e2.trans e3) h3 h4⟩
def spPress : Sp := fun vs H Q _ => ∃ v G, vs = [v] ∧ ProgAt H v G ∧ Small G ∧ WF (toPg G) ∧ ∀ H' (m : Int), Ex H H' → (∀ ns ∈ dsets G, ((ns.length : Nat) : Int) ≤ m) → Q (.int m) H'
abbrev s_pressure : Stmt := top 13
abbrev n_pressure : List Str := ["program", "names"]
theorem sc_pressure : FnScope ["program", "names"] ["program"] (defScope s_pressure) := ⟨rfl, rfl, rfl, by decide +kernel, rfl, by decide +kernel, by decide +kernel⟩
theorem ok_pressure (F : FnP K "pressure" "pressure" s_pressure f fd) (B : Blt mg) (C_definition_sets : Cal P w K mg base "definition_sets" 7 ["program"] spDsets) : FnOk P w K mg base CX0 8 f fd ["program"] spPress := by
  refine F.ok sc_pressure (fun vs H Q E h => ?_) (fun cdv A outer s H vs Q E hr h => ⟨_, PSs.nox ((pss_one (ps_ret (pe_callB (cr_max rfl) (by rfl) B.max (by decide +kernel) (pa_cons (pe_op op_cat (pe_lst (pa_cons pe_int pa_nil)) (pe_lc (own := [("names", 1)]) (g := (gName 1)) rfl sc_pressure.nd (pi_tup (pe_cal C_definition_sets (hr.mono (by decide)) (by rfl) (pa_cons (pv 0) pa_nil))) (blkOk_by (own := [("names", 1)]) (N := ["program", "names"]) (sc := (defScope s_pressure)) (by decide +kernel)) (fun _ _ _ _ _ => (pg_name (i := 1) sc_pressure.nd rfl (Or.inl rfl))) (fun _ _ _ _ _ => pts_nil) (fun _ _ _ _ _ => (pe_callB (call_lenK (K := K) rfl) (by rfl) B.len PySem.boot_len (pa_cons (pv 1) pa_nil))))) pa_nil))))), ?_⟩)
  · obtain ⟨v, G, rfl, _⟩ := h
    rfl
  · obtain ⟨v, G, rfl, hP, S, hW, k⟩ := h
    have hsl := sets_len S
    have hdl : (dsets G).length ≤ 210 := by unfold dsets; rw [List.length_map]; exact hsl
    have hc : EvLP (fun _ v b => v = intV b) (tLc (iTup K (tCall spDsets [] E0 (tCons (tVar 0) tNil))) (gName 1) tYes (tCB (rLenS K) (tCons (tVar 1) tNil)) [1]) (start n_pressure [v]) H ((dsets G).map (·.length)) := by
      rw [← fm_some]
      refine elp_lcUP mono_strs.e mono_eq (eup_dsets (ev_var rfl) hP S hW) (by omega) (fun e => some e.length) ?_
      rintro x ns H' e3 ⟨t, rfl, ht⟩ hm Cc c
      refine c _ _ rfl (Ex.refl _) et_yes fun c hc => ?_
      cases hc
      have := ev_lenT (K := K) (ta := tVar 1) (σ := (wipe (start n_pressure [v]) [1]).set 1 (some (.ref t))) (ev_var rfl) ht
      rw [List.length_map] at this
      exact evr_eq this
    have hl := el_of hc
    refine ⟨by show 1 ≤ sizeLine; decide, fun p0 hp0 => ?_⟩
    refine hl _ (Ex.new hp0) _ fun p H2 hp e2 h2 => ?_
    refine ⟨p0, p, [intV 0], ((dsets G).map (·.length)).map intV, rfl, rfl, e2 _ _ upd_same, h2, sz_of (by simp only [List.length_map, List.length_cons, List.length_nil]; omega), fun r hr => ?_⟩
    refine ⟨r, 0 :: ((dsets G).map fun ns => ((ns.length : Nat) : Int)), rfl, sq_of (by rw [upd_same, List.map_map]; simp [intV, Function.comp_def]), by simp, fun m _ hmax => ?_⟩
    refine k _ m ((Ex.new hp0).trans (e2.trans (Ex.new hr))) fun ns hns => hmax _ (List.mem_cons_of_mem _ (List.mem_map.mpr ⟨ns, hns, rfl⟩))
end
end Sh
end

section
set_option Elab.async false
set_option linter.all false
set_option maxRecDepth 100000
set_option maxHeartbeats 4000000
/-! Walks: weights, least_weight. -/
namespace Sh
open PySem PySem.Spec PyProof.Rows L2 Evl Classical
open SF (WF)
/-- each of ys has a number -/
def NumD (kvs : List (Key × V)) (ys : List Str) : Prop := kvs.length ≤ 1000 ∧ ∀ y ∈ ys, ∃ i : Int, valV kvs (Sum.inr y) = some (.int i)
theorem put_in {kvs : List (Key × V)} {k : Key} {v : V} (h : (valV kvs k).isSome = true) : (putK kvs k v).length = kvs.length := by
  unfold putK
  rw [if_pos (by rw [valV_any]; exact h), List.length_map]
theorem put_le (kvs : List (Key × V)) (k : Key) (v : V) : (putK kvs k v).length ≤ kvs.length + 1 := by
  unfold putK
  split
  · rw [List.length_map]; omega
  · rw [List.length_append]; simp
theorem NumD.put {kvs : List (Key × V)} {ys : List Str} (h : NumD kvs ys) {y : Str} (hy : y ∈ ys) (i : Int) : NumD (putK kvs (Sum.inr y) (.int i)) ys := by
  obtain ⟨j, hj⟩ := h.2 y hy
  refine ⟨by rw [put_in (by rw [hj]; rfl)]; exact h.1, fun z hz => ?_⟩
  rw [valV_put]
  by_cases e : (Sum.inr z : Key) = Sum.inr y
  · rw [if_pos e]; exact ⟨i, rfl⟩
  · rw [if_neg e]; exact h.2 z hz
theorem dby_defs {G : List PB} {b : Nat} {B : PB} (hB : G[b]? = some B) {r : Row} (hr : r ∈ B.ins) {n : Str} (hn : dby r = some n) : n ∈ defsP G := by
  unfold defsP
  refine List.mem_flatten.mpr ⟨_, List.mem_map.mpr ⟨B, List.mem_of_getElem? hB, rfl⟩, ?_⟩
  exact List.mem_append_right _ (List.mem_filterMap.mpr ⟨r, hr, hn⟩)
theorem par_defs {G : List PB} {b : Nat} {B : PB} (hB : G[b]? = some B) {n : Str} (hn : n ∈ B.params) : n ∈ defsP G := by
  unfold defsP
  exact List.mem_flatten.mpr ⟨_, List.mem_map.mpr ⟨B, List.mem_of_getElem? hB, rfl⟩, List.mem_append_left _ hn⟩
theorem avail_defs {G : List PB} {b k : Nat} {x : Str} (h : SF.Avail (toPg G) b k x) : x ∈ defsP G := by
  rw [defsP_eq, SF.mem_defs]
  obtain ⟨e, j, hD, _⟩ := h
  exact ⟨e, j, hD⟩
theorem uses_defs {G : List PB} (W : WF (toPg G)) {b : Nat} {B : PB} (hB : G[b]? = some B) {r : Row} (hr : r ∈ B.ins ++ [B.fin]) : ∀ x ∈ uses r, x ∈ defsP G := by
  intro x hx
  rcases List.mem_append.mp hr with h | h
  · obtain ⟨k, hk, e⟩ := List.getElem_of_mem h
    have hk2 : B.ins[k]? = some r := by rw [List.getElem?_eq_getElem hk, e]
    exact avail_defs (W.useI b _ k _ _ (pg_at hB) (bk_ins hk2) x hx)
  · rw [List.mem_singleton.mp h] at hx
    exact avail_defs (W.useF b _ (pg_at hB) x hx)
def spWeights : Sp := fun vs H Q _ => ∃ v G, vs = [v] ∧ ProgAt H v G ∧ Small G ∧ WF (toPg G) ∧ ∀ p H' kvs, H p = none → Ex H H' → H' p = some (.dK kvs) → NumD kvs (defsP G) → Q (.ref p) H'
section
variable {P : Program} {w : World} {K : PySem.W.Frag} {mg : Str → Option Value} {base : Heap} {f C : Addr} {fd : FuncData} {σ : L2.St} {H : Hp} {g : TG} {tu tz : TS} {D : Ends} {ta tb te tl td tv ty : TE} {tr : TA} {tt : TT}
theorem eu_defs {v : V} {G : List PB} (h : Ev ta σ H v) (hP : ProgAt H v G) (S : Small G) : EvU (tCall spDefs [] E0 (tCons ta tNil)) σ H ((defsP G).map V.str) := fun H1 e Q q => h H1 e _ fun H2 e2 =>
  ⟨v, G, rfl, hP.mono (tx (e.trans e2)), S, fun p H3 hp e3 h3 => q p H3 (fresh_back e2 hp) (e2.trans e3) h3⟩
def rListS' (K : PySem.W.Frag) : List V → Hp → VK → Prop := fun xs H Q => ∃ p ys, xs = [.ref p] ∧ (SqL K H p ys ∨ SqT K H p ys) ∧ ∀ l, H l = none → Q (.ref l) (upd H l (.lst ys))
theorem el_listT {p : Addr} {xs : List V} (ha : Ev ta σ H (.ref p)) (h : H p = some (.tup xs)) : EvL (tCB (rListS' K) (tCons ta tNil)) σ H xs := fun H1 e Q q =>
  ha H1 e _ fun H2 e2 => ⟨p, xs, rfl, .inr (st_of ((e.trans e2) _ _ h)), fun l hl => q l _ (fresh_back e2 hl) (e2.trans (Ex.new hl)) upd_same⟩
theorem el_listL {p : Addr} {xs : List V} (ha : Ev ta σ H (.ref p)) (h : H p = some (.lst xs)) : EvL (tCB (rListS' K) (tCons ta tNil)) σ H xs := fun H1 e Q q =>
  ha H1 e _ fun H2 e2 => ⟨p, xs, rfl, .inl (sq_of ((e.trans e2) _ _ h)), fun l hl => q l _ (fresh_back e2 hl) (e2.trans (Ex.new hl)) upd_same⟩
theorem yes_then {A B : Hp → Prop} (h : A H) : tYes σ H (fun b H3 => if b = true then A H3 else B H3) := by
  show (if true = true then A H else B H)
  rw [if_pos rfl]
  exact h
theorem cb1 {r : List V → Hp → VK → Prop} {Q : VK} (h : te σ H fun v H1 => r [v] H1 Q) : tCB r (tCons te tNil) σ H Q := h
/-- d[y] += 1 -/
theorem s_daug1 {d : Addr} {kvs : List (Key × V)} {kk : Key} {i j : Int} (hd : H d = some (.dK kvs)) (hz : kvs.length < 100000) (ho : Ev td σ H (.ref d)) (hy : Ev ty σ H (kV kk)) (hv : valV kvs kk = some (.int i)) (he : Ev tv σ H (.int j)) (k : ∀ H1, Ex H H1 → D.nx σ (upd H1 d (.dK (putK kvs kk (.int (i + j)))))) : sDAug td ty tv rAdd D σ H :=
  ho H (Ex.refl H) _ fun H1 e1 => hy H1 e1 _ fun H2 e2 => ⟨d, .int i, rfl, hv ▸ DGet.k ((e1.trans e2) _ _ hd), he H2 (e1.trans e2) _ fun H3 e3 => ⟨i, j, rfl, rfl, _, DPut.k (((e1.trans e2).trans e3) _ _ hd) (sz_lt hz), k H3 ((e1.trans e2).trans e3)⟩⟩
abbrev s_weights : Stmt := top 15
abbrev n_weights : List Str := ["program", "name", "found", "_", "parameters", "instructions", "end", "named", "row"]
theorem sc_weights : FnScope ["program", "name", "found", "_", "parameters", "instructions", "end", "named", "row"] ["program"] (defScope s_weights) := ⟨rfl, rfl, rfl, by decide +kernel, rfl, by decide +kernel, by decide +kernel⟩
theorem ok_weights (F : FnP K "weights" "weights" s_weights f fd) (B : Blt mg) (C_definitions : Cal P w K mg base "definitions" 2 ["program"] spDefs) (C_defined_by : Cal P w K mg base "defined_by" 1 ["instruction"] spDby) (C_uses_of : Cal P w K mg base "uses_of" 1 ["row"] spUses) : FnOk P w K mg base CX0 3 f fd ["program"] spWeights := by
  refine F.ok sc_weights (fun vs H Q E h => ?_) (fun cdv A outer s H vs Q E hr h => ⟨_, PSs.nox ((pss_cons (ps_setDc (i := 2) (own := [("name", 1)]) (g := (gName 1)) rfl sc_weights.nd rfl rfl (swd_true rfl rfl rfl (by decide +kernel)) (pi_tup (pe_cal C_definitions (hr.mono (by decide)) (by rfl) (pa_cons (pv 0) pa_nil))) (blkOk_by (own := [("name", 1)]) (N := ["program", "name", "found", "_", "parameters", "instructions", "end", "named", "row"]) (sc := (defScope s_weights)) (by decide +kernel)) (fun _ _ _ _ _ => (pg_name (i := 1) sc_weights.nd rfl (Or.inl rfl))) (fun _ _ _ _ _ => pts_nil) (fun _ _ _ _ _ => (pv 1)) (fun _ _ _ _ _ => pe_int)) (pss_cons (ps_for PassesOwn.never rfl (pi_tup (pv 0)) (pg_tup (by rfl) (pgs_cons (pg_name (i := 3) sc_weights.nd rfl (Or.inl rfl)) (pgs_cons (pg_name (i := 4) sc_weights.nd rfl (Or.inl rfl)) (pgs_cons (pg_name (i := 5) sc_weights.nd rfl (Or.inl rfl)) (pgs_cons (pg_name (i := 6) sc_weights.nd rfl (Or.inl rfl)) pgs_nil))))) (pss_cons (ps_set (i := 7) sc_weights.nd rfl (Or.inl rfl) (pe_callTy call_list_of (by rfl) B.list (by decide +kernel) (pa_cons (pv 4) pa_nil))) (pss_cons (ps_for PassesOwn.never rfl (pi_tup (pe_op op_catA (pv 5) (pe_tup (pa_cons (pv 6) pa_nil)))) (pg_name (i := 8) sc_weights.nd rfl (Or.inl rfl)) (pss_cons (ps_expr (pe_bm PySem.F.plainAttrs_list PySem.F.slot_list_extend PySem.F.type_list_extend mt_extT (pv 7) (pa_cons (pe_cal C_uses_of (hr.mono (by decide)) (by rfl) (pa_cons (pv 8) pa_nil)) pa_nil))) (pss_one (ps_if (pt_cmpR op_notN (pe_cal C_defined_by (hr.mono (by decide)) (by rfl) (pa_cons (pv 8) pa_nil)) pe_non (nomark _)) (pss_one (ps_expr (pe_bm PySem.F.plainAttrs_list PySem.F.slot_list_append PySem.F.type_list_append mt_append (pv 7) (pa_cons (pe_cal C_defined_by (hr.mono (by decide)) (by rfl) (pa_cons (pv 8) pa_nil)) pa_nil)))) pss_nil)))) (pss_one (ps_for PassesOwn.never rfl (pi_list (pv 7)) (pg_name (i := 1) sc_weights.nd rfl (Or.inl rfl)) (pss_one (ps_daug (hu_of hr) (pv 2) (pv 1) pe_int in_add (fun _ _ _ => rfl)))))))) (pss_one (ps_ret (pv 2)))))), ?_⟩)
  · obtain ⟨v, G, rfl, _⟩ := h
    rfl
  · obtain ⟨v, G, rfl, hP, S, hW, k⟩ := h
    obtain ⟨xs, ⟨a, rfl, ha⟩, hp⟩ := id hP
    have hlen := pd_len hp
    have hG := S.len
    have hdl := S.defs
    refine q_raw ?_
    refine ei_tupW (K := K) (ew_new (eu_defs (σ := start n_weights [.ref a]) (ev_var (i := 0) rfl) hP S)) H (Ex.refl _) _ fun J Gk H1 e1 wk hGk d hd => ?_
    rw [List.length_map] at wk
    refine dc_it wk (fun i H' => Ex H1 H' ∧ ∃ kvs, H' d = some (.dK kvs) ∧ kvs.length ≤ i ∧ ∀ y ∈ (defsP G).take i, ∃ j : Int, valV kvs (Sum.inr y) = some (.int j)) ⟨Ex.new hd, [], upd_same, Nat.le_refl _, fun y hy => by simp at hy⟩ (fun i H' _ q => hGk H' q.1) ?_ ?_
    · rintro i x H' H'' hi ⟨e2, kvs, h1, h2, h3⟩ ⟨rfl, hx⟩
      rw [List.getElem?_map] at hx
      cases hy : (defsP G)[i]? with
      | none => rw [hy] at hx; cases hx
      | some y =>
        rw [hy] at hx
        have hx := Option.some.inj hx
        subst hx
        refine ⟨rfl, yes_then ⟨V.str y, rfl, ?_⟩⟩
        have e3 := Ex.refl H''
        refine ⟨kvs, Sum.inr y, rfl, e3 _ _ h1, sz_lt (by omega), Ex.mut (e2.trans e3) hd, _, upd_same, Nat.le_trans (put_le kvs (Sum.inr y) _) (by omega), fun z hz => ?_⟩
        rw [valV_put]
        by_cases e : (Sum.inr z : Key) = Sum.inr y
        · rw [if_pos e]; exact ⟨0, rfl⟩
        · rw [if_neg e]
          rw [take_succ hy] at hz
          rcases List.mem_append.mp hz with q | q
          · exact h3 z q
          · exact absurd (by rw [List.mem_singleton.mp q]) e
    · rintro H2 ⟨e2, kvs, h1, h2, h3⟩
      rw [List.take_length] at h3
      have N0 : NumD kvs (defsP G) := ⟨by omega, h3⟩
      have e02 : Ex H H2 := e1.trans e2
      have hd0 : H d = none := fresh_back e1 hd
      refine q_forT (a := a) (xs := xs) (ev_var rfl) (st_of (e02 _ _ ha)) (fun i σ' H' => (∃ o1 o3 o4 o5 o6 o7 o8, σ' = [some (.ref a), o1, some (.ref d), o3, o4, o5, o6, o7, o8]) ∧ Ex H H' ∧ ∃ kvs, H' d = some (.dK kvs) ∧ NumD kvs (defsP G))
        (fun H3 e3 => ⟨⟨none, none, none, none, none, none, none, rfl⟩, e02.trans e3, kvs, e3 _ _ h1, N0⟩) (fun i σ' H' _ q => st_of (q.2.1 _ _ ha)) ?_ ?_
      · rintro i y σ' H' hy ⟨⟨o1, o3, o4, o5, o6, o7, o8, rfl⟩, e3, kvs, h4, N⟩
        obtain ⟨B0, hB, hb⟩ := pd_get hp hy
        obtain ⟨vp, vi, vf, ⟨ab, rfl, hab⟩, ⟨ap, rfl, hap⟩, ⟨is, ⟨ai, rfl, hai⟩, hpi⟩, hfa⟩ := hb
        have hBm := List.mem_of_getElem? hB
        have hpar := S.par B0 hBm
        have hins := S.ins B0 hBm
        have hus := S.us B0 hBm
        have hil := pd_len hpi
        refine g_tup4 (e3 _ _ hab) ?_
        refine q_asgL (el_listT (K := K) (ev_var rfl) (e3 _ _ hap)) fun l H4 hl e4 hL => ?_
        have e04 := e3.trans e4
        have hl0 : H l = none := fresh_back e3 hl
        have ndl : d ≠ l := ne_of_none h4 hl
        refine q_forW (ew_cat (K := K) (ew_old (ev_var rfl) (e04 _ _ hai)) (ew_new (eu_tup (ea1 (ev_var rfl)) (by show 1 ≤ 100000; decide))) (by rw [List.length_singleton]; omega)) fun pr H5 e5 hpr => ?_
        have hprow : Paired (RowAt H) (is ++ [vf]) (B0.ins ++ [B0.fin]) := pd_snoc hpi hfa
        refine ⟨fun j σ' H' => (∃ o1 o8, σ' = [some (.ref a), o1, some (.ref d), some (.str B0.name), some (.ref ap), some (.ref ai), some vf, some (.ref l), o8]) ∧ Ex H H' ∧ H' pr = some (.tup (is ++ [vf])) ∧ H' d = some (.dK kvs) ∧ ∃ ns : List Str, H' l = some (.lst (ns.map V.str)) ∧ ns.length ≤ 20 + 51 * j ∧ ∀ x ∈ ns, x ∈ defsP G, ⟨⟨_, _, rfl⟩, e04.trans e5, hpr, (e4.trans e5) _ _ h4, B0.params, e5 _ _ hL, by omega, fun x hx => par_defs hB hx⟩, fun j σ' H' q => q.2.2.1, ?_, ?_⟩
        · rintro j vr σ' H' hvr ⟨⟨o1, o8, rfl⟩, f1, f2, f3, ns, f4, f5, f6⟩
          obtain ⟨r, hr0, hra⟩ := pd_get hprow hvr
          have hrm := List.mem_of_getElem? hr0
          have hjl : j < 21 := by
            have := (List.getElem?_eq_some_iff.mp hr0).1
            rw [List.length_append, List.length_singleton] at this
            omega
          have hul : (uses r).length ≤ 50 := hus r (by rcases List.mem_append.mp hrm with q | q; exact List.mem_cons_of_mem _ q; rw [List.mem_singleton.mp q]; exact List.mem_cons_self ..)
          have hud := uses_defs hW hB hrm
          refine q_extT f4 (ev_var rfl) (ew_uses (ev_var rfl) (hra.mono (tx f1)) (by omega)) (by simp only [List.length_map]; omega) fun H6 e6 => ?_
          have ex6 := ex_upd (o := .lst (ns.map V.str ++ (uses r).map V.str)) f1 hl0 e6
          have prl : pr ≠ l := ne_of f2 f4 (by intro z; cases z)
          have hd6 : upd H6 l (.lst (ns.map V.str ++ (uses r).map V.str)) d = some (.dK kvs) := by rw [upd_ne ndl]; exact e6 _ _ f3
          have hpr6 : upd H6 l (.lst (ns.map V.str ++ (uses r).map V.str)) pr = some (.tup (is ++ [vf])) := by rw [upd_ne prl]; exact e6 _ _ f2
          have hl6 : upd H6 l (.lst (ns.map V.str ++ (uses r).map V.str)) l = some (.lst ((ns ++ uses r).map V.str)) := by rw [upd_same, List.map_append]
          generalize upd H6 l (.lst (ns.map V.str ++ (uses r).map V.str)) = H7 at ex6 hd6 hpr6 hl6
          have hns2 : ∀ x ∈ ns ++ uses r, x ∈ defsP G := fun x hx => (List.mem_append.mp hx).elim (f6 x) (hud x)
          refine s_when (ev_some (ev_dby (ev_var rfl) (hra.mono (tx ex6)))) (fun hb H8 e8 => ?_) (fun hb H8 e8 => ?_)
          · obtain ⟨nm, hnm⟩ := Option.isSome_iff_exists.mp hb
            have hev : Ev (tCall spDby [] E0 (tCons (tVar 8) tNil)) [some (.ref a), o1, some (.ref d), some (.str B0.name), some (.ref ap), some (.ref ai), some vf, some (.ref l), some vr] H8 (.str nm) := by
              have := ev_dby (ta := tVar 8) (σ := [some (.ref a), o1, some (.ref d), some (.str B0.name), some (.ref ap), some (.ref ai), some vf, some (.ref l), some vr]) (ev_var rfl) (hra.mono (tx (ex6.trans e8)))
              rw [hnm] at this
              exact this
            have hnd : nm ∈ defsP G := by
              rcases List.mem_append.mp hrm with q | q
              · exact dby_defs hB q hnm
              · rw [List.mem_singleton.mp q, S.fd B0 hBm] at hnm
                cases hnm
            refine s_app (D := { nx := _, rt := _, bk := _, ct := _ }) (e8 _ _ hl6) (ev_var rfl) hev (by simp only [List.length_map, List.length_append]; omega) fun H9 e9 => ?_
            refine ⟨⟨_, _, rfl⟩, ex_upd ex6 hl0 (e8.trans e9), by rw [upd_ne prl]; exact (e8.trans e9) _ _ hpr6, by rw [upd_ne ndl]; exact (e8.trans e9) _ _ hd6, ns ++ uses r ++ [nm], by rw [upd_same, List.map_append (l₁ := ns ++ uses r)]; rfl, by simp only [List.length_append, List.length_singleton]; omega, fun x hx => ?_⟩
            rcases List.mem_append.mp hx with q | q
            · exact hns2 x q
            · rw [List.mem_singleton.mp q]; exact hnd
          · exact ⟨⟨_, _, rfl⟩, ex6.trans e8, e8 _ _ hpr6, e8 _ _ hd6, ns ++ uses r, e8 _ _ hl6, by rw [List.length_append]; omega, hns2⟩
        · rintro σ' H' ⟨⟨o1, o8, rfl⟩, f1, f2, f3, ns, f4, f5, f6⟩
          refine s_forL (D := { nx := _, rt := _, bk := _, ct := _ }) (a := l) (xs := ns.map V.str) (ev_var rfl) (sq_of f4) (fun j σ' H' => (∃ o1, σ' = [some (.ref a), o1, some (.ref d), some (.str B0.name), some (.ref ap), some (.ref ai), some vf, some (.ref l), o8]) ∧ Ex H H' ∧ H' l = some (.lst (ns.map V.str)) ∧ ∃ kvs, H' d = some (.dK kvs) ∧ NumD kvs (defsP G)) (fun H6 e6 => ⟨⟨_, rfl⟩, f1.trans e6, e6 _ _ f4, kvs, e6 _ _ f3, N⟩) (fun j σ' H' _ q => sq_of q.2.2.1) ?_ ?_
          · rintro j y σ' H6 hy ⟨⟨o1, rfl⟩, g1, g2, kvs, g3, N6⟩
            rw [List.getElem?_map] at hy
            cases hn : ns[j]? with
            | none => rw [hn] at hy; cases hy
            | some nm =>
              rw [hn] at hy
              have hy := Option.some.inj hy
              subst hy
              have hnd := f6 nm (List.mem_of_getElem? hn)
              obtain ⟨iv, hiv⟩ := N6.2 nm hnd
              refine s_daug1 (D := { nx := _, rt := _, bk := _, ct := _ }) (kk := Sum.inr nm) g3 (by have := N6.1; omega) (ev_var rfl) (ev_var rfl) hiv ev_c fun H7 e7 => ?_
              exact ⟨⟨_, rfl⟩, ex_upd g1 hd0 e7, by rw [upd_ne ndl.symm]; exact e7 _ _ g2, _, upd_same, N6.put hnd _⟩
          · rintro σ' H6 ⟨⟨o1, rfl⟩, g1, g2, kvs, g3, N6⟩
            exact ⟨⟨_, _, _, _, _, _, _, rfl⟩, g1, kvs, g3, N6⟩
      · rintro σ' H' ⟨⟨o1, o3, o4, o5, o6, o7, o8, rfl⟩, e3, kvs, h4, N⟩
        exact s_ret (ev_var rfl) fun H4 e4 => k d H4 kvs hd0 (e3.trans e4) (e4 _ _ h4) N
/-- least_weight(names, weight): one of the names -/
def spLeast : Sp := fun vs H Q _ => ∃ (a d : Addr) (ns : List Str) (kvs : List (Key × V)), vs = [.ref a, .ref d] ∧ H a = some (.lst (ns.map V.str)) ∧ ns ≠ [] ∧ ns.length ≤ 1000 ∧ H d = some (.dK kvs) ∧ NumD kvs ns ∧ ∀ H' x, Ex H H' → x ∈ ns → Q (.str x) H'
def rMinS (K : PySem.W.Frag) : List V → Hp → VK → Prop := fun vs H Q => ∃ (a : Addr) (ns : List Int), vs = [V.ref a] ∧ SqL K H a (ns.map V.int) ∧ 0 < ns.length ∧ ∀ m, m ∈ ns → (∀ y, y ∈ ns → m ≤ y) → Q (.int m) H
abbrev s_least_weight : Stmt := top 16
abbrev n_least_weight : List Str := ["names", "weight", "least", "name"]
theorem sc_least_weight : FnScope ["names", "weight", "least", "name"] ["names", "weight"] (defScope s_least_weight) := ⟨rfl, rfl, rfl, by decide +kernel, rfl, by decide +kernel, by decide +kernel⟩
theorem ok_least_weight (F : FnP K "least_weight" "least_weight" s_least_weight f fd) (B : Blt mg) : FnOk P w K mg base CX0 1 f fd ["names", "weight"] spLeast := by
  refine F.ok sc_least_weight (fun vs H Q E h => ?_) (fun cdv A outer s H vs Q E hr h => ⟨_, PSs.nox ((pss_cons (ps_set (i := 2) sc_least_weight.nd rfl (Or.inr rfl) (pe_callB (cr_min rfl) (by rfl) B.min (by decide +kernel) (pa_cons (pe_lc (own := [("name", 3)]) (g := (gName 3)) rfl sc_least_weight.nd (pi_list (pv 0)) (blkOk_by (own := [("name", 3)]) (N := ["names", "weight", "least", "name"]) (sc := (defScope s_least_weight)) (by decide +kernel)) (fun _ _ _ _ _ => (pg_name (i := 3) sc_least_weight.nd rfl (Or.inl rfl))) (fun _ _ _ _ _ => pts_nil) (fun _ _ _ _ _ => (pe_dget (hu_of hr) (pv 1) (pv 3) (fun _ _ => rfl)))) pa_nil))) (pss_one (ps_ret (pe_ix ix_list (pe_lc (own := [("name", 3)]) (g := (gName 3)) rfl sc_least_weight.nd (pi_list (pv 0)) (blkOk_by (own := [("name", 3)]) (N := ["names", "weight", "least", "name"]) (sc := (defScope s_least_weight)) (by decide +kernel)) (fun _ _ _ _ _ => (pg_name (i := 3) sc_least_weight.nd rfl (Or.inl rfl))) (fun _ _ _ _ _ => pts_one (pt_cmpR op_eq (pe_dget (hu_of hr) (pv 1) (pv 3) (fun _ _ => rfl)) (pv 2) (nomark _))) (fun _ _ _ _ _ => (pv 3))) pe_int (fun _ _ => rfl)))))), ?_⟩)
  · obtain ⟨a, d, ns, kvs, rfl, _⟩ := h
    rfl
  · obtain ⟨a, d, ns, kvs, rfl, ha, hne, hnl, hd, N, k⟩ := h
    let wt : Str → Int := fun y => match valV kvs (Sum.inr y) with
      | some (.int i) => i
      | _ => 0
    have hwt : ∀ y ∈ ns, valV kvs (Sum.inr y) = some (.int (wt y)) := fun y hy => by
      obtain ⟨i, hi⟩ := N.2 y hy
      show _ = some (V.int (match valV kvs (Sum.inr y) with | some (.int i) => i | _ => 0))
      rw [hi]
    have hm : EvLP (fun _ v b => v = V.int b) (tLc (iList K (tVar 0)) (gName 3) tYes (tDGet (tVar 1) (tVar 3)) [3]) (start n_least_weight [.ref a, .ref d]) H (ns.map wt) := by
      have h := elp_lcn (R := fun _ v b => v = V.int b) (t := tYes) (te := tDGet (tVar 1) (tVar 3)) (σ := start n_least_weight [.ref a, .ref d]) (vs := [3]) (j := 3) mono_eq (ei_map (ei_lst (K := K) (ev_var (i := 0) rfl) ha)) (by omega) (fun i => ns[i]?.bind fun y => some (wt y)) (fun _ => rfl) (fun i H' x H'' y => y.1) (fun i x H' hi e y => ?_) (fun i x b H' hi e y hb => ?_)
      · rw [fm_list, fm_some] at h
        exact h
      · rw [List.getElem?_eq_getElem hi]
        exact et_yes
      · have y2 := y.2
        rw [List.getElem?_map] at y2
        cases hy : ns[i]? with
        | none => rw [hy] at y2; cases y2
        | some z =>
          rw [hy] at y2 hb
          have y2 := Option.some.inj y2
          subst y2
          cases hb
          exact evr_eq (ev_dget (k := Sum.inr z) (ev_var rfl) (ev_var rfl) (e _ _ hd) (hwt z (List.mem_of_getElem? hy)))
    refine q_raw (cb1 ?_)
    refine el_of hm H (Ex.refl _) _ fun p H1 hp e1 h1 => ⟨p, ns.map wt, rfl, sq_of h1, by rw [List.length_map]; exact List.length_pos_iff.mpr hne, fun m hmem _ => ?_⟩
    obtain ⟨y0, hy0, hm0⟩ := List.mem_map.mp hmem
    have hf : EvL (tLc (iList K (tVar 0)) (gName 3) (tTest (tOp rEq (tDGet (tVar 1) (tVar 3)) (tVar 2))) (tVar 3) [3]) ((start n_least_weight [.ref a, .ref d]).set 2 (some (.int m))) H1 ((ns.filter fun y => decide (wt y = m)).map V.str) := by
      refine el_filter _ (ei_map (ei_lst (ev_var rfl) (e1 _ _ ha))) (by omega) (fun _ => rfl) (fun _ => rfl) fun j y H2 hy e2 => ?_
      refine et_is (et_T (ev_op (ev_dget (k := Sum.inr y) (ev_var rfl) (ev_var rfl) ((e1.trans e2) _ _ hd) (hwt y (List.mem_of_getElem? hy))) (ev_var rfl) (rv_eq rfl))) ?_
      exact decide_eq_decide.mpr ⟨fun z => V.int.inj z, fun z => by rw [z]⟩
    obtain ⟨x, r, hxr⟩ : ∃ x r, (ns.filter fun y => decide (wt y = m)) = x :: r := by
      cases h : ns.filter fun y => decide (wt y = m) with
      | nil =>
        have : y0 ∈ ns.filter fun y => decide (wt y = m) := List.mem_filter.mpr ⟨hy0, decide_eq_true hm0⟩
        rw [h] at this
        cases this
      | cons x r => exact ⟨x, r, rfl⟩
    have hx : x ∈ ns := (List.mem_filter.mp (show x ∈ ns.filter fun y => decide (wt y = m) by rw [hxr]; exact List.mem_cons_self ..)).1
    rw [hxr] at hf
    exact s_ret (ev_ixN hf ev_c at0) fun H2 e2 => k H2 x (e1.trans e2) hx
end
end Sh
end

section
set_option Elab.async false
set_option linter.all false
set_option maxRecDepth 100000
set_option maxHeartbeats 4000000
/-! Walks: spill_some. -/
namespace Sh
open PySem PySem.Spec PyProof.Rows L2 Evl
/-- what stays of S -/
def stl (out S : List Str) : List Str := S.filter fun y => !decide (y ∈ out)
theorem mem_stl {out S : List Str} {y : Str} : y ∈ stl out S ↔ y ∈ S ∧ y ∉ out := by
  unfold stl
  rw [List.mem_filter]
  simp
theorem stl_mono {out out' S : List Str} (h : ∀ x ∈ out, x ∈ out') : (stl out' S).length ≤ (stl out S).length := SF.filter_len_le fun x _ hx => by
  have : ¬ x ∈ out' := by simpa using hx
  have : ¬ x ∈ out := fun z => this (h x z)
  simpa using this
theorem stl_erase {out S : List Str} (h : S.Nodup) (x : Str) : (stl out S).erase x = stl (out ++ [x]) S := by
  have hn : (stl out S).Nodup := List.Pairwise.filter _ h
  rw [List.Nodup.erase_eq_filter hn]
  unfold stl
  rw [List.filter_filter]
  refine List.filter_congr fun y _ => ?_
  by_cases e : y = x
  · subst e; simp
  · by_cases q : y ∈ out <;> simp [e, q]
theorem NumD.sub {kvs : List (Key × V)} {ys zs : List Str} (h : NumD kvs ys) (s : ∀ z ∈ zs, z ∈ ys) : NumD kvs zs := ⟨h.1, fun z hz => h.2 z (s z hz)⟩
/-- sets of names of all, each told apart -/
structure SetsOk (sets : List (List Str)) (all : List Str) : Prop where
  nd : ∀ S ∈ sets, S.Nodup
  sub : ∀ S ∈ sets, ∀ x ∈ S, x ∈ all
  len : sets.length ≤ 300
  al : all.length ≤ 400
theorem SetsOk.le {sets : List (List Str)} {all : List Str} (o : SetsOk sets all) : ∀ S ∈ sets, S.length ≤ 400 := fun S hS => Nat.le_trans (SF.nd_sub (o.nd S hS) (o.sub S hS)) o.al
def spSome : Sp := fun vs H Q _ => ∃ (a d : Addr) (xs : List V) (sets : List (List Str)) (kvs : List (Key × V)) (R : Nat) (all : List Str), vs = [.ref a, .ref d, intV R] ∧ H a = some (.lst xs) ∧ Paired (StrsAt H) xs sets ∧ SetsOk sets all ∧ H d = some (.dK kvs) ∧ NumD kvs all ∧
  ∀ p H' (out : List Str), H p = none → Ex H H' → H' p = some (.lst (out.map V.str)) → out.Nodup → (∀ x ∈ out, x ∈ all) → (∀ S ∈ sets, (stl out S).length ≤ R) → Q (.ref p) H'
section
variable {P : Program} {w : World} {K : PySem.W.Frag} {mg : Str → Option Value} {base : Heap} {f C : Addr} {fd : FuncData} {σ : L2.St} {H : Hp} {g : TG} {tu tz : TS} {D : Ends} {ta tb te tl td tv ty : TE} {tr : TA} {tt : TT}
/-- a set's names that are not out -/
theorem el_stl {a lo : Addr} {S out : List Str} {vs : List Nat} {j i : Nat} (h : Ev tl σ H (.ref a)) (ha : H a = some (.tup (S.map V.str))) (hz : S.length ≤ 40000) (hw : ∀ x, wipe ((wipe σ vs).set j (some x)) vs = wipe σ vs) (hj : ∀ x, ((wipe σ vs).set j (some x))[j]? = some (some x)) (hi : ∀ x, ((wipe σ vs).set j (some x))[i]? = some (some (.ref lo))) (ho : H lo = some (.lst (out.map V.str))) :
    EvL (tLc (iTup K tl) (gName j) (tTest (tOp (rIn K true) (tVar j) (tVar i))) (tVar j) vs) σ H ((stl out S).map V.str) := by
  refine el_filter (fun y => !decide (y ∈ out)) (ei_map (ei_tup h ha)) hz hw hj fun k y H1 hy e1 => ?_
  refine et_is (et_T (ev_op (ev_var (hj _)) (ev_var (hi _)) (rv_niL (sq_of (e1 _ _ ho)) rfl (flat_strs _)))) ?_
  rw [inV_eq]
theorem q_rem {l : Addr} {ys : List Str} {z : Str} (hl : H l = some (.lst (ys.map V.str))) (hz : z ∈ ys) (ha : Ev ta σ H (.ref l)) (h : Ev te σ H (.str z)) (k : ∀ H1, Ex H H1 → D.nx σ (upd H1 l (.lst ((ys.erase z).map V.str)))) :
    tDrop (tBM K "list" rRemS ta (tCons te tNil)) D σ H := ha H (Ex.refl H) _ fun H1 e1 =>
  ⟨.inl ⟨rfl, _, sq_of (e1 l _ hl)⟩, h H1 e1 _ fun H2 e2 => ⟨l, ys, z, rfl, rfl, e2 l _ (e1 l _ hl), hz, k H2 (e1.trans e2)⟩⟩
abbrev s_spill_some : Stmt := top 17
abbrev n_spill_some : List Str := ["sets", "weight", "registers", "out", "names", "name", "staying"]
theorem sc_spill_some : FnScope ["sets", "weight", "registers", "out", "names", "name", "staying"] ["sets", "weight", "registers"] (defScope s_spill_some) := ⟨rfl, rfl, rfl, by decide +kernel, rfl, by decide +kernel, by decide +kernel⟩
theorem ok_spill_some (F : FnP K "spill_some" "spill_some" s_spill_some f fd) (B : Blt mg) (C_least_weight : Cal P w K mg base "least_weight" 1 ["names", "weight"] spLeast) : FnOk P w K mg base CX0 2 f fd ["sets", "weight", "registers"] spSome := by
  refine F.ok sc_spill_some (fun vs H Q E h => ?_) (fun cdv A outer s H vs Q E hr h => ⟨_, PSs.nox ((pss_cons (ps_set (i := 3) sc_spill_some.nd rfl (Or.inr rfl) (pe_lst pa_nil)) (pss_cons (ps_for PassesOwn.never rfl (pi_list (pv 0)) (pg_name (i := 4) sc_spill_some.nd rfl (Or.inl rfl)) (pss_cons (ps_setLc (i := 6) (own := [("name", 5)]) (g := (gName 5)) rfl sc_spill_some.nd rfl rfl (sw_true rfl rfl rfl (by decide +kernel)) (pi_tup (pv 4)) (blkOk_by (own := [("name", 5)]) (N := ["sets", "weight", "registers", "out", "names", "name", "staying"]) (sc := (defScope s_spill_some)) (by decide +kernel)) (fun _ _ _ _ _ => (pg_name (i := 5) sc_spill_some.nd rfl (Or.inl rfl))) (fun _ _ _ _ _ => pts_one (pt_cmpR (op_notInK (K := K) rfl) (pv 5) (pv 3) (by rfl))) (fun _ _ _ _ _ => (pv 5))) (pss_one (ps_while PassesOwn.never (pt_cmpR op_gt (pe_callB call_len_seq (by rfl) B.len PySem.boot_len (pa_cons (pv 6) pa_nil)) (pv 2) (nomark _)) (pss_cons (ps_set (i := 5) sc_spill_some.nd rfl (Or.inl rfl) (pe_cal C_least_weight (hr.mono (by decide)) (by rfl) (pa_cons (pv 6) (pa_cons (pv 1) pa_nil)))) (pss_cons (ps_expr (pe_bm PySem.F.plainAttrs_list PySem.F.slot_list_append PySem.F.type_list_append mt_append (pv 3) (pa_cons (pv 5) pa_nil))) (pss_one (ps_expr (pe_bm PySem.F.plainAttrs_list PySem.F.slot_list_remove PySem.F.type_list_remove mt_remS (pv 6) (pa_cons (pv 5) pa_nil)))))))))) (pss_one (ps_ret (pv 3)))))), ?_⟩)
  · obtain ⟨a, d, xs, sets, kvs, R, all, rfl, _⟩ := h
    rfl
  · obtain ⟨a, d, xs, sets, kvs, R, all, rfl, ha, hp, ok, hd, N, k⟩ := h
    have hlen := pd_len hp
    refine q_asgL (xs := []) (el_lst ea_nil (by decide)) fun lo H1 hlo e1 h1 => ?_
    refine q_forL (a := a) (xs := xs) (ev_var rfl) (sq_of (e1 _ _ ha)) (fun i σ' H' => (∃ o4 o5 o6, σ' = [some (.ref a), some (.ref d), some (intV R), some (.ref lo), o4, o5, o6]) ∧ Ex H H' ∧ ∃ out : List Str, H' lo = some (.lst (out.map V.str)) ∧ out.Nodup ∧ (∀ x ∈ out, x ∈ all) ∧ ∀ j S, j < i → sets[j]? = some S → (stl out S).length ≤ R)
      (fun H2 e2 => ⟨⟨none, none, none, rfl⟩, e1.trans e2, [], e2 _ _ h1, List.nodup_nil, (fun x hx => by cases hx), fun j S hj => absurd hj (Nat.not_lt_zero j)⟩) (fun i σ' H' _ q => sq_of (q.2.1 _ _ ha)) ?_ ?_
    · rintro i x σ' H' hx ⟨⟨o4, o5, o6, rfl⟩, e2, out, h2, h3, h4, h5⟩
      obtain ⟨S, hS, t, rfl, ht⟩ := pd_get hp hx
      have hSm := List.mem_of_getElem? hS
      have hSl := ok.le S hSm
      have hSn := ok.nd S hSm
      have hSa := ok.sub S hSm
      refine q_asgL (el_stl (K := K) (ev_var rfl) (e2 _ _ ht) (by omega) (fun _ => rfl) (fun _ => rfl) (fun _ => rfl) h2) fun ls H3 hls e3 h6 => ?_
      have hls0 : H ls = none := fresh_back e2 hls
      have nls : lo ≠ ls := ne_of_none h2 hls
      refine s_while (D := { nx := _, rt := _, bk := _, ct := _ }) (fun m σ' H' => ∃ out o5, σ' = [some (.ref a), some (.ref d), some (intV R), some (.ref lo), some (.ref t), o5, some (.ref ls)] ∧ Ex H H' ∧ H' lo = some (.lst (out.map V.str)) ∧ H' ls = some (.lst ((stl out S).map V.str)) ∧ out.Nodup ∧ (∀ x ∈ out, x ∈ all) ∧ (∀ j S, j < i → sets[j]? = some S → (stl out S).length ≤ R) ∧ m = (stl out S).length) _
        ⟨out, o5, rfl, e2.trans e3, e3 _ _ h2, h6, h3, h4, h5, rfl⟩ ?_
      rintro m σ' H4 ⟨out, o5, rfl, e4, g1, g2, g3, g4, g5, rfl⟩
      refine ⟨decide ((R : Int) < ((stl out S).length : Int)), ?_, fun hc H5 e5 => ?_, fun hc H5 e5 => ?_⟩
      · have := ev_lenL (K := K) (ta := tVar 6) (σ := [some (.ref a), some (.ref d), some (intV R), some (.ref lo), some (.ref t), o5, some (.ref ls)]) (ev_var rfl) g2
        rw [List.length_map] at this
        exact et_T (ev_op this (ev_var rfl) rv_I0)
      · have hc := of_decide_eq_true hc
        have hne : stl out S ≠ [] := fun z => by rw [z] at hc; simp at hc; omega
        have hsl : (stl out S).length ≤ 400 := Nat.le_trans (List.length_filter_le _ _) hSl
        refine ⟨fun σ2 H2 => ∃ m', m' < (stl out S).length ∧ ∃ out o5, σ2 = [some (.ref a), some (.ref d), some (intV R), some (.ref lo), some (.ref t), o5, some (.ref ls)] ∧ Ex H H2 ∧ H2 lo = some (.lst (out.map V.str)) ∧ H2 ls = some (.lst ((stl out S).map V.str)) ∧ out.Nodup ∧ (∀ x ∈ out, x ∈ all) ∧ (∀ j S, j < i → sets[j]? = some S → (stl out S).length ≤ R) ∧ m' = (stl out S).length, fun σ2 H2 h => h, ?_⟩
        refine q_raw ?_
        refine ea2 (ev_var (i := 6) rfl) (ev_var (i := 1) rfl) H5 (Ex.refl _) _ fun H6 e6 => ?_
        have e56 := e5.trans e6
        refine ⟨ls, d, stl out S, kvs, rfl, e56 _ _ g2, hne, by omega, (e4.trans e56) _ _ hd, N.sub fun z hz => hSa z (mem_stl.mp hz).1, fun H7 y e7 hy => ?_⟩
        have e57 := e56.trans e7
        obtain ⟨hy1, hy2⟩ := mem_stl.mp hy
        have hol : out.length ≤ 400 := Nat.le_trans (SF.nd_sub g3 g4) ok.al
        refine q_app (v := .str y) (e57 _ _ g1) (ev_var rfl) (ev_var rfl) (by rw [List.length_map]; omega) fun H8 e8 => ?_
        have hlo0 : H lo = none := hlo
        have e48 := e57.trans e8
        have ex8 := ex_upd (o := .lst (out.map V.str ++ [V.str y])) e4 hlo0 e48
        have hls8 : upd H8 lo (.lst (out.map V.str ++ [V.str y])) ls = some (.lst ((stl out S).map V.str)) := by rw [upd_ne nls.symm]; exact e48 _ _ g2
        refine q_rem (D := { nx := _, rt := _, bk := _, ct := _ }) hls8 hy (ev_var rfl) (ev_var rfl) fun H9 e9 => ?_
        refine ⟨_, ?_, out ++ [y], some (.str y), rfl, ex_upd ex8 hls0 e9, by rw [upd_ne nls, List.map_append]; exact e9 _ _ upd_same, by rw [upd_same, stl_erase hSn], ?_, ?_, fun j T hj hT => Nat.le_trans (stl_mono fun z hz => List.mem_append_left _ hz) (g5 j T hj hT), rfl⟩
        · rw [← stl_erase hSn, List.length_erase_of_mem hy]
          have := List.length_pos_of_mem hy
          omega
        · exact List.nodup_append.mpr ⟨g3, by simp, fun u hu v hv e => hy2 (by rw [← List.mem_singleton.mp hv, ← e]; exact hu)⟩
        · intro z hz
          rcases List.mem_append.mp hz with q | q
          · exact g4 z q
          · rw [List.mem_singleton.mp q]; exact hSa y hy1
      · have hc := of_decide_eq_false hc
        refine ⟨⟨_, _, _, rfl⟩, e4.trans e5, out, e5 _ _ g1, g3, g4, fun j T hj hT => ?_⟩
        by_cases q : j = i
        · subst q
          rw [hS] at hT
          cases hT
          omega
        · exact g5 j T (by omega) hT
    · rintro σ' H' ⟨⟨o4, o5, o6, rfl⟩, e2, out, h2, h3, h4, h5⟩
      refine s_ret (ev_var rfl) fun H3 e3 => k lo H3 out hlo (e2.trans e3) (e3 _ _ h2) h3 h4 fun S hS => ?_
      obtain ⟨j, hj, e⟩ := List.getElem_of_mem hS
      exact h5 j S (by rw [hlen]; exact hj) (by rw [List.getElem?_eq_getElem hj, e])
end
end Sh
end

section
set_option Elab.async false
set_option linter.all false
set_option maxRecDepth 100000
set_option maxHeartbeats 4000000
/-! Walks: spilled. -/
namespace Sh
open PySem PySem.Spec PyProof.Rows L2 Evl
open SF (WF)
/-- a def whose code object stands at c -/
structure FnC (K : PySem.W.Frag) (x q : Str) (st : Stmt) (f : Addr) (fd : FuncData) (c : Addr) : Prop where
  ex : ∃ (oc : Value) (od : Option Addr) (dV kV doc pm : Value) (an : Option Addr) (ct : Value) (osl : Array (Option Value)),
    fd = PySem.W.fnOf x q (defArgs st) (defBody st) (defScope st) dV kV doc pm an (.ref c) ct ∧ K.lookup f = some ⟨oc, od, .func fd, osl⟩ ∧ PySem.W.codeIn K (.ref c) q = true
theorem FnC.ok {P : Program} {w : World} {K : PySem.W.Frag} {mg : Str → Option Value} {base : Heap} {x q : Str} {st : Stmt} {f c : Addr} {fd : FuncData} {N ps : List Str} {k : Nat} {sp : Sp} (F : FnC K x q st f fd c) (S : FnScope N ps (defScope st)) (len : ∀ vs H Q E, sp vs H Q E → vs.length = ps.length)
    (hbody : ∀ (A : Around) (outer : List Env) (s : Shared) (H : Hp) (vs : List V) (Q : VK) (E : XK), Room k (A.deeper (envOfC q (defScope st) s.heap.objs.size f (.ref c))) → sp vs H Q E →
      ∃ t, PSs (cxOf CX0 P w K mg base N q (defScope st) f (.ref c) A outer s H E) (defBody st) t ∧ t { nx := fun _ H' => Q .non H', rt := Q } (start N vs) H) : FnOk P w K mg base CX0 (k + 1) f fd ps sp := by
  obtain ⟨oc, od, dV, kV, doc, pm, an, ct, osl, rfl, lk, hcd⟩ := F.ex
  exact fn_of lk hcd S len fun A outer s H vs Q E hr hsp => hbody A outer s H vs Q E hr hsp
theorem exn_of {H H' : Hp} (e : Ex H H') : ExN H H' := LamX.ExtN.of e
def lpos : Pos := ⟨144, 34, 144, 65⟩
def lq : Str := "spilled.<locals>.<lambda>"
def spSpilled (T : Addr) : Sp := fun vs H Q _ => ∃ (v : V) (a : Addr) (G : List PB) (xs : List V) (sets : List (List Str)) (R : Nat), vs = [v, .ref a, intV R] ∧ ProgAt H v G ∧ Small G ∧ WF (toPg G) ∧ H a = some (.lst xs) ∧ Paired (StrsAt H) xs sets ∧ SetsOk sets (defsP G) ∧ TabQ H T lpos lq ∧
  ∀ p H' (out : List Str), ExN H H' → TabQ H' T lpos lq → H' p = some (.lst (out.map V.str)) → out.Nodup → (∀ x ∈ out, x ∈ defsP G) → (∀ S ∈ sets, (stl out S).length ≤ R) → (∀ x ∈ out, ∃ S ∈ sets, x ∈ S ∧ R ≤ (stl out S).length) → Q (.ref p) H'
theorem less_grow {out S : List Str} (hn : S.Nodup) (x : Str) : (stl (out.filter fun y => decide (y ≠ x)) S).length ≤ (stl out S).length + 1 := by
  have h := SF.nd_sub (l := stl (out.filter fun y => decide (y ≠ x)) S) (m := x :: stl out S) (List.Pairwise.filter _ hn) fun y hy => by
    obtain ⟨h1, h2⟩ := mem_stl.mp hy
    by_cases e : y = x
    · rw [e]; exact List.mem_cons_self ..
    · refine List.mem_cons_of_mem _ (mem_stl.mpr ⟨h1, fun z => h2 (List.mem_filter.mpr ⟨z, decide_eq_true e⟩)⟩)
  rw [List.length_cons] at h
  exact h
theorem less_same {out S : List Str} {x : Str} (h : x ∉ S) : stl (out.filter fun y => decide (y ≠ x)) S = stl out S := by
  unfold stl
  refine List.filter_congr fun y hy => ?_
  have e : y ≠ x := fun z => h (z ▸ hy)
  congr 1
  exact decide_eq_decide.mpr ⟨fun z => (List.mem_filter.mp z).1, fun z => List.mem_filter.mpr ⟨z, decide_eq_true e⟩⟩
section
variable {P : Program} {w : World} {K : PySem.W.Frag} {mg : Str → Option Value} {base : Heap} {f C : Addr} {fd : FuncData} {σ : L2.St} {H : Hp} {g : TG} {tu tz : TS} {D : Ends} {ta tb te tl td tv ty : TE} {tr : TA} {tt : TT}
abbrev s_spilled : Stmt := top 18
abbrev n_spilled : List Str := ["program", "sets", "registers", "out", "name", "order", "less", "weight", "other", "names"]
theorem sc_spilled : FnScope ["program", "sets", "registers", "out", "name", "order", "less", "weight", "other", "names"] ["program", "sets", "registers"] (defScope s_spilled) := ⟨rfl, rfl, rfl, by decide +kernel, rfl, by decide +kernel, by decide +kernel⟩
theorem ok_spilled {cA T : Addr} (F : FnC K "spilled" "spilled" s_spilled f fd cA) (B : Blt mg) (TB : GxR.TabB base mg cA T) (C_weights : Cal P w K mg base "weights" 3 ["program"] spWeights) (C_spill_some : Cal P w K mg base "spill_some" 2 ["sets", "weight", "registers"] spSome) (C_definitions : Cal P w K mg base "definitions" 2 ["program"] spDefs) :
    FnOk P w K mg base CX0 4 f fd ["program", "sets", "registers"] (spSpilled T) := by
  refine F.ok sc_spilled (fun vs H Q E h => ?_) (fun A outer s H vs Q E hr h => ⟨_, PSs.nox ((pss_cons (ps_set (i := 7) sc_spilled.nd rfl (Or.inr rfl) (pe_cal C_weights (hr.mono (by decide)) (by rfl) (pa_cons (pv 0) pa_nil))) (pss_cons (ps_set (i := 3) sc_spilled.nd rfl (Or.inr rfl) (pe_cal C_spill_some (hr.mono (by decide)) (by rfl) (pa_cons (pv 1) (pa_cons (pv 7) (pa_cons (pv 2) pa_nil))))) (pss_cons (ps_setLc (i := 5) (own := [("name", 4)]) (g := (gName 4)) rfl sc_spilled.nd rfl rfl (sw_true rfl rfl rfl (by decide +kernel)) (pi_tup (pe_cal C_definitions (hr.mono (by decide)) (by rfl) (pa_cons (pv 0) pa_nil))) (blkOk_by (own := [("name", 4)]) (N := ["program", "sets", "registers", "out", "name", "order", "less", "weight", "other", "names"]) (sc := (defScope s_spilled)) (by decide +kernel)) (fun _ _ _ _ _ => (pg_name (i := 4) sc_spilled.nd rfl (Or.inl rfl))) (fun _ _ _ _ _ => pts_one (pt_cmpR (op_inK (K := K) rfl) (pv 4) (pv 3) (by rfl))) (fun _ _ _ _ _ => (pv 4))) (pss_cons (ps_for PassesOwn.never rfl (pi_list (pe_sortL (iw := 7) hr (by rfl) B.sorted (by decide +kernel) TB rfl (pv 5) rfl rfl rfl rfl (by decide +kernel) rfl rfl (by decide +kernel) (by decide +kernel) rfl rfl (fun _ _ _ _ _ _ => rfl) (by decide) (by decide) (by decide))) (pg_name (i := 4) sc_spilled.nd rfl (Or.inr rfl)) (pss_cons (ps_set (i := 6) sc_spilled.nd rfl (Or.inr rfl) (pe_lc (own := [("other", 8)]) (g := (gName 8)) rfl sc_spilled.nd (pi_list (pv 3)) (blkOk_by (own := [("other", 8)]) (N := ["program", "sets", "registers", "out", "name", "order", "less", "weight", "other", "names"]) (sc := (defScope s_spilled)) (by decide +kernel)) (fun _ _ _ _ _ => (pg_name (i := 8) sc_spilled.nd rfl (Or.inl rfl))) (fun _ _ _ _ _ => pts_one (pt_cmpR op_ne (pv 8) (pv 4) (nomark _))) (fun _ _ _ _ _ => (pv 8)))) (pss_one (ps_if (pt_val (pe_allL (Ok := Fits 2 6) hr (by rfl) B.all (by decide +kernel) TB rfl ⟨rfl, rfl, by decide +kernel, rfl, rfl, by intro y hy e; have h : y.1 = "less" ∨ y.1 = "registers" := (by revert y; decide +kernel); rcases h with h | h <;> rw [h] <;> exact ⟨_, rfl⟩⟩ (pv 1) (elt_fits (ir := 2) (il := 6) (.inr ⟨_, TB⟩) B.len rfl rfl rfl rfl rfl rfl (by decide +kernel) (by decide +kernel) rfl (by decide +kernel) (fun e he => by cases e; cases he; rfl) (fun e he => by cases e; cases he; rfl) (by decide +kernel) (by decide +kernel) (by decide +kernel) rfl rfl rfl rfl (by decide) (by decide) (by decide) (by decide) (by decide) (by decide)) (fun _ => rfl))) (pss_one (ps_set (i := 3) sc_spilled.nd rfl (Or.inr rfl) (pv 6))) pss_nil)))) (pss_one (ps_ret (pv 3)))))))), ?_⟩)
  · obtain ⟨v, a, G, xs, sets, R, rfl, _⟩ := h
    rfl
  · obtain ⟨v, a, G, xs, sets, R, rfl, hP, S, hW, ha, hp, ok, hT, k⟩ := h
    have hlen := pd_len hp
    have hdl := S.defs
    have hndd : (defsP G).Nodup := by rw [defsP_eq]; exact hW.nd
    -- weight
    refine q_raw ⟨_, rfl, v, G, rfl, hP, S, hW, fun dw H1 kvs hdw e1 h1 N => ?_⟩
    -- out
    refine q_raw ⟨_, rfl, _, rfl, _, rfl, a, dw, xs, sets, kvs, R, defsP G, rfl, e1 _ _ ha, Paired.mapP hp fun v b q => mono_strs.e _ _ _ _ e1 q, ok, h1, N, fun lo H2 out0 hlo e2 h2 hnd0 hsub0 hfit0 => ?_⟩
    have e12 := e1.trans e2
    -- order
    have hord : EvL (tLc (iTup K (tCall spDefs [] E0 (tCons (tVar 0) tNil))) (gName 4) (tTest (tOp (rIn K false) (tVar 4) (tVar 3))) (tVar 4) [4]) [some v, some (.ref a), some (intV R), some (.ref lo), none, none, none, some (.ref dw), none, none] H2 (((defsP G).filter fun y => decide (y ∈ out0)).map V.str) := by
      refine el_filter (fun y => decide (y ∈ out0)) (ei_map (ei_tupW (ew_new (eu_defs (ev_var rfl) (hP.mono (tx e12)) S)))) (by omega) (fun _ => rfl) (fun _ => rfl) fun j y H3 hy e3 => ?_
      refine et_is (et_T (ev_op (ev_var rfl) (ev_var rfl) (rv_isL (sq_of (e3 _ _ h2)) rfl (flat_strs _)))) ?_
      rw [inV_eq]
    refine q_asgL hord fun lord H3 hlord e3 h3 => ?_
    have e03 := e12.trans e3
    generalize hys : (defsP G).filter (fun y => decide (y ∈ out0)) = ys at h3
    have hysd : ∀ y ∈ ys, y ∈ defsP G := fun y hy => by rw [← hys] at hy; exact (List.mem_filter.mp hy).1
    have hysl : ys.length ≤ 400 := by rw [← hys]; exact Nat.le_trans (List.length_filter_le _ _) hdl
    have hT3 : TabQ H3 T lpos lq := hT.ext e03
    have hd3 : H3 dw = some (.dK kvs) := e3 _ _ (e2 _ _ h1)
    let wt : Str → Int := fun y => match valV kvs (Sum.inr y) with
      | some (.int i) => i
      | _ => 0
    have hwt : ∀ y ∈ ys, valV kvs (Sum.inr y) = some (.int (wt y)) := fun y hy => by
      obtain ⟨i, hi⟩ := N.2 y (hysd y hy)
      show _ = some (V.int (match valV kvs (Sum.inr y) with | some (.int i) => i | _ => 0))
      rw [hi]
    have ha3 : H3 a = some (.lst xs) := e03 _ _ ha
    have hlo3 : H3 lo = some (.lst (out0.map V.str)) := e3 _ _ h2
    refine ⟨_, rfl, lord, dw, ys, kvs, wt, rfl, h3, by omega, rfl, hd3, hwt, hT3, fun H4 p zs hp4 hperm eN hT4 hzs => ⟨p, rfl, ⟨_, sq_of hzs⟩, ?_⟩⟩
    have e04 : ExN H H4 := LamX.ExtN.trans (exn_of e03) eN
    have hz0 : ∀ {o : HO}, (∀ ps, o ≠ .tbl ps) → ∀ {b : Addr}, H b = some o → H4 b = some o := fun n _ h => e04 _ _ h n
    refine for_list (K := K) (a := p) (xs := zs.map V.str) (fun i σ' H' => ∃ (out : List Str) (lo : Addr) (o4 o6 : Option V), σ' = [some v, some (.ref a), some (intV R), some (.ref lo), o4, some (.ref lord), o6, some (.ref dw), none, none] ∧ ExN H4 H' ∧ TabQ H' T lpos lq ∧ H' lo = some (.lst (out.map V.str)) ∧ out.Nodup ∧ (∀ x ∈ out, x ∈ out0) ∧ (∀ S ∈ sets, (stl out S).length ≤ R) ∧
        ∀ x ∈ zs.take i, x ∈ out → ∃ S ∈ sets, x ∈ S ∧ R ≤ (stl out S).length)
      ⟨out0, lo, _, _, rfl, LamX.ExtN.refl _, hT4, eN _ _ hlo3 (fun _ z => by cases z), hnd0, fun x hx => hx, hfit0, fun x hx => by simp at hx⟩ (fun i σ' H' _ ⟨_, _, _, _, _, q, _⟩ => sq_of (q _ _ hzs fun _ z => by cases z)) ?_ ?_
    · rintro i x σ' H' hx ⟨out, lo, o4, o6, rfl, e5, hT5, hlo5, hnd, hsub, hfit, hmax⟩
      rw [List.getElem?_map] at hx
      cases hnm : zs[i]? with
      | none => rw [hnm] at hx; cases hx
      | some nm =>
        rw [hnm] at hx
        have hx := Option.some.inj hx
        subst hx
        have hol : out.length ≤ 400 := Nat.le_trans (SF.nd_sub hnd fun x hx => hsub0 x (hsub x hx)) hdl
        have e05 : ExN H H' := LamX.ExtN.trans e04 e5
        have hless : EvL (tLc (iList K (tVar 3)) (gName 8) (tTest (tOp rNe (tVar 8) (tVar 4))) (tVar 8) [8]) [some v, some (.ref a), some (intV R), some (.ref lo), some (.str nm), some (.ref lord), o6, some (.ref dw), none, none] H' ((out.filter fun y => decide (y ≠ nm)).map V.str) := by
          refine el_filter (fun y => decide (y ≠ nm)) (ei_map (ei_lst (ev_var rfl) hlo5)) (by omega) (fun _ => rfl) (fun _ => rfl) fun j y H6 hy e6 => ?_
          refine et_is (et_T (ev_op (ev_var rfl) (ev_var rfl) (rv_ne rfl))) ?_
          by_cases q : y = nm
          · subst q; simp
          · have : ¬ V.str y = V.str nm := fun z => q (V.str.inj z)
            rw [decide_eq_false this, decide_eq_true q]
            rfl
        refine q_asgL hless fun ll H6 hll e6 h6 => ?_
        have e06 : ExN H H6 := LamX.ExtN.trans e05 (exn_of e6)
        have hxs6 : H6 a = some (.lst xs) := e06 _ _ ha fun _ z => by cases z
        have hp6 : Paired (StrsAt H6) xs sets := Paired.mapP hp fun v b q => mono_strs _ _ _ _ (tx_n e06) q
        refine ⟨_, rfl, a, xs, fun j => decide ((((sets.getD j []).filter fun y => !decide (y ∈ out.filter fun y => decide (y ≠ nm))).length : Int) ≤ (R : Int)), rfl, sq_of hxs6, (hT5.ext e6).tab, ⟨R, ll, out.filter fun y => decide (y ≠ nm), rfl, rfl, h6, fun j x hx => ?_⟩, fun H7 hG => ⟨_, rfl, ?_⟩⟩
        · obtain ⟨S', hS', t, rfl, ht⟩ := pd_get hp6 hx
          refine ⟨t, S', rfl, ht, ?_⟩
          have e9 : sets.getD j [] = S' := by rw [List.getD_eq_getElem?_getD, hS']; rfl
          show decide ((((sets.getD j []).filter fun y => !decide (y ∈ out.filter fun y => decide (y ≠ nm))).length : Int) ≤ (R : Int)) = _
          rw [e9]
        · obtain ⟨hP7, hE7⟩ := id hG
          have hT6 : TabQ H6 T lpos lq := hT5.ext e6
          have hT7 : TabQ H7 T lpos lq := hT6.grown hG (.inl (by show (146 : Nat) ≠ 144; decide))
          have e67 : ExN H6 H7 := fun b o hb hn => by
            by_cases q : b = T
            · obtain ⟨ps, _, q1, _⟩ := hP7
              rw [q, q1] at hb
              exact absurd (Option.some.inj hb).symm (hn ps)
            · rw [hE7 b q]; exact hb
          have e47 : ExN H4 H7 := LamX.ExtN.trans e5 (LamX.ExtN.trans (exn_of e6) e67)
          have hll7 : H7 ll = some (.lst ((out.filter fun y => decide (y ≠ nm)).map V.str)) := e67 _ _ h6 fun _ z => by cases z
          have hlo7 : H7 lo = some (.lst (out.map V.str)) := e67 _ _ (e6 _ _ hlo5) fun _ z => by cases z
          have hget : ∀ j S', sets[j]? = some S' → sets.getD j [] = S' := fun j S' h => by rw [List.getD_eq_getElem?_getD, h]; rfl
          cases hall : (List.range xs.length).all fun j => decide ((((sets.getD j []).filter fun y => !decide (y ∈ out.filter fun y => decide (y ≠ nm))).length : Int) ≤ (R : Int)) with
          | true =>
            have hfit' : ∀ S ∈ sets, (stl (out.filter fun y => decide (y ≠ nm)) S).length ≤ R := fun S' hS' => by
              obtain ⟨j, hj, e⟩ := List.getElem_of_mem hS'
              have h1 := of_decide_eq_true (List.all_eq_true.mp hall j (List.mem_range.mpr (by rw [hlen]; exact hj)))
              rw [hget j S' (by rw [List.getElem?_eq_getElem hj, e])] at h1
              unfold stl
              omega
            refine ⟨_, rfl, ?_⟩
            refine ⟨out.filter fun y => decide (y ≠ nm), ll, _, _, rfl, e47, hT7, hll7, List.Pairwise.filter _ hnd, fun x hx => hsub x (List.mem_filter.mp hx).1, hfit', fun x hx hxo => ?_⟩
            rw [take_succ hnm] at hx
            rcases List.mem_append.mp hx with q | q
            · obtain ⟨S', q1, q2, q3⟩ := hmax x q (List.mem_filter.mp hxo).1
              exact ⟨S', q1, q2, Nat.le_trans q3 (stl_mono fun z hz => (List.mem_filter.mp hz).1)⟩
            · rw [List.mem_singleton.mp q] at hxo
              exact absurd rfl (of_decide_eq_true (List.mem_filter.mp hxo).2)
          | false =>
            refine ⟨out, lo, _, _, rfl, e47, hT7, hlo7, hnd, hsub, hfit, fun x hx hxo => ?_⟩
            rw [take_succ hnm] at hx
            rcases List.mem_append.mp hx with q | q
            · exact hmax x q hxo
            · have hxn := List.mem_singleton.mp q
              subst hxn
              obtain ⟨j, hj, hjf⟩ := List.all_eq_false.mp hall
              have hjl : j < sets.length := by rw [← hlen]; exact List.mem_range.mp hj
              rw [hget j sets[j] (List.getElem?_eq_getElem hjl), decide_eq_true_iff] at hjf
              have hSm := List.getElem_mem hjl
              have h1 := hfit _ hSm
              have h2 : R < (stl (out.filter fun y => decide (y ≠ x)) sets[j]).length := by
                unfold stl
                omega
              have h3 := less_grow (out := out) (ok.nd _ hSm) x
              refine ⟨sets[j], hSm, Classical.byContradiction fun z => ?_, by omega⟩
              rw [less_same z] at h2
              omega
    · rintro σ' H' ⟨out, lo, o4, o6, rfl, e5, hT5, hlo5, hnd, hsub, hfit, hmax⟩
      rw [List.length_map, List.take_length] at hmax
      refine s_ret (ev_var rfl) fun H6 e6 => k lo H6 out (LamX.ExtN.trans e04 (LamX.ExtN.trans e5 (exn_of e6))) (hT5.ext e6) (e6 _ _ hlo5) hnd (fun x hx => hsub0 x (hsub x hx)) hfit fun x hx => hmax x ?_ hx
      rw [hperm.mem_iff, ← hys]
      exact List.mem_filter.mpr ⟨hsub0 x (hsub x hx), decide_eq_true (hsub x hx)⟩
end
end Sh
end

section
set_option Elab.async false
set_option linter.all false
set_option maxRecDepth 100000
set_option maxHeartbeats 4000000
/-! The colouring: what free_location gives, name by name, keeps two names of a set apart. No machine here. -/
namespace Sh
open Classical
open SF (WF InSet DefPt Le Dom sucOf)
open PySem (Str)
def numS (n : Nat) : Str := Str.ofString (toString ((n : Nat) : Int))
theorem num_read {n : Nat} (h : n ≤ 1000) : PySem.intText? (numS n) = some (n : Int) := PySem.W.KIN.num_reads (by omega) (by omega)
theorem numS_inj {m n : Nat} (hm : m ≤ 1000) (hn : n ≤ 1000) (h : numS m = numS n) : m = n := by
  have h1 := num_read hm
  rw [h, num_read hn] at h1
  have := Option.some.inj h1
  omega
theorem numS_len {n : Nat} (h : n ≤ 1000) : (numS n).length ≤ 10 := by
  have : ∀ n, n < 1001 → (numS n).length ≤ 10 := by decide +kernel
  exact this n (by omega)
theorem app_inj {a b c : Str} (h : a ++ b = a ++ c) : b = c := by
  have h1 : (a ++ b).cps = (a ++ c).cps := congrArg Str.cps h
  rw [PySem.Str.cps_append, PySem.Str.cps_append] at h1
  have h2 := congrArg Array.toList h1
  rw [Array.toList_append, Array.toList_append] at h2
  have h3 := List.append_cancel_left h2
  cases b
  cases c
  congr 1
  exact Array.toList_inj.mp h3
theorem sr_ne {a b : Str} : ("s" : Str) ++ a ≠ ("r" : Str) ++ b := fun h => by
  have h1 : (("s" : Str) ++ a).cps = (("r" : Str) ++ b).cps := congrArg Str.cps h
  rw [PySem.Str.cps_append, PySem.Str.cps_append] at h1
  have h2 := congrArg Array.toList h1
  rw [Array.toList_append, Array.toList_append, show ("s" : Str).cps.toList = [115] by decide +kernel, show ("r" : Str).cps.toList = [114] by decide +kernel] at h2
  have h3 : (115 : Nat) = 114 := (List.cons.inj h2).1
  omega
def pf (out : List Str) (x : Str) : Str := if x ∈ out then "s" else "r"
/-- z is defined ahead of y, on every way to it -/
def sb (G : List PB) (z y : Str) : Prop := ∃ e i d j, DefPt (toPg G) z e i ∧ DefPt (toPg G) y d j ∧ ((e = d ∧ i < j) ∨ (e ≠ d ∧ Dom (suc G) e d))
structure Col (G : List PB) (out : List Str) (R : Nat) (ks : List Str) (L : Str → Str) : Prop where
  nd : ks.Nodup
  sub : ∀ x ∈ ks, x ∈ defsP G
  loc : ∀ x ∈ ks, ∃ n, L x = pf out x ++ numS n ∧ n ≤ 400 ∧ (x ∉ out → n < R)
  dif : ∀ b p x y, InSet (toPg G) b p x → InSet (toPg G) b p y → x ∈ ks → y ∈ ks → x ≠ y → L x ≠ L y
  dc : ∀ y ∈ ks, ∀ z, sb G z y → z ∈ ks
theorem Col.nil (G : List PB) (out : List Str) (R : Nat) (L : Str → Str) : Col G out R [] L := ⟨List.nodup_nil, fun x h => (by cases h), fun x h => (by cases h), fun b p x y _ _ h => (by cases h), fun y h => (by cases h)⟩
theorem def_of {G : List PB} {x : Str} (h : x ∈ defsP G) : ∃ e j, DefPt (toPg G) x e j := by
  rw [defsP_eq] at h
  exact SF.mem_defs.mp h
theorem def_in {G : List PB} {x : Str} {e j : Nat} (h : DefPt (toPg G) x e j) : x ∈ defsP G := by
  rw [defsP_eq]
  exact SF.mem_defs.mpr ⟨e, j, h⟩
theorem mem_pset {G : List PB} {b p : Nat} {x : Str} : x ∈ pset G b p ↔ x ∈ defsP G ∧ InSet (toPg G) b p x := by
  unfold pset
  rw [List.mem_filter, decide_eq_true_iff]
theorem less_len {α : Type} [DecidableEq α] {l : List α} {d : α} (h : d ∈ l) : (l.filter fun y => decide (y ≠ d)).length < l.length := by
  refine Classical.byContradiction fun q => ?_
  have := SF.filter_len_eq (l := l) (p := fun o => decide (o ≠ d)) (q := fun _ => true) (fun _ _ _ => rfl) (by rw [List.filter_eq_self.mpr fun _ _ => rfl]; omega) d h rfl
  exact of_decide_eq_true this rfl
def takenOf (ks : List Str) (L : Str → Str) (S : List Str) (d : Str) : List Str := (S.filter fun y => decide (y ≠ d ∧ y ∈ ks)).map L
theorem Col.step {G : List PB} {out : List Str} {R : Nat} {ks : List Str} {L : Str → Str} (W : WF (toPg G)) (C : Col G out R ks L) {d : Str} {b p n : Nat} (hd : DefPt (toPg G) d b p) (hn : d ∉ ks) (hdc : ∀ z, sb G z d → z ∈ ks)
    (hfree : pf out d ++ numS n ∉ takenOf ks L (pset G b p) d) (hmin : ∀ m, m < n → pf out d ++ numS m ∈ takenOf ks L (pset G b p) d) (hn4 : n ≤ 400) (hfit : (stl out (pset G b p)).length ≤ R) :
    Col G out R (ks ++ [d]) (fun x => if x = d then pf out d ++ numS n else L x) := by
  have hdd := def_in hd
  have hds : d ∈ pset G b p := mem_pset.mpr ⟨hdd, .inl hd⟩
  have hkd : ∀ y ∈ ks, y ≠ d := fun y hy e => hn (e ▸ hy)
  -- a name in hand and d in one set: it stands in d's own set
  have key : ∀ b' p' y, y ∈ ks → InSet (toPg G) b' p' y → InSet (toPg G) b' p' d → L y ≠ pf out d ++ numS n := by
    intro b' p' y hy iy id_ e
    obtain ⟨ey, jy, hDy⟩ := def_of (C.sub y hy)
    have hin : InSet (toPg G) b p y := by
      have le1 : Le (toPg G) ey jy b p → InSet (toPg G) b p y := fun h => SF.earlier_in W iy id_ hDy hd h
      rcases SF.le_total W iy id_ hDy hd with h | h
      · exact le1 h
      · rcases h with ⟨e1, h⟩ | ⟨e1, h⟩
        · by_cases q : p = jy
          · exact le1 (.inl ⟨e1.symm, by omega⟩)
          · exact absurd (C.dc y hy d ⟨b, p, ey, jy, hd, hDy, .inl ⟨e1, by omega⟩⟩) hn
        · exact absurd (C.dc y hy d ⟨b, p, ey, jy, hd, hDy, .inr ⟨e1, h⟩⟩) hn
    refine hfree ?_
    rw [← e]
    exact List.mem_map.mpr ⟨y, List.mem_filter.mpr ⟨mem_pset.mpr ⟨C.sub y hy, hin⟩, decide_eq_true ⟨hkd y hy, hy⟩⟩, rfl⟩
  refine ⟨List.nodup_append.mpr ⟨C.nd, by simp, fun a ha c hc e => hn (by rw [← List.mem_singleton.mp hc, ← e]; exact ha)⟩, fun x hx => ?_, fun x hx => ?_, fun b' p' x y ix iy hx hy ne => ?_, fun y hy z hz => ?_⟩
  · rcases List.mem_append.mp hx with h | h
    · exact C.sub x h
    · rw [List.mem_singleton.mp h]; exact hdd
  · rcases List.mem_append.mp hx with h | h
    · obtain ⟨m, h1, h2, h3⟩ := C.loc x h
      exact ⟨m, by rw [if_neg (hkd x h)]; exact h1, h2, h3⟩
    · have e := List.mem_singleton.mp h
      subst e
      refine ⟨n, if_pos rfl, hn4, fun ho => ?_⟩
      have hp : pf out x = "r" := if_neg ho
      have hxs : x ∈ stl out (pset G b p) := mem_stl.mpr ⟨hds, ho⟩
      have hl := less_len hxs
      have hsub := SF.nd_sub (l := (List.range n).map fun m => pf out x ++ numS m) (m := ((stl out (pset G b p)).filter fun y => decide (y ≠ x)).map L) ?_ ?_
      · rw [List.length_map, List.length_map, List.length_range] at hsub
        omega
      · rw [List.nodup_iff_pairwise_ne, List.pairwise_map]
        refine List.Pairwise.imp_of_mem (fun ha hb hab e => ?_) (List.pairwise_lt_range (n := n))
        have h1 := List.mem_range.mp ha
        have h2 := List.mem_range.mp hb
        have := numS_inj (by omega) (by omega) (app_inj e)
        omega
      · intro z hz
        obtain ⟨m, hm, rfl⟩ := List.mem_map.mp hz
        obtain ⟨y, hy, e⟩ := List.mem_map.mp (hmin m (List.mem_range.mp hm))
        obtain ⟨y1, y2⟩ := List.mem_filter.mp hy
        obtain ⟨y3, y4⟩ := of_decide_eq_true y2
        refine List.mem_map.mpr ⟨y, List.mem_filter.mpr ⟨mem_stl.mpr ⟨y1, fun hyo => ?_⟩, decide_eq_true y3⟩, e⟩
        obtain ⟨m2, q1, _⟩ := C.loc y y4
        rw [q1, hp, show pf out y = "s" from if_pos hyo] at e
        exact sr_ne e
  · rcases List.mem_append.mp hx with h | h
    · rcases List.mem_append.mp hy with h2 | h2
      · rw [if_neg (hkd x h), if_neg (hkd y h2)]
        exact C.dif b' p' x y ix iy h h2 ne
      · have e := List.mem_singleton.mp h2
        subst e
        rw [if_neg (hkd x h), if_pos rfl]
        exact key b' p' x h ix iy
    · have e := List.mem_singleton.mp h
      subst e
      rcases List.mem_append.mp hy with h2 | h2
      · rw [if_pos rfl, if_neg (hkd y h2)]
        exact fun z => key b' p' y h2 iy ix z.symm
      · exact absurd (List.mem_singleton.mp h2).symm ne
  · rcases List.mem_append.mp hy with h | h
    · exact List.mem_append_left _ (C.dc y h z hz)
    · rw [List.mem_singleton.mp h] at hz
      exact List.mem_append_left _ (hdc z hz)
/-! ### the entries of a block, by points -/
def bpts (B : PB) : List Nat := 0 :: (List.range B.ins.length).filterMap fun i => (B.ins[i]?.bind dby).map fun _ => i + 1
def dn (B : PB) (p : Nat) : List Str := if p = 0 then B.params else (B.ins[p - 1]?.bind dby).toList
theorem bsets_pts (G : List PB) (b : Nat) (B : PB) : bsets G b B = (bpts B).map fun p => (pset G b p, dn B p) := by
  unfold bsets bsetsTo bpts
  rw [List.map_cons, List.map_filterMap]
  congr 1
  congr 1
  funext i
  cases h : B.ins[i]?.bind dby with
  | none => rfl
  | some n =>
    have e : dn B (i + 1) = [n] := by
      unfold dn
      rw [if_neg (Nat.succ_ne_zero i), Nat.add_sub_cancel, h]
      rfl
    show some (pset G b (i + 1), [n]) = some (pset G b (i + 1), dn B (i + 1))
    rw [e]
theorem pts_inc (B : PB) : (bpts B).Pairwise (· < ·) := by
  unfold bpts
  refine List.pairwise_cons.mpr ⟨fun a ha => ?_, ?_⟩
  · obtain ⟨i, _, h⟩ := List.mem_filterMap.mp ha
    obtain ⟨_, _, h⟩ := Option.map_eq_some_iff.mp h
    omega
  · refine List.Pairwise.filterMap _ (fun a c hac x hx y hy => ?_) List.pairwise_lt_range
    obtain ⟨_, _, h1⟩ := Option.map_eq_some_iff.mp hx
    obtain ⟨_, _, h2⟩ := Option.map_eq_some_iff.mp hy
    omega
theorem dn_pt {G : List PB} {b : Nat} {B : PB} (hB : G[b]? = some B) {p : Nat} {x : Str} : x ∈ dn B p ↔ DefPt (toPg G) x b p := by
  unfold dn DefPt
  constructor
  · intro h
    by_cases q : p = 0
    · rw [if_pos q] at h
      exact ⟨_, pg_at hB, .inl ⟨q, h⟩⟩
    · rw [if_neg q] at h
      cases hr : B.ins[p - 1]? with
      | none => rw [hr] at h; cases h
      | some r =>
        rw [hr] at h
        have h : x ∈ (dby r).toList := h
        rw [Option.mem_toList] at h
        exact ⟨_, pg_at hB, .inr ⟨p - 1, uses r, by omega, by rw [bk_ins hr]; rw [show dby r = some x from h]⟩⟩
  · rintro ⟨C, hC, h⟩
    rw [pg_at hB] at hC
    cases hC
    rcases h with ⟨h1, h2⟩ | ⟨i, us, h1, h2⟩
    · rw [if_pos h1]; exact h2
    · subst h1
      rw [if_neg (Nat.succ_ne_zero i), Nat.add_sub_cancel]
      obtain ⟨r, hr⟩ : ∃ r, B.ins[i]? = some r := ⟨_, List.getElem?_eq_getElem (by have := (List.getElem?_eq_some_iff.mp h2).1; rwa [bk_len] at this)⟩
      rw [bk_ins hr] at h2
      have h3 : dby r = some x := congrArg Prod.fst (Option.some.inj h2)
      rw [hr]
      show x ∈ (dby r).toList
      rw [h3]
      exact List.mem_singleton.mpr rfl
theorem pt_in {G : List PB} {b : Nat} {B : PB} (hB : G[b]? = some B) {p : Nat} {x : Str} (h : DefPt (toPg G) x b p) : p ∈ bpts B := by
  unfold bpts
  by_cases q : p = 0
  · rw [q]; exact List.mem_cons_self ..
  · refine List.mem_cons_of_mem _ (List.mem_filterMap.mpr ⟨p - 1, ?_, ?_⟩)
    all_goals
      have hx := (dn_pt hB).mpr h
      unfold dn at hx
      rw [if_neg q] at hx
      cases hr : B.ins[p - 1]? with
      | none => rw [hr] at hx; cases hx
      | some r => ?_
    · exact List.mem_range.mpr (List.getElem?_eq_some_iff.mp hr).1
    · rw [hr] at hx
      cases hd : dby r with
      | none =>
        have hx : x ∈ (dby r).toList := hx
        rw [hd] at hx; cases hx
      | some n =>
        show (dby r).map _ = _
        rw [hd]
        show some (p - 1 + 1) = some p
        congr 1
        omega
end Sh
end

section
set_option Elab.async false
set_option linter.all false
set_option maxRecDepth 100000
set_option maxHeartbeats 4000000
/-! Walks: sets_by_blocks, free_location. -/
namespace Sh
open PySem PySem.Spec PyProof.Rows L2 Evl
def LSets (H : Hp) (v : V) (l : List (List Str × List Str)) : Prop := ∃ a, v = .ref a ∧ ∃ ws, H a = some (.lst ws) ∧ Paired (SetAt H) ws l
theorem mono_ls : MonoE LSets := fun _ _ _ _ e ⟨a, h1, ws, h2, h3⟩ => ⟨a, h1, ws, e _ _ h2, Paired.mapP h3 fun v b q => mono_set.e _ _ _ _ e q⟩
theorem fm_count {α β : Type} (f : α → Option β) (g : α → Option Unit) (l : List α) (h : ∀ a, (f a).isSome = (g a).isSome) : (l.filterMap f).length = (l.filterMap g).length := by
  induction l with
  | nil => rfl
  | cons a r ih =>
    rw [List.filterMap_cons, List.filterMap_cons]
    have := h a
    cases hf : f a <;> cases hg : g a <;> rw [hf, hg] at this
    · exact ih
    · cases this
    · cases this
    · simp [ih]
theorem bsets_many (G : List PB) (b : Nat) (B : PB) : (bsets G b B).length = 1 + (B.ins.filterMap dby).length := by
  unfold bsets bsetsTo
  rw [List.length_cons, ← fm_list B.ins dby, Nat.add_comm]
  congr 1
  have : ∀ l : List Nat, (l.filterMap fun i => (B.ins[i]?.bind dby).map fun n => (pset G b (i + 1), [n])).length = (l.filterMap fun i => B.ins[i]?.bind dby).length := by
    intro l
    induction l with
    | nil => rfl
    | cons a r ih =>
      rw [List.filterMap_cons, List.filterMap_cons]
      cases B.ins[a]?.bind dby with
      | none => exact ih
      | some n => simp only [Option.map_some, List.length_cons]; rw [ih]
  exact this _
noncomputable def restOf (G : List PB) (i : Nat) : List (List Str × List Str) := (((List.range G.length).drop i).map (bsetsO G)).flatten
theorem rest_zero (G : List PB) : restOf G 0 = setsP G := rfl
theorem rest_at {G : List PB} {i : Nat} (h : i < G.length) : restOf G i = bsetsO G i ++ restOf G (i + 1) := by
  unfold restOf
  rw [drop_at (i := i) (x := i) (List.getElem?_range h), List.map_cons, List.flatten_cons]
def spByBlocks : Sp := fun vs H Q _ => ∃ (v : V) (a : Addr) (G : List PB) (ws : List V), vs = [v, .ref a] ∧ ProgAt H v G ∧ Small G ∧ H a = some (.lst ws) ∧ Paired (SetAt H) ws (setsP G) ∧ ∀ p H' bs, H p = none → Ex H H' → H' p = some (.lst bs) → Paired (LSets H') bs ((List.range G.length).map (bsetsO G)) → Q (.ref p) H'
theorem cut_take {ws : List V} {m : Nat} (h : m ≤ ws.length) : cutV ws none (some (m : Int)) = ws.take m := by
  unfold cutV
  rw [HT.sIx_none, HT.sIx_nat, List.drop_zero, Nat.sub_zero, Nat.min_eq_left h]
theorem cut_drop {ws : List V} {m : Nat} (h : m ≤ ws.length) : cutV ws (some (m : Int)) none = ws.drop m := by
  unfold cutV
  rw [HT.sIx_none, HT.sIx_nat, Nat.min_eq_left h, List.take_of_length_le (by rw [List.length_drop]; exact Nat.le_refl _)]
theorem pd_take {α β : Type} {F : α → β → Prop} : ∀ {l : List α} {m : List β} (n : Nat), Paired F l m → Paired F (l.take n) (m.take n)
  | _, _, 0, _ => .nil
  | _, _, n + 1, .nil => .nil
  | _, _, n + 1, .cons x t => .cons x (pd_take n t)
theorem pd_drop {α β : Type} {F : α → β → Prop} : ∀ {l : List α} {m : List β} (n : Nat), Paired F l m → Paired F (l.drop n) (m.drop n)
  | _, _, 0, h => h
  | _, _, n + 1, .nil => .nil
  | _, _, n + 1, .cons x t => pd_drop n t
section
variable {P : Program} {w : World} {K : PySem.W.Frag} {mg : Str → Option Value} {base : Heap} {f C : Addr} {fd : FuncData} {σ : L2.St} {H : Hp} {g : TG} {tu tz : TS} {D : Ends} {ta tb te tl td tv ty : TE} {tr : TA} {tt : TT} {α : Type} {R : Hp → V → α → Prop} {bs : List α}
theorem ev_lenLP (h : EvLP R ta σ H bs) : Ev (tCB (rLenS K) (tCons ta tNil)) σ H (.int (bs.length : Int)) := fun H1 e Q q =>
  h H1 e _ fun p H2 ws _ e2 h2 pd => ⟨p, ws, rfl, .inl (sq_of h2), by rw [pd_len pd]; exact q H2 e2⟩
abbrev s_sets_by_blocks : Stmt := top 20
abbrev n_sets_by_blocks : List Str := ["program", "rows", "found", "left", "_", "instructions", "many", "row"]
theorem sc_sets_by_blocks : FnScope ["program", "rows", "found", "left", "_", "instructions", "many", "row"] ["program", "rows"] (defScope s_sets_by_blocks) := ⟨rfl, rfl, rfl, by decide +kernel, rfl, by decide +kernel, by decide +kernel⟩
theorem ok_sets_by_blocks (F : FnP K "sets_by_blocks" "sets_by_blocks" s_sets_by_blocks f fd) (B : Blt mg) (C_defined_by : Cal P w K mg base "defined_by" 1 ["instruction"] spDby) : FnOk P w K mg base CX0 2 f fd ["program", "rows"] spByBlocks := by
  refine F.ok sc_sets_by_blocks (fun vs H Q E h => ?_) (fun cdv A outer s H vs Q E hr h => ⟨_, PSs.nox ((pss_cons (ps_set (i := 2) sc_sets_by_blocks.nd rfl (Or.inl rfl) (pe_lst pa_nil)) (pss_cons (ps_set (i := 3) sc_sets_by_blocks.nd rfl (Or.inl rfl) (pe_callTy call_list_of (by rfl) B.list (by decide +kernel) (pa_cons (pv 1) pa_nil))) (pss_cons (ps_for PassesOwn.never rfl (pi_tup (pv 0)) (pg_tup (by rfl) (pgs_cons (pg_name (i := 4) sc_sets_by_blocks.nd rfl (Or.inl rfl)) (pgs_cons (pg_name (i := 4) sc_sets_by_blocks.nd rfl (Or.inl rfl)) (pgs_cons (pg_name (i := 5) sc_sets_by_blocks.nd rfl (Or.inl rfl)) (pgs_cons (pg_name (i := 4) sc_sets_by_blocks.nd rfl (Or.inl rfl)) pgs_nil))))) (pss_cons (ps_set (i := 6) sc_sets_by_blocks.nd rfl (Or.inl rfl) (pe_op op_add pe_int (pe_callB call_len_seq (by rfl) B.len PySem.boot_len (pa_cons (pe_lc (own := [("row", 7)]) (g := (gName 7)) rfl sc_sets_by_blocks.nd (pi_tup (pv 5)) (blkOk_by (own := [("row", 7)]) (N := ["program", "rows", "found", "left", "_", "instructions", "many", "row"]) (sc := (defScope s_sets_by_blocks)) (by decide +kernel)) (fun _ _ _ _ _ => (pg_name (i := 7) sc_sets_by_blocks.nd rfl (Or.inl rfl))) (fun _ _ _ _ _ => pts_one (pt_cmpR op_notN (pe_cal C_defined_by (hr.mono (by decide)) (by rfl) (pa_cons (pv 7) pa_nil)) pe_non (nomark _))) (fun _ _ _ _ _ => (pv 7))) pa_nil)))) (pss_cons (ps_expr (pe_bm PySem.F.plainAttrs_list PySem.F.slot_list_append PySem.F.type_list_append mt_append (pv 2) (pa_cons (pe_slice sl_list (pv 3) po_none (po_some (pv 6))) pa_nil))) (pss_one (ps_set (i := 3) sc_sets_by_blocks.nd rfl (Or.inl rfl) (pe_slice sl_list (pv 3) (po_some (pv 6)) po_none)))))) (pss_one (ps_ret (pv 2))))))), ?_⟩)
  · obtain ⟨v, a, G, ws, rfl, _⟩ := h
    rfl
  · obtain ⟨v, a, G, ws, rfl, hP, S, ha, hws, k⟩ := h
    obtain ⟨xs, ⟨av, rfl, hav⟩, hp⟩ := id hP
    have hlen := pd_len hp
    have hG := S.len
    have hsl := sets_len S
    refine q_asgL (xs := []) (el_lst ea_nil (by decide)) fun l H1 hl e1 h1 => ?_
    refine q_asgL (el_listL (K := K) (ev_var rfl) (e1 _ _ ha)) fun l2 H2 hl2 e2 h2 => ?_
    have nll : l ≠ l2 := ne_of_none h1 hl2
    have e12 := e1.trans e2
    refine q_forT (a := av) (xs := xs) (ev_var rfl) (st_of (e12 _ _ hav)) (fun i σ' H' => ∃ l2 o4 o5 o6 o7, σ' = [some (.ref av), some (.ref a), some (.ref l), some (.ref l2), o4, o5, o6, o7] ∧ Ex H H' ∧ l ≠ l2 ∧ (∃ us, H' l2 = some (.lst us) ∧ Paired (SetAt H') us (restOf G i)) ∧ ∃ bs, H' l = some (.lst bs) ∧ Paired (fun v b => LSets H' v b ∧ v ≠ .ref l) bs ((List.range i).map (bsetsO G)))
      (fun H3 e3 => ⟨l2, none, none, none, none, rfl, e12.trans e3, nll, ⟨ws, e3 _ _ h2, Paired.mapP hws fun v b q => mono_set.e _ _ _ _ (e12.trans e3) q⟩, [], e3 _ _ (e2 _ _ h1), .nil⟩) (fun i σ' H' _ ⟨_, _, _, _, _, _, q, _⟩ => st_of (q _ _ hav)) ?_ ?_
    · rintro i x σ' H' hx ⟨l2, o4, o5, o6, o7, rfl, e3, nll, ⟨us, h3, p3⟩, bs, h4, p4⟩
      obtain ⟨B0, hB, hb⟩ := pd_get hp hx
      obtain ⟨vp, vi, vf, ⟨ab, rfl, hab⟩, _, ⟨is, ⟨ai, rfl, hai⟩, hpi⟩, _⟩ := hb
      have hBm := List.mem_of_getElem? hB
      have hiG := (List.getElem?_eq_some_iff.mp hB).1
      have hins := S.ins B0 hBm
      have hil := pd_len hpi
      have hbl := pd_len p4
      rw [List.length_map, List.length_range] at hbl
      refine g_tup4 (e3 _ _ hab) ?_
      -- many
      have hcomp : EvLP (fun _ _ (_ : Str) => True) (tLc (iTup K (tVar 5)) (gName 7) (tTest (tOp (fun x y H Q => y = .non ∧ Q (.bl (!decide (x = .non))) H) (tCall spDby [] E0 (tCons (tVar 7) tNil)) (tC .non))) (tVar 7) [7]) [some (.ref av), some (.ref a), some (.ref l), some (.ref l2), some vf, some (.ref ai), o6, o7] H' ((List.range is.length).filterMap fun i => B0.ins[i]?.bind dby) := by
        refine elp_lcn (fun _ _ _ _ _ h => h) (ei_tup (ev_var rfl) (e3 _ _ hai)) (by omega) _ (fun _ => rfl) (fun i H' x H'' y => y.1) (fun j x H4 hj e4 y => ?_) (fun j x b H4 hj e4 y hb => evr (ev_var rfl) fun _ _ => trivial)
        obtain ⟨r, hr, ra⟩ := pd_get hpi y.2
        rw [hr]
        exact ev_some (ev_dby (ev_var rfl) (ra.mono (tx (e3.trans e4))))
      rw [hil, fm_list] at hcomp
      have hmany := ev_op (σ := [some (.ref av), some (.ref a), some (.ref l), some (.ref l2), some vf, some (.ref ai), o6, o7]) (ev_c (v := .int 1)) (ev_lenLP (K := K) hcomp) (rv_I0 (g := fun i j => .int (i + j)))
      refine q_asg hmany fun H4 e4 => ?_
      have hm : V.int (1 + (((B0.ins.filterMap dby).length : Nat) : Int)) = V.int (((bsets G i B0).length : Nat) : Int) := by rw [bsets_many]; congr 1
      rw [hm]
      have hrest := rest_at hiG
      rw [bsetsO_at hB] at hrest
      have hul := pd_len p3
      have hmu : (bsets G i B0).length ≤ us.length := by rw [hul, hrest, List.length_append]; omega
      -- found.append(left[:many])
      have hsl1 : EvR (fun H2 v => ∃ p, v = .ref p ∧ p ≠ l ∧ p ≠ l2 ∧ H2 p = some (.lst (us.take (bsets G i B0).length))) (tSl (rSlL K) (tVar 3) tNoPart (tPart (tVar 6))) [some (.ref av), some (.ref a), some (.ref l), some (.ref l2), some vf, some (.ref ai), some (.int (((bsets G i B0).length : Nat) : Int)), o7] H4 := fun H5 e5 Q5 q5 =>
        el_sl (K := K) (a := l2) (ev_var rfl) eo_none (eo_some (ev_var rfl)) (sq_of (e4 _ _ h3)) H5 e5 Q5 fun p H6 hp6 e6 h6 => q5 _ H6 e6 ⟨p, rfl, (ne_of_none (e5 _ _ (e4 _ _ h4)) hp6).symm, (ne_of_none (e5 _ _ (e4 _ _ h3)) hp6).symm, by rw [h6, cut_take hmu]⟩
      refine q_appR (e4 _ _ h4) (ev_var rfl) hsl1 (by omega) fun vn H5 e5 hvn => ?_
      obtain ⟨pn, rfl, n1, n2, hpn⟩ := hvn
      have e35 := e4.trans e5
      have hl0 : H l = none := hl
      have ex5 := ex_upd (o := .lst (bs ++ [.ref pn])) e3 hl0 e35
      have t5 : TX H' (upd H5 l (.lst (bs ++ [.ref pn]))) := (tx e35).trans (tx_of (e35 _ _ h4) fun _ z => by cases z)
      have hl25 : upd H5 l (.lst (bs ++ [.ref pn])) l2 = some (.lst us) := by rw [upd_ne nll.symm]; exact e35 _ _ h3
      have hp5 : Paired (fun v b => LSets (upd H5 l (.lst (bs ++ [.ref pn]))) v b ∧ v ≠ .ref l) (bs ++ [.ref pn]) ((List.range (i + 1)).map (bsetsO G)) := by
        rw [List.range_succ, List.map_append]
        refine pd_append (Paired.mapP p4 fun v b q => ?_) (.cons ⟨⟨pn, rfl, us.take (bsets G i B0).length, by rw [upd_ne n1]; exact hpn, ?_⟩, fun e => n1 (V.ref.inj e)⟩ .nil)
        · obtain ⟨⟨al, rfl, wl, q1, q2⟩, q3⟩ := q
          have nal : al ≠ l := fun e => q3 (by rw [e])
          exact ⟨⟨al, rfl, wl, by rw [upd_ne nal]; exact e35 _ _ q1, Paired.mapP q2 fun v b z => mono_set _ _ _ _ t5 z⟩, q3⟩
        · have := pd_take (bsets G i B0).length p3
          rw [hrest, List.take_left'  rfl] at this
          rw [bsetsO_at hB]
          exact Paired.mapP this fun v b z => mono_set _ _ _ _ t5 z
      have hlf : upd H5 l (.lst (bs ++ [.ref pn])) l = some (.lst (bs ++ [.ref pn])) := upd_same
      have hp35 : Paired (SetAt (upd H5 l (.lst (bs ++ [.ref pn])))) us (restOf G i) := Paired.mapP p3 fun v b z => mono_set _ _ _ _ t5 z
      generalize upd H5 l (.lst (bs ++ [.ref pn])) = H6 at ex5 hl25 hp5 hlf hp35
      -- what is left behind the cut
      refine s_asgL (D := { nx := _, rt := _, bk := _, ct := _ }) (el_sl (K := K) (a := l2) (ev_var rfl) (eo_some (ev_var rfl)) eo_none (sq_of hl25)) fun l3 H7 hl3 e7 h7 => ?_
      rw [cut_drop hmu] at h7
      refine ⟨l3, _, _, _, _, rfl, ex5.trans e7, ne_of_none hlf hl3, ⟨_, h7, ?_⟩, _, e7 _ _ hlf, Paired.mapP hp5 fun v b q => ⟨mono_ls _ _ _ _ e7 q.1, q.2⟩⟩
      have := pd_drop (bsets G i B0).length hp35
      rw [hrest, List.drop_left' rfl] at this
      exact Paired.mapP this fun v b z => mono_set.e _ _ _ _ e7 z
    · rintro σ' H' ⟨l2, o4, o5, o6, o7, rfl, e3, nll, _, bs, h4, p4⟩
      rw [hlen] at p4
      exact s_ret (ev_var rfl) fun H5 e5 => k l H5 bs hl (e3.trans e5) (e5 _ _ h4) (Paired.mapP p4 fun v b q => mono_ls _ _ _ _ e5 q.1)
end
end Sh
end

section
set_option Elab.async false
set_option linter.all false
set_option maxRecDepth 100000
set_option maxHeartbeats 4000000
/-! Walks: free_location. -/
namespace Sh
open PySem PySem.Spec PyProof.Rows L2 Evl
/-- names with their locations, as a dict -/
def locK (ks : List Str) (L : Str → Str) : List (Key × V) := ks.map fun x => (Sum.inr x, V.str (L x))
theorem locK_val (L : Str → Str) (y : Str) : ∀ ks : List Str, valV (locK ks L) (Sum.inr y) = if y ∈ ks then some (.str (L y)) else none
  | [] => rfl
  | x :: ks => by
    have e : locK (x :: ks) L = (Sum.inr x, V.str (L x)) :: locK ks L := rfl
    rw [e]
    by_cases h : x = y
    · subst h
      rw [valV_pos rfl, if_pos (List.mem_cons_self ..)]
    · rw [valV_neg (fun z => h (Sum.inr.inj z)), locK_val L y ks]
      have h' : ¬ y = x := fun z => h z.symm
      by_cases q : y ∈ ks <;> simp [q, h']
def spFree : Sp := fun vs H Q _ => ∃ (a d : Addr) (nm px : Str) (ns ks : List Str) (L : Str → Str), vs = [.str nm, .ref a, .ref d, .str px] ∧ H a = some (.tup (ns.map V.str)) ∧ H d = some (.dK (locK ks L)) ∧ ns.length ≤ 400 ∧ px.length ≤ 10 ∧
  ∀ H' n, Ex H H' → n ≤ 400 → px ++ numS n ∉ takenOf ks L ns nm → (∀ m, m < n → px ++ numS m ∈ takenOf ks L ns nm) → Q (.str (px ++ numS n)) H'
theorem log_small {n : Nat} (h : n ≤ 1000) : n.log2 < 1920 := by
  have : ∀ n, n < 1001 → n.log2 < 1920 := by decide +kernel
  exact this n (by omega)
section
variable {P : Program} {w : World} {K : PySem.W.Frag} {mg : Str → Option Value} {base : Heap} {f C : Addr} {fd : FuncData} {σ : L2.St} {H : Hp} {g : TG} {tu tz : TS} {D : Ends} {ta tb te tl td tv ty : TE} {tr : TA} {tt : TT}
def rAddS0 : R2 := fun x y H Q => ∃ i j, x = .str i ∧ y = .str j ∧ i.length + j.length ≤ sizeLine ∧ Q (.str (i ++ j)) H
def rStrI : List V → Hp → VK → Prop := fun xs H Q => ∃ i, xs = [.int i] ∧ i.natAbs.log2 < 1920 ∧ Q (.str (toString i)) H
theorem ev_loc {px : Str} {n i j : Nat} (h1 : σ[i]? = some (some (.str px))) (h2 : σ[j]? = some (some (intV n))) (hn : n ≤ 1000) (hp : px.length ≤ 10) : Ev (tOp rAddS0 (tVar i) (tCB rStrI (tCons (tVar j) tNil))) σ H (.str (px ++ numS n)) := fun H1 e Q q =>
  ⟨.str px, h1, ⟨intV n, h2, ⟨(n : Int), rfl, by rw [Int.natAbs_natCast]; exact log_small hn, px, numS n, rfl, rfl, sz_of (by have := numS_len hn; omega), q H1 (Ex.refl H1)⟩⟩⟩
abbrev s_free_location : Stmt := top 21
abbrev n_free_location : List Str := ["name", "names", "known", "prefix", "taken", "number", "other"]
theorem sc_free_location : FnScope ["name", "names", "known", "prefix", "taken", "number", "other"] ["name", "names", "known", "prefix"] (defScope s_free_location) := ⟨rfl, rfl, rfl, by decide +kernel, rfl, by decide +kernel, by decide +kernel⟩
theorem ok_free_location (F : FnP K "free_location" "free_location" s_free_location f fd) (B : Blt mg) : FnOk P w K mg base CX0 1 f fd ["name", "names", "known", "prefix"] spFree := by
  refine F.ok sc_free_location (fun vs H Q E h => ?_) (fun cdv A outer s H vs Q E hr h => ⟨_, PSs.nox ((pss_cons (ps_setLc (i := 4) (own := [("other", 6)]) (g := (gName 6)) rfl sc_free_location.nd rfl rfl (sw_true rfl rfl rfl (by decide +kernel)) (pi_tup (pv 1)) (blkOk_by (own := [("other", 6)]) (N := ["name", "names", "known", "prefix", "taken", "number", "other"]) (sc := (defScope s_free_location)) (by decide +kernel)) (fun _ _ _ _ _ => (pg_name (i := 6) sc_free_location.nd rfl (Or.inl rfl))) (fun _ _ _ _ _ => pts_one (PW.pt (pw_and (pt_cmpR op_ne (pv 6) (pv 0) (nomark _)) (pw_and1 (pt_cmp (pc_din (hu_of hr) (pv 6) (pv 2))))))) (fun _ _ _ _ _ => (pe_dget (hu_of hr) (pv 2) (pv 6) (fun _ _ => rfl)))) (pss_cons (ps_set (i := 5) sc_free_location.nd rfl (Or.inl rfl) pe_int) (pss_cons (ps_while PassesOwn.never (pt_cmpR op_in_seq (pe_op op_add_str (pv 3) (pe_callTy call_str_int (by rfl) B.str (by decide +kernel) (pa_cons (pv 5) pa_nil))) (pv 4) (by rfl)) (pss_one (ps_aug (i := 5) sc_free_location.nd rfl (Or.inl rfl) pe_int ip_add))) (pss_one (ps_ret (pe_op op_add_str (pv 3) (pe_callTy call_str_int (by rfl) B.str (by decide +kernel) (pa_cons (pv 5) pa_nil))))))))), ?_⟩)
  · obtain ⟨a, d, nm, px, ns, ks, L, rfl, _⟩ := h
    rfl
  · obtain ⟨a, d, nm, px, ns, ks, L, rfl, ha, hd, hnl, hpl, k⟩ := h
    have htl : (takenOf ks L ns nm).length ≤ 400 := by
      unfold takenOf
      rw [List.length_map]
      exact Nat.le_trans (List.length_filter_le _ _) hnl
    have hcomp : EvLP (fun _ v b => v = V.str b) (tLc (iTup K (tVar 1)) (gName 6) (tAnd (tTest (tOp rNe (tVar 6) (tVar 0))) (tB (tDIn (tVar 6) (tVar 2)))) (tDGet (tVar 2) (tVar 6)) [6]) (start n_free_location [.str nm, .ref a, .ref d, .str px]) H (takenOf ks L ns nm) := by
      have h := elp_lcn (R := fun _ v b => v = V.str b) (t := tAnd (tTest (tOp rNe (tVar 6) (tVar 0))) (tB (tDIn (tVar 6) (tVar 2)))) (te := tDGet (tVar 2) (tVar 6)) (σ := start n_free_location [.str nm, .ref a, .ref d, .str px]) (vs := [6]) (j := 6) mono_eq (ei_map (ei_tup (K := K) (ev_var (i := 1) rfl) ha)) (by omega)
        (fun i => ns[i]?.bind fun y => if y ≠ nm ∧ y ∈ ks then some (L y) else none) (fun _ => rfl) (fun i H' x H'' y => y.1) (fun i x H' hi e y => ?_) (fun i x b H' hi e y hb => ?_)
      · rw [fm_list] at h
        have e9 : ns.filterMap (fun y => if y ≠ nm ∧ y ∈ ks then some (L y) else none) = takenOf ks L ns nm := by
          unfold takenOf
          rw [← List.filterMap_eq_map', ← fm_filter, List.filterMap_filterMap]
          congr 1
          funext y
          by_cases q : y ≠ nm ∧ y ∈ ks
          · rw [if_pos q, if_pos (decide_eq_true q)]; rfl
          · rw [if_neg q, if_neg (fun z => q (of_decide_eq_true z))]; rfl
        rw [e9] at h
        exact h
      · have y2 := y.2
        rw [List.getElem?_map] at y2
        cases hy : ns[i]? with
        | none => rw [hy] at y2; cases y2
        | some z =>
          rw [hy] at y2
          have y2 := Option.some.inj y2
          subst y2
          refine et_is (et_and (et_T (ev_op (ev_var rfl) (ev_var rfl) (rv_ne rfl))) fun _ => et_B (ev_din (k := Sum.inr z) (b := decide (z ∈ ks)) (ev_var rfl) (ev_var rfl) (e _ _ hd) (by rw [locK_val]; by_cases q : z ∈ ks <;> simp [q]))) ?_
          show (!decide (V.str z = V.str nm) && decide (z ∈ ks)) = Option.isSome (if z ≠ nm ∧ z ∈ ks then some (L z) else none)
          have e1 : decide (V.str z = V.str nm) = decide (z = nm) := decide_eq_decide.mpr ⟨fun q => V.str.inj q, fun q => by rw [q]⟩
          rw [e1]
          by_cases q1 : z = nm <;> by_cases q2 : z ∈ ks <;> simp [q1, q2]
      · have y2 := y.2
        rw [List.getElem?_map] at y2
        cases hy : ns[i]? with
        | none => rw [hy] at y2; cases y2
        | some z =>
          rw [hy] at y2 hb
          have y2 := Option.some.inj y2
          subst y2
          have hb : (if z ≠ nm ∧ z ∈ ks then some (L z) else none) = some b := hb
          by_cases q : z ≠ nm ∧ z ∈ ks
          · rw [if_pos q] at hb
            cases hb
            exact evr_eq (ev_dget (k := Sum.inr z) (ev_var rfl) (ev_var rfl) (e _ _ hd) (by rw [locK_val, if_pos q.2]))
          · rw [if_neg q] at hb
            cases hb
    refine q_asgL (el_of hcomp) fun lt H1 hlt e1 h1 => ?_
    refine q_asg ev_c fun H2 e2 => ?_
    generalize htk : takenOf ks L ns nm = tk at *
    have hpig : ∀ n, n ≤ 401 → (∀ m, m < n → px ++ numS m ∈ tk) → n ≤ tk.length := fun n hn h => by
      have := SF.nd_sub (l := (List.range n).map fun m => px ++ numS m) (m := tk) ?_ ?_
      · rw [List.length_map, List.length_range] at this
        exact this
      · rw [List.nodup_iff_pairwise_ne, List.pairwise_map]
        refine List.Pairwise.imp_of_mem (fun ha hb hab e => ?_) (List.pairwise_lt_range (n := n))
        have h1 := List.mem_range.mp ha
        have h2 := List.mem_range.mp hb
        have := numS_inj (by omega) (by omega) (app_inj e)
        omega
      · intro z hz
        obtain ⟨m, hm, rfl⟩ := List.mem_map.mp hz
        exact h m (List.mem_range.mp hm)
    refine q_while (fun m σ' H' => ∃ n, σ' = [some (.str nm), some (.ref a), some (.ref d), some (.str px), some (.ref lt), some (intV n), none] ∧ Ex H H' ∧ H' lt = some (.lst (tk.map V.str)) ∧ (∀ m, m < n → px ++ numS m ∈ tk) ∧ n ≤ 400 ∧ m = tk.length - n) _
      ⟨0, rfl, e1.trans e2, e2 _ _ h1, fun m hm => absurd hm (Nat.not_lt_zero m), by omega, rfl⟩ ?_
    rintro m σ' H3 ⟨n, rfl, e3, h3, h4, h5, rfl⟩
    refine ⟨decide (px ++ numS n ∈ tk), ?_, fun hc H4 e4 => ?_, fun hc H4 e4 => ?_⟩
    · refine et_is (et_T (ev_op (ev_loc (n := n) rfl rfl (by omega) hpl) (ev_var rfl) (rv_isL (sq_of h3) rfl (flat_strs _)))) ?_
      rw [inV_eq]
    · have hc := of_decide_eq_true hc
      have h6 : ∀ m, m < n + 1 → px ++ numS m ∈ tk := fun m hm => by
        by_cases q : m = n
        · rw [q]; exact hc
        · exact h4 m (by omega)
      have h7 := hpig (n + 1) (by omega) h6
      refine ⟨fun σ2 H2 => ∃ m', m' < tk.length - n ∧ ∃ n, σ2 = [some (.str nm), some (.ref a), some (.ref d), some (.str px), some (.ref lt), some (intV n), none] ∧ Ex H H2 ∧ H2 lt = some (.lst (tk.map V.str)) ∧ (∀ m, m < n → px ++ numS m ∈ tk) ∧ n ≤ 400 ∧ m' = tk.length - n, fun σ2 H2 h => h, ?_⟩
      refine s_aug (D := { nx := _, rt := _, bk := _, ct := _ }) (f := fun a b => a + b) (a := (n : Int)) (b := 1) rfl ev_c fun H5 e5 => ?_
      exact ⟨_, by omega, n + 1, rfl, e3.trans (e4.trans e5), e5 _ _ (e4 _ _ h3), h6, by omega, rfl⟩
    · have hc := of_decide_eq_false hc
      refine s_ret (ev_loc (n := n) rfl rfl (by omega) hpl) fun H5 e5 => k H5 n (e3.trans (e4.trans e5)) h5 hc h4
end
end Sh
end

section
set_option Elab.async false
set_option linter.all false
set_option maxRecDepth 100000
set_option maxHeartbeats 4000000
/-! Walks: assign. -/
namespace Sh
open PySem PySem.Spec PyProof.Rows L2 Evl Classical
open SF (WF InSet DefPt Dom TOrd)
theorem pset_nd {G : List PB} (W : WF (toPg G)) (b p : Nat) : (pset G b p).Nodup := List.Pairwise.filter _ (by have := W.nd; rw [← defsP_eq] at this; exact this)
theorem mem_dsets {G : List PB} {S : List Str} (h : S ∈ dsets G) : ∃ b B p, G[b]? = some B ∧ p ∈ bpts B ∧ S = pset G b p := by
  unfold dsets setsP setsTo at h
  obtain ⟨e, he, rfl⟩ := List.mem_map.mp h
  obtain ⟨l, hl, hel⟩ := List.mem_flatten.mp he
  obtain ⟨b, hb, rfl⟩ := List.mem_map.mp hl
  obtain ⟨B, hB⟩ : ∃ B, G[b]? = some B := ⟨_, List.getElem?_eq_getElem (List.mem_range.mp hb)⟩
  rw [bsetsO_at hB, bsets_pts] at hel
  obtain ⟨p, hp, rfl⟩ := List.mem_map.mp hel
  exact ⟨b, B, p, hB, hp, rfl⟩
theorem pset_in {G : List PB} {b p : Nat} {B : PB} (hB : G[b]? = some B) (hp : p ∈ bpts B) : pset G b p ∈ dsets G := by
  unfold dsets setsP setsTo
  refine List.mem_map.mpr ⟨(pset G b p, dn B p), List.mem_flatten.mpr ⟨bsetsO G b, List.mem_map.mpr ⟨b, List.mem_range.mpr (List.getElem?_eq_some_iff.mp hB).1, rfl⟩, ?_⟩, rfl⟩
  rw [bsetsO_at hB, bsets_pts]
  exact List.mem_map.mpr ⟨p, hp, rfl⟩
theorem dsets_ok {G : List PB} (S : Small G) (W : WF (toPg G)) : SetsOk (dsets G) (defsP G) where
  nd := fun T hT => by
    obtain ⟨b, B, p, _, _, rfl⟩ := mem_dsets hT
    exact pset_nd W b p
  sub := fun T hT x hx => by
    obtain ⟨b, B, p, _, _, rfl⟩ := mem_dsets hT
    exact (mem_pset.mp hx).1
  len := by
    have := sets_len S
    unfold dsets
    rw [List.length_map]
    omega
  al := S.defs
/-- what assign has chosen -/
structure AOk (G : List PB) (R : Nat) (out : List Str) (L : Str → Str) : Prop where
  nd : out.Nodup
  sub : ∀ x ∈ out, x ∈ defsP G
  fit : ∀ S ∈ dsets G, (stl out S).length ≤ R
  most : ∀ x ∈ out, ∃ S ∈ dsets G, x ∈ S ∧ R ≤ (stl out S).length
  col : ∃ ks, Col G out R ks L ∧ ∀ x ∈ defsP G, x ∈ ks
def spAssign (T : Addr) : Sp := fun vs H Q _ => ∃ (v : V) (G : List PB) (R : Nat), vs = [v, intV R] ∧ ProgAt H v G ∧ Small G ∧ WF (toPg G) ∧ TabQ H T lpos lq ∧
  ∀ p H' (o : Obj) (ps : List Addr) (out : List Str) (L : Str → Str), ExN H H' → TabQ H' T lpos lq → H' p = some (.frz o (.tup (ps.map V.ref))) → o.cls = .type "tuple" → o.dict = none → Paired (fun p x => H' p = some (.tup [.str x, .str (L x)])) ps (defsP G) → AOk G R out L → Q (.ref p) H'
theorem pd_refs {H : Hp} {α : Type} {f : α → List V} : ∀ {ws : List V} {xs : List α}, Paired (fun v x => TupAt H v (f x)) ws xs → ∃ ps : List Addr, ws = ps.map V.ref ∧ Paired (fun p x => H p = some (.tup (f x))) ps xs
  | _, _, .nil => ⟨[], rfl, .nil⟩
  | _, _, .cons ⟨a, e, h⟩ t => by
    obtain ⟨ps, e2, h2⟩ := pd_refs t
    exact ⟨a :: ps, by rw [e, e2]; rfl, .cons h h2⟩
theorem locK_put {ks : List Str} {L : Str → Str} {d z : Str} (h : d ∉ ks) : putK (locK ks L) (Sum.inr d) (.str z) = locK (ks ++ [d]) (fun x => if x = d then z else L x) := by
  rw [putK_new _ (by rw [locK_val, if_neg h])]
  unfold locK
  rw [List.map_append]
  congr 1
  · refine List.map_congr_left fun x hx => ?_
    show _ = ((Sum.inr x : Key), V.str (if x = d then z else L x))
    rw [if_neg (fun e => h (by rw [← e]; exact hx))]
  · show _ = [((Sum.inr d : Key), V.str (if d = d then z else L d))]
    rw [if_pos rfl]
section
variable {P : Program} {w : World} {K : PySem.W.Frag} {mg : Str → Option Value} {base : Heap} {f C : Addr} {fd : FuncData} {σ : L2.St} {H : Hp} {g : TG} {tu tz : TS} {D : Ends} {ta tb te tl td tv ty : TE} {tr : TA} {tt : TT}
theorem s_dputR {Rv : Hp → V → Prop} {d : Addr} {kvs : List (Key × V)} {kk : Key} (hd : H d = some (.dK kvs)) (hv : EvR Rv tv σ H) (ho : Ev td σ H (.ref d)) (hy : Ev ty σ H (kV kk)) (hz : kvs.length < 100000) (k : ∀ v H1 H2, Ex H H1 → Rv H1 v → Ex H1 H2 → D.nx σ (upd H2 d (.dK (putK kvs kk v)))) : sDPut td ty tv D σ H :=
  hv H (Ex.refl H) _ fun v H1 e1 r => ho H1 e1 _ fun H2 e2 => hy H2 (e1.trans e2) _ fun H3 e3 => ⟨d, _, rfl, DPut.k (((e1.trans e2).trans e3) _ _ hd) (sz_lt hz), k v H1 H3 e1 r (e2.trans e3)⟩
theorem s_retTupF {α : Type} {R : Hp → V → α → Prop} {bs : List α} (h : EvLP R ta σ H bs) (k : ∀ p H1 ws l (o : Obj), Ex H H1 → H1 p = some (.lst ws) → Paired (R H1) ws bs → H1 l = none → o.cls = .type "tuple" → o.dict = none → D.rt (.ref l) (upd H1 l (.frz o (.tup ws)))) :
    tRet (tCB (rTupF K) (tCons ta tNil)) D σ H := h H (Ex.refl H) _ fun p H1 ws _ e h1 h2 => ⟨p, ws, rfl, sq_of h1, fun l o hl h3 h4 => k p H1 ws l o e h1 h2 hl h3 h4⟩
abbrev s_assign : Stmt := top 22
abbrev n_assign : List Str := ["program", "registers", "rows", "names", "out", "by_blocks", "known", "number", "defined", "name", "_"]
theorem sc_assign : FnScope ["program", "registers", "rows", "names", "out", "by_blocks", "known", "number", "defined", "name", "_"] ["program", "registers"] (defScope s_assign) := ⟨rfl, rfl, rfl, by decide +kernel, rfl, by decide +kernel, by decide +kernel⟩
theorem ok_assign {T fi fs : Addr} {fdi fds : FuncData} (F : FnP K "assign" "assign" s_assign f fd) (B : Blt mg) (TL : TxL K C) (MLiving : Mk K C fi) (GLiving : FnOk P w K mg base CX0 5 fi fdi ["self", "program"] (spInit C)) (MGL : mg "Living" = some (.ref C)) (BL : Binds K fdi ["self", "program"] [])
    (M_sets : Meth K C "sets" fs) (G_sets : FnOk P w K mg base CX0 2 fs fds ["self"] (spSets C)) (B_sets : Binds K fds ["self"] []) (C_spilled : Cal P w K mg base "spilled" 4 ["program", "sets", "registers"] (spSpilled T)) (C_sets_by_blocks : Cal P w K mg base "sets_by_blocks" 2 ["program", "rows"] spByBlocks)
    (C_tree_order : Cal P w K mg base "tree_order" 5 ["program"] spTree) (C_free_location : Cal P w K mg base "free_location" 1 ["name", "names", "known", "prefix"] spFree) (C_definitions : Cal P w K mg base "definitions" 2 ["program"] spDefs) : FnOk P w K mg base CX0 7 f fd ["program", "registers"] (spAssign T) := by
  refine F.ok sc_assign (fun vs H Q E h => ?_) (fun cdv A outer s H vs Q E hr h => ⟨_, PSs.nox ((pss_cons (ps_set (i := 2) sc_assign.nd rfl (Or.inl rfl) (pe_meth0 (pe_make MLiving GLiving (hr.mono (by decide)) (by rfl) MGL BL .nil pass0 (pa_cons (pv 0) pa_nil)) TL.cl M_sets G_sets (hr.mono (by decide)) B_sets .nil pass0)) (pss_cons (ps_set (i := 4) sc_assign.nd rfl (Or.inl rfl) (pe_cal C_spilled (hr.mono (by decide)) (by rfl) (pa_cons (pv 0) (pa_cons (pe_lc (own := [("names", 3), ("_", 10)]) (g := (gTup K 2 (gCons (gName 3) (gCons (gName 10) gNil)))) rfl sc_assign.nd (pi_list (pv 2)) (blkOk_by (own := [("names", 3), ("_", 10)]) (N := ["program", "registers", "rows", "names", "out", "by_blocks", "known", "number", "defined", "name", "_"]) (sc := (defScope s_assign)) (by decide +kernel)) (fun _ _ _ _ _ => (pg_tupK (K := K) rfl rfl (pgs_cons (pg_name (i := 3) sc_assign.nd rfl (Or.inl rfl)) (pgs_cons (pg_name (i := 10) sc_assign.nd rfl (Or.inl rfl)) pgs_nil)))) (fun _ _ _ _ _ => pts_nil) (fun _ _ _ _ _ => (pv 3))) (pa_cons (pv 1) pa_nil))))) (pss_cons (ps_set (i := 5) sc_assign.nd rfl (Or.inl rfl) (pe_cal C_sets_by_blocks (hr.mono (by decide)) (by rfl) (pa_cons (pv 0) (pa_cons (pv 2) pa_nil)))) (pss_cons (ps_set (i := 6) sc_assign.nd rfl (Or.inr rfl) pe_dnewK) (pss_cons (ps_for PassesOwn.never rfl (pi_list (pe_cal C_tree_order (hr.mono (by decide)) (by rfl) (pa_cons (pv 0) pa_nil))) (pg_name (i := 7) sc_assign.nd rfl (Or.inl rfl)) (pss_one (ps_for PassesOwn.never rfl (pi_list (pe_ix ix_list (pv 5) (pv 7) (fun _ _ => rfl))) (pg_tup (by rfl) (pgs_cons (pg_name (i := 3) sc_assign.nd rfl (Or.inl rfl)) (pgs_cons (pg_name (i := 8) sc_assign.nd rfl (Or.inl rfl)) pgs_nil))) (pss_one (ps_for PassesOwn.never rfl (pi_tup (pv 8)) (pg_name (i := 9) sc_assign.nd rfl (Or.inl rfl)) (pss_one (ps_dput (hu_of hr) (pv 6) (pv 9) (pe_cal C_free_location (hr.mono (by decide)) (by rfl) (pa_cons (pv 9) (pa_cons (pv 3) (pa_cons (pv 6) (pa_cons (pe_ifExp (pt_cmpR op_in_seq (pv 9) (pv 4) (by rfl)) pe_str pe_str) pa_nil))))) rfl))))))) (pss_one (ps_ret (pe_callTy call_tupF (by rfl) B.tuple (by decide +kernel) (pa_cons (pe_lc (own := [("name", 9)]) (g := (gName 9)) rfl sc_assign.nd (pi_tup (pe_cal C_definitions (hr.mono (by decide)) (by rfl) (pa_cons (pv 0) pa_nil))) (blkOk_by (own := [("name", 9)]) (N := ["program", "registers", "rows", "names", "out", "by_blocks", "known", "number", "defined", "name", "_"]) (sc := (defScope s_assign)) (by decide +kernel)) (fun _ _ _ _ _ => (pg_name (i := 9) sc_assign.nd rfl (Or.inl rfl))) (fun _ _ _ _ _ => pts_nil) (fun _ _ _ _ _ => (pe_tup (pa_cons (pv 9) (pa_cons (pe_dget (hu_of hr) (pv 6) (pv 9) (fun _ _ => rfl)) pa_nil))))) pa_nil)))))))))), ?_⟩)
  · obtain ⟨v, G, R, rfl, _⟩ := h
    rfl
  · obtain ⟨v, G, R, rfl, hP, S, hW, hT, k⟩ := h
    have hsl := sets_len S
    have hdl := S.defs
    have hG := S.len
    have hok := dsets_ok S hW
    have hG0 : 0 < G.length := by have := hW.pos; unfold toPg at this; rwa [List.length_map] at this
    have hR : ∀ b, b < G.length → SF.Reach (suc G) b := fun b hb => hW.reach b (by unfold toPg; rw [List.length_map]; exact hb)
    -- rows
    refine q_asgLP (elp_sets (ev_var rfl) hP S hW) fun pr H1 ws hpr e1 h1 p1 => ?_
    -- out
    refine q_raw ?_
    have hc : EvLP StrsAt (tLc (iList K (tVar 2)) (gTup K 2 (gCons (gName 3) (gCons (gName 10) gNil))) tYes (tVar 3) [3, 10]) ((start n_assign [v, intV R]).set 2 (some (.ref pr))) H1 (dsets G) := by
      intro H2 e2 Q2 q2
      refine ⟨.ref pr, rfl, pr, rfl, ⟨ws, sq_of (e2 _ _ h1)⟩, fun D hD => ?_⟩
      refine lc_pd (n := ws.length) (walk_list (K := K)) hD mono_set.e mono_strs (Paired.mapP p1 fun v b q => mono_set.e _ _ _ _ e2 q) (by omega) (fun e => some e.1) (fun H' e => sq_of ((e2.trans e) _ _ h1)) ?_ fun H' us e3 h3 h4 => ?_
      · rintro x ⟨ns, ds⟩ H' e3 ⟨vn, vd, ⟨t, rfl, ht⟩, hn, hd⟩ hm Cc c
        refine g_tup2 ht (c _ _ rfl (Ex.refl _) et_yes fun c hc => ?_)
        cases hc
        exact evr (ev_var rfl) fun H2 e2 => hn.mono (tx e2)
      · rw [fm_some] at h4
        exact q2 D H' us hD e3 h3 h4
    refine ⟨v, rfl, hc H1 (Ex.refl _) _ fun pl H3 us hpl e3 h3 p3 => ⟨intV R, rfl, ?_⟩⟩
    have e2 := Ex.refl H1
    have e4 := Ex.refl H3
    have e04 : Ex H H3 := e1.trans (e2.trans (e3.trans e4))
    refine ⟨v, pl, G, us, dsets G, R, rfl, hP.mono (tx e04), S, hW, e4 _ _ h3, Paired.mapP p3 fun v b q => mono_strs.e _ _ _ _ e4 q, hok, hT.ext e04, fun lo H5 out eN hT5 hlo hnd hsub hfit hmost => ?_⟩
    have eN0 : ExN H H5 := LamX.ExtN.trans (exn_of e04) eN
    have hP5 : ProgAt H5 v G := hP.mono (tx_n eN0)
    have e14 : Ex H1 H3 := e2.trans (e3.trans e4)
    have h15 : H5 pr = some (.lst ws) := eN _ _ (e14 _ _ h1) fun _ z => by cases z
    have p15 : Paired (SetAt H5) ws (setsP G) := Paired.mapP p1 fun v b q => mono_set _ _ _ _ ((tx e14).trans (tx_n eN)) q
    clear hc
    -- by_blocks
    have hbb : EvLP LSets (tCall spByBlocks [] E0 (tCons (tVar 0) (tCons (tVar 2) tNil))) (((start n_assign [v, intV R]).set 2 (some (.ref pr))).set 4 (some (.ref lo))) H5 ((List.range G.length).map (bsetsO G)) := fun H6 e6 Q6 q6 =>
      ea2 (ev_var (i := 0) rfl) (ev_var (i := 2) rfl) H6 (Ex.refl _) _ fun H7 e7 => ⟨v, pr, G, ws, rfl, hP5.mono (tx (e6.trans e7)), S, (e6.trans e7) _ _ h15, Paired.mapP p15 fun v b q => mono_set.e _ _ _ _ (e6.trans e7) q, fun p H8 bs hp8 e8 h8 p8 => q6 p H8 bs (fresh_back e7 hp8) (e7.trans e8) h8 p8⟩
    refine q_asgLP hbb fun lb HB bs hlb eB hB pB => ?_
    have hPB : ProgAt HB v G := hP5.mono (tx eB)
    have hloB : HB lo = some (.lst (out.map V.str)) := eB _ _ hlo
    have hTB : TabQ HB T lpos lq := hT5.ext eB
    have eNB : ExN H HB := LamX.ExtN.trans eN0 (exn_of eB)
    clear hbb
    -- known
    refine q_asgD ed_new fun kd H6 hkd e6 h6 => ?_
    have htree : ∀ H7, Ex H6 H7 → ∀ Q : VK, (∀ p H2 (ns : List Nat), H7 p = none → Ex H7 H2 → H2 p = some (.lst (ns.map intV)) → TOrd (suc G) G.length ns → Q (.ref p) H2) → tCall spTree [] E0 (tCons (tVar 0) tNil) [some v, some (intV R), some (.ref pr), none, some (.ref lo), some (.ref lb), some (.ref kd), none, none, none, none] H7 Q := fun H7 e7 Q7 q7 =>
      ⟨v, rfl, v, G, rfl, hPB.mono (tx (e6.trans e7)), S, hG0, hR, fun p H8 ns hp8 e8 h8 t8 => q7 p H8 ns hp8 e8 h8 t8⟩
    have hblk : ∀ b, b < G.length → ∃ x, bs[b]? = some x ∧ LSets HB x (bsetsO G b) := fun b hb => by
      obtain ⟨x, hx, hl⟩ := pd_get' pB (i := b) (y := bsetsO G b) (by rw [List.getElem?_map, List.getElem?_range hb]; rfl)
      exact ⟨x, hx, hl⟩
    refine htree H6 (Ex.refl _) _ fun pt H7 ns hpt e7 h7 TO => ⟨pt, rfl, ⟨_, sq_of h7⟩, ?_⟩
    have npk : pt ≠ kd := (ne_of_none h6 hpt).symm
    refine for_list (K := K) (a := pt) (xs := ns.map intV) (fun i σ' H' => (∃ o3 o7 o8 o9, σ' = [some v, some (intV R), some (.ref pr), o3, some (.ref lo), some (.ref lb), some (.ref kd), o7, o8, o9, none]) ∧ Ex HB H' ∧ H' pt = some (.lst (ns.map intV)) ∧ ∃ ks L, H' kd = some (.dK (locK ks L)) ∧ Col G out R ks L ∧ ∀ x, x ∈ ks ↔ ∃ b ∈ ns.take i, ∃ q, DefPt (toPg G) x b q)
      ⟨⟨none, none, none, none, rfl⟩, e6.trans e7, h7, [], fun x => x, e7 _ _ h6, Col.nil G out R _, fun x => by simp⟩ (fun i σ' H' _ q => sq_of q.2.2.1) ?_ ?_
    · rintro i x σ' H' hx ⟨⟨o3, o7, o8, o9, rfl⟩, e8, h8, ks, L, h9, hC, hm⟩
      rw [List.getElem?_map] at hx
      cases hb : ns[i]? with
      | none => rw [hb] at hx; cases hx
      | some b =>
        rw [hb] at hx
        have hx := Option.some.inj hx
        subst hx
        have hbn : b < G.length := (TO.all b).mp (List.mem_of_getElem? hb)
        obtain ⟨B0, hB0⟩ : ∃ B0, G[b]? = some B0 := ⟨_, List.getElem?_eq_getElem hbn⟩
        obtain ⟨xb, hxb, ab, rfl, we, hwe, pwe⟩ := hblk b hbn
        rw [bsetsO_at hB0, bsets_pts] at pwe
        have hwl := pd_len pwe
        rw [List.length_map] at hwl
        have hnsb : b ∉ ns.take i := fun z => by
          obtain ⟨j, hj, e⟩ := List.getElem_of_mem z
          rw [List.length_take] at hj
          rw [List.getElem_take] at e
          have := nd_get TO.nd (i := j) (j := i) (a := b) (by rw [List.getElem?_eq_getElem (by omega), e]) hb
          omega
        refine s_forL (D := { nx := _, rt := _, bk := _, ct := _ }) (a := ab) (xs := we) (ev_ixL (ev_var rfl) (e8 _ _ hB) (ev_var rfl) (atI_nat (j := b) hxb)) (sq_of (e8 _ _ hwe)) (fun j σ' H' => (∃ o3 o8 o9, σ' = [some v, some (intV R), some (.ref pr), o3, some (.ref lo), some (.ref lb), some (.ref kd), some (intV b), o8, o9, none]) ∧ Ex HB H' ∧ H' pt = some (.lst (ns.map intV)) ∧ ∃ ks L, H' kd = some (.dK (locK ks L)) ∧ Col G out R ks L ∧ ∀ x, x ∈ ks ↔ (∃ b ∈ ns.take i, ∃ q, DefPt (toPg G) x b q) ∨ ∃ q ∈ (bpts B0).take j, DefPt (toPg G) x b q)
          (fun H9 e9 => ⟨⟨_, _, _, rfl⟩, e8.trans e9, e9 _ _ h8, ks, L, e9 _ _ h9, hC, fun x => by rw [hm]; simp⟩) (fun j σ' H' _ q => sq_of (q.2.1 _ _ hwe)) ?_ ?_
        · rintro j xe σ' H9 hxe ⟨⟨o3, o8, o9, rfl⟩, e9, h10, ks, L, h11, hC, hm⟩
          obtain ⟨ent, hent, vn, vd, ⟨te, rfl, hte⟩, ⟨tn, rfl, htn⟩, ⟨td, rfl, htd⟩⟩ := pd_get pwe hxe
          rw [List.getElem?_map] at hent
          cases hq : (bpts B0)[j]? with
          | none => rw [hq] at hent; cases hent
          | some q =>
            rw [hq] at hent
            have hent := Option.some.inj hent
            subst hent
            have hqm := List.mem_of_getElem? hq
            refine g_tup2 (e9 _ _ hte) ?_
            refine s_forT (D := { nx := _, rt := _, bk := _, ct := _ }) (a := td) (xs := (dn B0 q).map V.str) (ev_var rfl) (st_of (e9 _ _ htd)) (fun l σ' H' => (∃ o9, σ' = [some v, some (intV R), some (.ref pr), some (.ref tn), some (.ref lo), some (.ref lb), some (.ref kd), some (intV b), some (.ref td), o9, none]) ∧ Ex HB H' ∧ H' pt = some (.lst (ns.map intV)) ∧ ∃ ks L, H' kd = some (.dK (locK ks L)) ∧ Col G out R ks L ∧ ∀ x, x ∈ ks ↔ ((∃ b ∈ ns.take i, ∃ q, DefPt (toPg G) x b q) ∨ ∃ q ∈ (bpts B0).take j, DefPt (toPg G) x b q) ∨ x ∈ (dn B0 q).take l)
              (fun HA eA => ⟨⟨_, rfl⟩, e9.trans eA, eA _ _ h10, ks, L, eA _ _ h11, hC, fun x => by rw [hm]; simp⟩) (fun l σ' H' _ q => st_of (q.2.1 _ _ htd)) ?_ ?_
            · rintro l xd σ' HA hxd ⟨⟨o9, rfl⟩, eA, hA1, ks, L, hA2, hC, hm⟩
              rw [List.getElem?_map] at hxd
              cases hd : (dn B0 q)[l]? with
              | none => rw [hd] at hxd; cases hxd
              | some d =>
                rw [hd] at hxd
                have hxd := Option.some.inj hxd
                subst hxd
                have hD : DefPt (toPg G) d b q := (dn_pt hB0).mp (List.mem_of_getElem? hd)
                have hinc := pts_inc B0
                have ptlt : ∀ q' ∈ (bpts B0).take j, q' < q := fun q' hq' => by
                  obtain ⟨m, hm, e⟩ := List.getElem_of_mem hq'
                  rw [List.length_take] at hm
                  rw [List.getElem_take] at e
                  obtain ⟨hj, eq⟩ := List.getElem?_eq_some_iff.mp hq
                  have := List.pairwise_iff_getElem.mp hinc m j (by omega) hj (by omega)
                  omega
                have hdn : (dn B0 q).Nodup := by
                  unfold dn
                  split
                  · have h1 : (SF.bdefs (toBk G B0)).Nodup := SF.nodup_part hW.nd (List.mem_map.mpr ⟨_, List.mem_of_getElem? (pg_at hB0), rfl⟩)
                    unfold SF.bdefs at h1
                    rw [List.nodup_append] at h1
                    exact h1.1
                  · cases B0.ins[q - 1]?.bind dby <;> simp
                have hdk : d ∉ ks := by
                  rw [hm]
                  rintro ((⟨b', hb', q', hD'⟩ | ⟨q', hq', hD'⟩) | h)
                  · obtain ⟨rfl, _⟩ := DefPt.uniq hW hD hD'
                    exact hnsb hb'
                  · obtain ⟨_, rfl⟩ := DefPt.uniq hW hD hD'
                    exact absurd (ptlt _ hq') (Nat.lt_irrefl _)
                  · obtain ⟨m, hm, e⟩ := List.getElem_of_mem h
                    rw [List.length_take] at hm
                    rw [List.getElem_take] at e
                    have := nd_get hdn (i := m) (j := l) (a := d) (by rw [List.getElem?_eq_getElem (by omega), e]) hd
                    omega
                have hdc : ∀ z, sb G z d → z ∈ ks := by
                  rintro z ⟨e, i', d', j', hz, hd', h⟩
                  obtain ⟨rfl, rfl⟩ := DefPt.uniq hW hD hd'
                  rw [hm]
                  rcases h with ⟨rfl, h⟩ | ⟨h1, h2⟩
                  · refine .inl (.inr ⟨i', ?_, hz⟩)
                    have hin := pt_in hB0 hz
                    obtain ⟨m, hm, em⟩ := List.getElem_of_mem hin
                    obtain ⟨hj, eq⟩ := List.getElem?_eq_some_iff.mp hq
                    have hmj : m < j := by
                      refine Classical.byContradiction fun nz => ?_
                      by_cases ej : m = j
                      · subst ej; omega
                      · have := List.pairwise_iff_getElem.mp hinc j m hj hm (by omega)
                        omega
                    rw [← em]
                    exact List.mem_take_iff_getElem.mpr ⟨m, by omega, rfl⟩
                  · refine .inl (.inl ⟨e, ?_, i', hz⟩)
                    have hsplit : ns = ns.take i ++ b :: ns.drop (i + 1) := by rw [← drop_at hb, List.take_append_drop]
                    exact TO.ord _ _ _ hsplit e (by have := hz.lt; unfold toPg at this; rwa [List.length_map] at this) h2 h1
                have hpl : (pset G b q).length ≤ 400 := Nat.le_trans (List.length_filter_le _ _) hdl
                have hkl : ks.length ≤ 400 := Nat.le_trans (SF.nd_sub hC.nd hC.sub) hdl
                have hpfl : (pf out d).length ≤ 10 := by unfold pf; split <;> decide
                have hpx : Ev (tIf (tTest (tOp (rIn K false) (tVar 9) (tVar 4))) (tC (.str "s")) (tC (.str "r"))) [some v, some (intV R), some (.ref pr), some (.ref tn), some (.ref lo), some (.ref lb), some (.ref kd), some (intV b), some (.ref td), some (.str d), none] HA (.str (pf out d)) := by
                  refine ev_if (b := decide (d ∈ out)) (et_is (et_T (ev_op (ev_var rfl) (ev_var rfl) (rv_isL (sq_of (eA _ _ hloB)) rfl (flat_strs _)))) (inV_eq d out)) (fun hb => ?_) (fun hb => ?_)
                  · unfold pf
                    rw [if_pos (of_decide_eq_true hb)]
                    exact ev_c
                  · unfold pf
                    rw [if_neg (of_decide_eq_false hb)]
                    exact ev_c
                refine s_dputR (D := { nx := _, rt := _, bk := _, ct := _ }) (Rv := fun _ y => ∃ n, y = .str (pf out d ++ numS n) ∧ n ≤ 400 ∧ pf out d ++ numS n ∉ takenOf ks L (pset G b q) d ∧ ∀ m, m < n → pf out d ++ numS m ∈ takenOf ks L (pset G b q) d) (kk := Sum.inr d) hA2 ?_ (ev_var rfl) (ev_var rfl) (by unfold locK; rw [List.length_map]; omega) fun y HC HD eC hy eD => ?_
                · refine evr_call (ea_cons (ev_var rfl) (ea3 (ev_var rfl) (ev_var rfl) hpx)) fun HC eC QC qC => ?_
                  exact ⟨tn, kd, d, pf out d, pset G b q, ks, L, rfl, (eA.trans eC) _ _ htn, eC _ _ hA2, hpl, hpfl, fun HD n eD h1 h2 h3 => qC _ HD eD ⟨n, rfl, h1, h2, h3⟩⟩
                · obtain ⟨n, rfl, hn4, hfree, hmin⟩ := hy
                  rw [locK_put hdk]
                  have hkB : HB kd = none := hkd
                  refine ⟨⟨_, rfl⟩, ex_upd eA hkB (eC.trans eD), by rw [upd_ne npk]; exact (eC.trans eD) _ _ hA1, ks ++ [d], _, upd_same, hC.step hW hD hdk hdc hfree hmin hn4 (hfit _ (pset_in hB0 hqm)), fun x => ?_⟩
                  rw [List.mem_append, hm, take_succ hd, List.mem_append]
                  constructor
                  · rintro ((h | h) | h)
                    · exact .inl h
                    · exact .inr (.inl h)
                    · exact .inr (.inr h)
                  · rintro (h | h | h)
                    · exact .inl (.inl h)
                    · exact .inl (.inr h)
                    · exact .inr h
            · rintro σ' HA ⟨⟨o9, rfl⟩, eA, hA1, ks, L, hA2, hC, hm⟩
              refine ⟨⟨_, _, _, rfl⟩, eA, hA1, ks, L, hA2, hC, fun x => ?_⟩
              rw [hm, List.length_map, List.take_length, take_succ hq]
              constructor
              · rintro ((h | ⟨q', h1, h2⟩) | h)
                · exact .inl h
                · exact .inr ⟨q', List.mem_append_left _ h1, h2⟩
                · exact .inr ⟨q, List.mem_append_right _ (List.mem_singleton.mpr rfl), (dn_pt hB0).mp h⟩
              · rintro (h | ⟨q', h1, h2⟩)
                · exact .inl (.inl h)
                · rcases List.mem_append.mp h1 with h1 | h1
                  · exact .inl (.inr ⟨q', h1, h2⟩)
                  · rw [List.mem_singleton.mp h1] at h2
                    exact .inr ((dn_pt hB0).mpr h2)
        · rintro σ' H9 ⟨⟨o3, o8, o9, rfl⟩, e9, h10, ks, L, h11, hC, hm⟩
          refine ⟨⟨_, _, _, _, rfl⟩, e9, h10, ks, L, h11, hC, fun x => ?_⟩
          rw [hm, hwl, List.take_length, take_succ hb]
          constructor
          · rintro (⟨b', h1, q, h2⟩ | ⟨q, h1, h2⟩)
            · exact ⟨b', List.mem_append_left _ h1, q, h2⟩
            · exact ⟨b, List.mem_append_right _ (List.mem_singleton.mpr rfl), q, h2⟩
          · rintro ⟨b', h1, q, h2⟩
            rcases List.mem_append.mp h1 with h1 | h1
            · exact .inl ⟨b', h1, q, h2⟩
            · rw [List.mem_singleton.mp h1] at h2
              exact .inr ⟨q, pt_in hB0 h2, h2⟩
    · rintro σ' H' ⟨⟨o3, o7, o8, o9, rfl⟩, e8, h8, ks, L, h9, hC, hm⟩
      rw [List.length_map, List.take_length] at hm
      have hall : ∀ x ∈ defsP G, x ∈ ks := fun x hx => by
        obtain ⟨e, j, hD⟩ := def_of hx
        exact (hm x).mpr ⟨e, (TO.all e).mpr (by have := hD.lt; unfold toPg at this; rwa [List.length_map] at this), j, hD⟩
      have hres : EvLP (fun H v x => TupAt H v [.str x, .str (L x)]) (tLc (iTup K (tCall spDefs [] E0 (tCons (tVar 0) tNil))) (gName 9) tYes (tTup (tCons (tVar 9) (tCons (tDGet (tVar 6) (tVar 9)) tNil))) [9]) [some v, some (intV R), some (.ref pr), o3, some (.ref lo), some (.ref lb), some (.ref kd), o7, o8, o9, none] H' (defsP G) := by
        have h := elp_lcn (R := fun H v x => TupAt H v [.str x, .str (L x)]) (t := tYes) (te := tTup (tCons (tVar 9) (tCons (tDGet (tVar 6) (tVar 9)) tNil))) (σ := [some v, some (intV R), some (.ref pr), o3, some (.ref lo), some (.ref lb), some (.ref kd), o7, o8, o9, none]) (vs := [9]) (j := 9) (fun _ _ _ _ e h => TupAt.mono e h) (ei_map (ei_tupW (K := K) (ew_new (eu_defs (ev_var (i := 0) rfl) (hPB.mono (tx e8)) S)))) (by omega)
          (fun i => (defsP G)[i]?.bind fun y => some y) (fun _ => rfl) (fun i H' x H'' y => y.1) (fun i x H'' hi e y => ?_) (fun i x b H'' hi e y hb => ?_)
        · rw [fm_list, fm_some, List.map_id'] at h
          exact h
        · rw [List.getElem?_eq_getElem hi]
          exact et_yes
        · have y2 := y.2
          rw [List.getElem?_map] at y2
          cases hy : (defsP G)[i]? with
          | none => rw [hy] at y2; cases y2
          | some z =>
            rw [hy] at y2 hb
            have y2 := Option.some.inj y2
            subst y2
            cases hb
            exact er_tup2 (ev_var rfl) (ev_dget (k := Sum.inr b) (ev_var rfl) (ev_var rfl) (e _ _ h9) (by rw [locK_val, if_pos (hall b (List.mem_of_getElem? hy))]))
      refine s_retTupF hres fun pd H9 wd z o e9 h10 p10 hz hoc hod => ?_
      obtain ⟨ps, rfl, pps⟩ := pd_refs p10
      have eF : Ex H9 (upd H9 z (.frz o (.tup (ps.map V.ref)))) := Ex.new hz
      exact k z _ o ps out L (LamX.ExtN.trans eNB (exn_of (e8.trans (e9.trans eF)))) (hTB.ext (e8.trans (e9.trans eF))) upd_same hoc hod (Paired.mapP pps fun p x q => eF _ _ q) ⟨hnd, hsub, hfit, hmost, ks, hC, hall⟩
end
end Sh
end

section
set_option Elab.async false
set_option linter.all false
set_option maxRecDepth 100000
set_option maxHeartbeats 4000000
/-! Walks: _law_cell, _law_digits, _law_draw, _law_pick. -/
namespace Sh
open PySem PySem.Spec PyProof.Rows L2 Evl
def spCellI (K : PySem.W.Frag) : Sp := fun vs H Q _ => ∃ (a : Addr) (ns : List Int) (k : Nat), vs = [.ref a, intV k] ∧ SqL K H a (ns.map V.int) ∧ ∀ H' i, Ex H H' → Q (.int i) H'
def spDigits (K : PySem.W.Frag) : Sp := fun vs H Q _ => ∃ (a : Addr) (ns : List Int), vs = [.ref a, .int 0, .int 60] ∧ SqL K H a (ns.map V.int) ∧ ∀ p H' (ds : List Int), H p = none → Ex H H' → H' p = some (.lst (ds.map V.int)) → Q (.ref p) H'
section
variable {P : Program} {w : World} {K : PySem.W.Frag} {mg : Str → Option Value} {base : Heap} {f C : Addr} {fd : FuncData} {σ : L2.St} {H : Hp} {g : TG} {tu tz : TS} {D : Ends} {ta tb te tl td tv ty : TE} {tr : TA} {tt : TT}
abbrev s_law_cell : Stmt := top 25
abbrev n_law_cell : List Str := ["_law_script", "_law_k"]
theorem sc_law_cell : FnScope ["_law_script", "_law_k"] ["_law_script", "_law_k"] (defScope s_law_cell) := ⟨rfl, rfl, rfl, by decide +kernel, rfl, by decide +kernel, by decide +kernel⟩
theorem ok__law_cell (F : FnP K "_law_cell" "_law_cell" s_law_cell f fd) (B : Blt mg) : FnOk P w K mg base CX0 1 f fd ["_law_script", "_law_k"] (spCellI K) := by
  refine F.ok sc_law_cell (fun vs H Q E h => ?_) (fun cdv A outer s H vs Q E hr h => ⟨_, PSs.nox ((pss_cons (ps_if (pt_cmpR op_lt (pv 1) (pe_callB call_len_seq (by rfl) B.len PySem.boot_len (pa_cons (pv 0) pa_nil)) (nomark _)) (pss_one (ps_ret (pe_ix ix_list (pv 0) (pv 1) (fun _ _ => rfl)))) pss_nil) (pss_one (ps_ret pe_int)))), ?_⟩)
  · obtain ⟨a, ns, k, rfl, _⟩ := h
    rfl
  · obtain ⟨a, ns, n, rfl, hS, k⟩ := h
    refine q_when (b := decide ((n : Int) < (((ns.map V.int).length : Nat) : Int))) (et_T (ev_op (ev_var rfl) (ev_len (ev_var rfl) hS) rv_I0)) (fun hb H1 e1 => ?_) (fun hb H1 e1 => s_ret ev_c fun H2 e2 => k H2 0 (e1.trans e2))
    have hb := of_decide_eq_true hb
    rw [List.length_map] at hb
    have hn : n < ns.length := by omega
    exact s_ret (ev_op (ev_var rfl) (ev_var rfl) (rv_ixL (ex_l e1 hS) (atI_nat (j := n) (v := .int ns[n]) (by rw [List.getElem?_map, List.getElem?_eq_getElem hn]; rfl)))) fun H2 e2 => k H2 _ (e1.trans e2)
def rInt1 : List V → Hp → VK → Prop := fun xs H Q => (∃ i, xs = [.int i] ∧ Q (.int i) H) ∨ ∃ k, xs = [.bl k] ∧ Q (.int (if k then 1 else 0)) H
theorem ev_int1 {i : Int} (h : Ev ta σ H (.int i)) : Ev (tCB rInt1 (tCons ta tNil)) σ H (.int i) := fun H1 e Q q => h H1 e _ fun H2 e2 => .inl ⟨i, rfl, q H2 e2⟩
theorem ev_intB {k : Bool} (h : Ev ta σ H (.bl k)) : Ev (tCB rInt1 (tCons ta tNil)) σ H (.int (if k then 1 else 0)) := fun H1 e Q q => h H1 e _ fun H2 e2 => .inr ⟨k, rfl, q H2 e2⟩
theorem ev_cell {a : Addr} {ns : List Int} {n : Nat} (h : Ev ta σ H (.ref a)) (h2 : Ev tb σ H (intV n)) (hS : SqL K H a (ns.map V.int)) : EvR (fun _ v => ∃ i, v = .int i) (tCall (spCellI K) [] E0 (tCons ta (tCons tb tNil))) σ H :=
  evr_call (ea2 h h2) fun H1 e1 Q q => ⟨a, ns, n, rfl, ex_l e1 hS, fun H2 i e2 => q _ H2 e2 ⟨i, rfl⟩⟩
abbrev s_law_digits : Stmt := top 28
abbrev n_law_digits : List Str := ["_law_script", "_law_first", "_law_last", "_law_digits_here", "_law_k", "_law_cell_here", "_law_turn", "_law_seed"]
theorem sc_law_digits : FnScope ["_law_script", "_law_first", "_law_last", "_law_digits_here", "_law_k", "_law_cell_here", "_law_turn", "_law_seed"] ["_law_script", "_law_first", "_law_last"] (defScope s_law_digits) := ⟨rfl, rfl, rfl, by decide +kernel, rfl, by decide +kernel, by decide +kernel⟩
theorem ok__law_digits (F : FnP K "_law_digits" "_law_digits" s_law_digits f fd) (B : Blt mg) (C__law_cell : Cal P w K mg base "_law_cell" 1 ["_law_script", "_law_k"] (spCellI K)) : FnOk P w K mg base CX0 2 f fd ["_law_script", "_law_first", "_law_last"] (spDigits K) := by
  refine F.ok sc_law_digits (fun vs H Q E h => ?_) (fun cdv A outer s H vs Q E hr h => ⟨_, PSs.nox ((pss_cons (ps_set (i := 3) sc_law_digits.nd rfl (Or.inl rfl) (pe_lst pa_nil)) (pss_cons (ps_for PassesOwn.never rfl (pi_range2 (by rfl) B.range (pa_cons (pv 1) (pa_cons (pv 2) pa_nil))) (pg_name (i := 4) sc_law_digits.nd rfl (Or.inl rfl)) (pss_cons (ps_set (i := 5) sc_law_digits.nd rfl (Or.inl rfl) (pe_cal C__law_cell (hr.mono (by decide)) (by rfl) (pa_cons (pv 0) (pa_cons (pv 4) pa_nil)))) (pss_cons (ps_if (pt_cmpR op_lt (pv 5) pe_int (nomark _)) (pss_one (ps_set (i := 5) sc_law_digits.nd rfl (Or.inl rfl) (pe_op op_sub pe_int (pe_op op_mul pe_int (pv 5))))) pss_nil) (pss_one (ps_if (pt_cmpR op_ge (pv 5) (pe_op op_pow pe_int pe_int) (nomark _)) (pss_one (ps_for PassesOwn.never rfl (pi_range1 (by rfl) B.range (pa_cons pe_int pa_nil)) (pg_name (i := 6) sc_law_digits.nd rfl (Or.inl rfl)) (pss_one (ps_if (pt_cmpR op_gt (pv 5) pe_int (nomark _)) (pss_cons (ps_expr (pe_bm PySem.F.plainAttrs_list PySem.F.slot_list_append PySem.F.type_list_append mt_append (pv 3) (pa_cons (pe_op op_mod (pe_callTy call_int1 (by rfl) B.int (by decide +kernel) (pa_cons (pv 5) pa_nil)) pe_int) pa_nil))) (pss_one (ps_set (i := 5) sc_law_digits.nd rfl (Or.inl rfl) (pe_op op_fdiv (pv 5) pe_int)))) pss_nil)))) (pss_cons (ps_set (i := 7) sc_law_digits.nd rfl (Or.inl rfl) (pe_op op_mod (pe_callTy call_int1 (by rfl) B.int (by decide +kernel) (pa_cons (pe_op op_add (pe_op op_add (pe_op op_mul (pv 5) pe_int) (pe_op op_mul (pv 4) pe_int)) pe_int) pa_nil)) pe_int)) (pss_one (ps_for PassesOwn.never rfl (pi_range1 (by rfl) B.range (pa_cons pe_int pa_nil)) (pg_name (i := 6) sc_law_digits.nd rfl (Or.inl rfl)) (pss_cons (ps_set (i := 7) sc_law_digits.nd rfl (Or.inl rfl) (pe_op op_mod (pe_callTy call_int1 (by rfl) B.int (by decide +kernel) (pa_cons (pe_op op_add (pe_op op_add (pe_op op_mul (pv 7) pe_int) (pe_op op_mul pe_int (pv 6))) pe_int) pa_nil)) pe_int)) (pss_one (ps_expr (pe_bm PySem.F.plainAttrs_list PySem.F.slot_list_append PySem.F.type_list_append mt_append (pv 3) (pa_cons (pe_op op_mod (pe_callTy call_int1 (by rfl) B.int (by decide +kernel) (pa_cons (pe_op op_fdiv (pv 7) pe_int) pa_nil)) pe_int) pa_nil))))))))))))) (pss_one (ps_ret (pv 3)))))), ?_⟩)
  · obtain ⟨a, ns, rfl, _⟩ := h
    rfl
  · obtain ⟨a, ns, rfl, hS, k⟩ := h
    refine q_asgL (xs := []) (el_lst ea_nil (by decide)) fun l H1 hl e1 h1 => ?_
    refine q_forR2 (ea2 (ev_var rfl) (ev_var rfl)) (by decide) (fun i σ' H' => (∃ o4 o5 o6 o7, σ' = [some (.ref a), some (.int 0), some (.int 60), some (.ref l), o4, o5, o6, o7]) ∧ Ex H H' ∧ ∃ ds : List Int, H' l = some (.lst (ds.map V.int)) ∧ ds.length ≤ 60 * i)
      (fun H2 e2 => ⟨⟨none, none, none, none, rfl⟩, e1.trans e2, [], e2 _ _ h1, Nat.le_refl _⟩) ?_ ?_
    · rintro i σ' H' hi ⟨⟨o4, o5, o6, o7, rfl⟩, e2, ds, h2, h3⟩
      have hi60 : i < 60 := by omega
      have hiv : V.int (0 + (i : Nat)) = intV i := by show V.int (0 + (i : Nat)) = V.int (i : Nat); rw [Int.zero_add]
      rw [hiv]
      refine q_asgR (ev_cell (ev_var rfl) (ev_var rfl) (ex_l e2 hS)) fun v H3 e3 hv => ?_
      obtain ⟨c, rfl⟩ := hv
      -- the odd number of a cell below zero
      have hcut : ∀ c', (∀ σ4 H4, σ4 = [some (.ref a), some (.int 0), some (.int 60), some (.ref l), some (intV i), some (.int c'), o6, o7] → Ex H H4 → H4 l = some (.lst (ds.map V.int)) → True) := fun _ _ _ _ _ _ => trivial
      refine q_ifAsg (b := decide (c < 0)) (v := .int (if c < 0 then 1 - 2 * c else c)) (et_T (ev_op (ev_var rfl) ev_c rv_I0)) (fun hb => ?_) (fun hb => ?_) fun H4 e4 => ?_
      · rw [if_pos (of_decide_eq_true hb)]
        exact ev_op ev_c (ev_op ev_c (ev_var rfl) (rv_I (.inl (by decide)))) rv_I0
      · rw [if_neg (of_decide_eq_false hb)]
        rfl
      generalize (if c < 0 then 1 - 2 * c else c) = c2
      have e24 := e2.trans (e3.trans e4)
      have h24 : H4 l = some (.lst (ds.map V.int)) := e4 _ _ (e3 _ _ h2)
      have hl0 : H l = none := hl
      refine s_if (D := { nx := _, rt := _, bk := _, ct := _ }) (b := decide ((10 : Int) ^ (18 : Int).toNat ≤ c2)) (et_T (ev_op (ev_var rfl) (ev_op ev_c ev_c (rv_I ⟨by decide, by decide, by decide⟩)) rv_I0)) (fun hb H5 e5 => ?_) (fun hb H5 e5 => ?_)
      · refine s_forR1 (D := { nx := _, rt := _, bk := _, ct := _ }) (ea1 ev_c) (by decide) (fun j σ' H' => (∃ c o6, σ' = [some (.ref a), some (.int 0), some (.int 60), some (.ref l), some (intV i), some (.int c), o6, o7]) ∧ Ex H H' ∧ ∃ ds2 : List Int, H' l = some (.lst (ds2.map V.int)) ∧ ds2.length ≤ 60 * i + j) (fun H6 e6 => ⟨⟨_, _, rfl⟩, e24.trans (e5.trans e6), ds, e6 _ _ (e5 _ _ h24), by omega⟩) ?_ ?_
        · rintro j σ' H6 hj ⟨⟨c3, o6, rfl⟩, f1, ds2, f2, f3⟩
          refine s_when (b := decide ((0 : Int) < c3)) (et_T (ev_op (ev_var rfl) ev_c rv_I0)) (fun hb H7 e7 => ?_) (fun hb H7 e7 => ⟨⟨_, _, rfl⟩, f1.trans e7, ds2, e7 _ _ f2, by omega⟩)
          refine q_app (v := .int (c3 % 1000)) (e7 _ _ f2) (ev_var rfl) (ev_op (ev_int1 (ev_var rfl)) ev_c (rv_I (by decide))) (by rw [List.length_map]; omega) fun H8 e8 => ?_
          refine s_asg (D := { nx := _, rt := _, bk := _, ct := _ }) (ev_op (ev_var rfl) ev_c (rv_I ⟨by decide, by decide⟩)) fun H9 e9 => ?_
          exact ⟨⟨_, _, rfl⟩, (ex_upd f1 hl0 (e7.trans e8)).trans e9, ds2 ++ [c3 % 1000], by rw [List.map_append]; exact e9 _ _ upd_same, by rw [List.length_append, List.length_singleton]; omega⟩
        · rintro σ' H6 ⟨⟨c3, o6, rfl⟩, f1, ds2, f2, f3⟩
          exact ⟨⟨_, _, _, _, rfl⟩, f1, ds2, f2, by have : (60 : Int).toNat = 60 := rfl; omega⟩
      · refine q_asg (v := .int ((c2 * 48271 + (i : Int) * 69621 + 11) % 2147483647)) (ev_op (ev_int1 (ev_op (ev_op (ev_op (ev_var rfl) ev_c (rv_I (.inr (by decide)))) (ev_op (ev_var rfl) ev_c (rv_I (.inr (by decide)))) rv_I0) ev_c rv_I0)) ev_c (rv_I (by decide))) fun H6 e6 => ?_
        refine s_forR1 (D := { nx := _, rt := _, bk := _, ct := _ }) (ea1 ev_c) (by decide) (fun j σ' H' => (∃ s o6, σ' = [some (.ref a), some (.int 0), some (.int 60), some (.ref l), some (intV i), some (.int c2), o6, some (.int s)]) ∧ Ex H H' ∧ ∃ ds2 : List Int, H' l = some (.lst (ds2.map V.int)) ∧ ds2.length ≤ 60 * i + j) (fun H7 e7 => ⟨⟨_, _, rfl⟩, e24.trans (e5.trans (e6.trans e7)), ds, e7 _ _ (e6 _ _ (e5 _ _ h24)), by omega⟩) ?_ ?_
        · rintro j σ' H7 hj ⟨⟨sd, o6, rfl⟩, f1, ds2, f2, f3⟩
          refine q_asg (v := .int ((sd * 16807 + 7 * (j : Int) + 1) % 2147483647)) (ev_op (ev_int1 (ev_op (ev_op (ev_op (ev_var rfl) ev_c (rv_I (.inr (by decide)))) (ev_op ev_c (ev_var rfl) (rv_I (.inl (by decide)))) rv_I0) ev_c rv_I0)) ev_c (rv_I (by decide))) fun H8 e8 => ?_
          generalize (sd * 16807 + 7 * (j : Int) + 1) % 2147483647 = sd2
          refine s_app (D := { nx := _, rt := _, bk := _, ct := _ }) (v := .int (sd2 / 997 % 1000)) (e8 _ _ f2) (ev_var rfl) (ev_op (ev_int1 (ev_op (ev_var rfl) ev_c (rv_I ⟨by decide, by decide⟩))) ev_c (rv_I (by decide))) (by rw [List.length_map]; omega) fun H9 e9 => ?_
          exact ⟨⟨_, _, rfl⟩, ex_upd f1 hl0 (e8.trans e9), ds2 ++ [sd2 / 997 % 1000], by rw [List.map_append]; exact upd_same, by rw [List.length_append, List.length_singleton]; omega⟩
        · rintro σ' H7 ⟨⟨sd, o6, rfl⟩, f1, ds2, f2, f3⟩
          exact ⟨⟨_, _, _, _, rfl⟩, f1, ds2, f2, by have : (12 : Int).toNat = 12 := rfl; omega⟩
    · rintro σ' H' ⟨⟨o4, o5, o6, o7, rfl⟩, e2, ds, h2, h3⟩
      exact s_ret (ev_var rfl) fun H3 e3 => k l H3 ds hl (e2.trans e3) (e3 _ _ h2)
end
end Sh
end

section
set_option Elab.async false
set_option linter.all false
set_option maxRecDepth 100000
set_option maxHeartbeats 4000000
/-! The box of digits; walks: _law_draw, _law_pick, _law_arguments. -/
namespace Sh
open PySem PySem.Spec PyProof.Rows L2 Evl
def BoxAt (b dl : Addr) (ds : List Int) (H : Hp) : Prop := H dl = some (.lst (ds.map V.int)) ∧ ∃ n : Nat, H b = some (.lst [.ref dl, intV n])
def Bx (H : Hp) (b : Addr) : Prop := ∃ dl ds, BoxAt b dl ds H
def XB (b : Addr) (H H' : Hp) : Prop := ExB b H H' ∧ ∀ dl ds, BoxAt b dl ds H → BoxAt b dl ds H'
theorem box_ne {b dl : Addr} {ds : List Int} {H : Hp} (h : BoxAt b dl ds H) : dl ≠ b := by
  rintro rfl
  obtain ⟨h1, n, h2⟩ := h
  rw [h1] at h2
  cases ds with
  | nil => cases h2
  | cons x xs => cases xs <;> cases h2
theorem XB.refl (b : Addr) (H : Hp) : XB b H H := ⟨fun _ _ _ h => h, fun _ _ h => h⟩
theorem XB.trans {b : Addr} {H H1 H2 : Hp} (x : XB b H H1) (y : XB b H1 H2) : XB b H H2 := ⟨fun a o n h => y.1 a o n (x.1 a o n h), fun dl ds h => y.2 dl ds (x.2 dl ds h)⟩
theorem xb {b : Addr} {H H' : Hp} (e : Ex H H') : XB b H H' := ⟨fun a o _ h => e a o h, fun dl ds ⟨h1, n, h2⟩ => ⟨e _ _ h1, n, e _ _ h2⟩⟩
theorem XB.e {b : Addr} {H H1 H2 : Hp} (x : XB b H H1) (e : Ex H1 H2) : XB b H H2 := x.trans (xb e)
theorem Bx.x {b : Addr} {H H' : Hp} (h : Bx H b) (x : XB b H H') : Bx H' b := let ⟨dl, ds, h⟩ := h; ⟨dl, ds, x.2 dl ds h⟩
theorem Bx.e {b : Addr} {H H' : Hp} (h : Bx H b) (e : Ex H H') : Bx H' b := h.x (xb e)
theorem XB.tx {b : Addr} {H H' : Hp} (x : XB b H H') (h : Bx H b) : TX H H' := exb_tx (let ⟨_, _, _, n, h⟩ := h; ⟨_, h⟩) x.1
/-- an object that H does not know may change -/
theorem XB.mut {b p : Addr} {H H' : Hp} {o : HO} (x : XB b H H') (h : Bx H b) (n : H p = none) : XB b H (upd H' p o) := by
  obtain ⟨dl, ds, h1, k, h2⟩ := h
  refine ⟨fun a u ha z => by rw [upd_ne (ne_of_none z n)]; exact x.1 a u ha z, fun dl ds hb => ?_⟩
  obtain ⟨g1, k2, g2⟩ := hb
  obtain ⟨f1, k3, f2⟩ := x.2 dl ds ⟨g1, k2, g2⟩
  exact ⟨by rw [upd_ne (ne_of_none g1 n)]; exact f1, k3, by rw [upd_ne (ne_of_none g2 n)]; exact f2⟩
theorem XB.lst {b a : Addr} {H H' : Hp} {o : HO} (x : XB b H H') (n : a ≠ b) (h : H a = some o) : H' a = some o := x.1 a o n h
theorem bx_ne {b a : Addr} {H : Hp} {xs : List Str} (h : Bx H b) (g : H a = some (.lst (xs.map V.str))) : a ≠ b := by
  rintro rfl
  obtain ⟨dl, ds, h1, n, h2⟩ := h
  rw [g] at h2
  cases xs with
  | nil => cases h2
  | cons x xs => cases xs <;> cases h2
def spDraw : Sp := fun vs H Q _ => ∃ (b : Addr) (many : Nat), vs = [.ref b, intV many] ∧ 0 < many ∧ Bx H b ∧ ∀ (k : Nat) H', k < many → XB b H H' → Q (intV k) H'
def spPick : Sp := fun vs H Q _ => ∃ (b a : Addr) (xs : List Str), vs = [.ref b, .ref a] ∧ Bx H b ∧ xs ≠ [] ∧ H a = some (.lst (xs.map V.str)) ∧ ∀ x H', x ∈ xs → XB b H H' → Q (.str x) H'
def spArgs : Sp := fun vs H Q _ => ∃ (b a : Addr) (xs : List Str) (n : Nat), vs = [.ref b, .ref a, intV n] ∧ n ≤ 1000 ∧ Bx H b ∧ (0 < n → xs ≠ []) ∧ H a = some (.lst (xs.map V.str)) ∧ ∀ v ys H', (∀ y ∈ ys, y ∈ xs) → ys.length = n → StrsAt H' v ys → XB b H H' → Q v H'
section
variable {P : Program} {w : World} {K : PySem.W.Frag} {mg : Str → Option Value} {base : Heap} {f C : Addr} {fd : FuncData} {σ : L2.St} {H : Hp} {g : TG} {tu tz : TS} {D : Ends} {ta tb te tl td tv ty : TE} {tr : TA} {tt : TT} {Q : VK} {r : R2}
theorem r_ev {v : V} (h : Ev te σ H v) (k : ∀ H', Ex H H' → Q v H') : te σ H Q := h H (Ex.refl H) Q k
theorem r_op (h : ta σ H fun x H1 => tb σ H1 fun y H2 => r x y H2 Q) : tOp r ta tb σ H Q := h
theorem r_draw {b : Addr} {m : Nat} (hb : Ev ta σ H (.ref b)) (hm : Ev tb σ H (intV m)) (h0 : 0 < m) (hB : Bx H b) (k : ∀ (i : Nat) H', i < m → XB b H H' → Q (intV i) H') : tCall spDraw [] E0 (tCons ta (tCons tb tNil)) σ H Q :=
  hb H (Ex.refl H) _ fun H1 e1 => hm H1 e1 _ fun H2 e2 => ⟨b, m, rfl, h0, hB.e (e1.trans e2), fun i H' hi x => k i H' hi ((xb (e1.trans e2)).trans x)⟩
theorem r_cb1 {rc : List V → Hp → VK → Prop} (h : te σ H fun x H1 => rc [x] H1 Q) : tCB rc (tCons te tNil) σ H Q := h
theorem r_ixL {a : Addr} {xs : List V} {i : Nat} {v : V} (h : SqL K H a xs) (hi : xs[i]? = some v) (q : Q v H) : rIxL K (.ref a) (intV i) H Q := ⟨a, xs, i, v, rfl, rfl, h, atI_nat hi, q⟩
theorem r_call1 {sp : Sp} {E : XK} (h : ta σ H fun x H1 => sp [x] H1 Q E) : tCall sp [] E (tCons ta tNil) σ H Q := h
theorem r_lcR1 {j : Nat} {vs : List Nat} {m : Int} (h : EvA tr σ H [.int m]) (hm : 0 ≤ m ∧ m ≤ 40000) (Pv : Addr → Nat → Hp → Prop) (hw : ∀ x, wipe ((wipe σ vs).set j (some x)) vs = wipe σ vs)
    (h0 : ∀ D H1, H D = none → Ex H H1 → H1 D = some (.lst []) → Pv D 0 H1)
    (hs : ∀ D (i : Nat) H', H D = none → (i : Int) < m → Pv D i H' → te ((wipe σ vs).set j (some (intV i))) H' fun y H4 => ∃ acc, H4 D = some (.lst acc) ∧ acc.length < sizeLine ∧ Pv D (i + 1) (upd H4 D (.lst (acc ++ [y]))))
    (hd : ∀ D H', H D = none → Pv D m.toNat H' → Q (.ref D) H') : tLc (iRng1 tr) (gName j) tYes te vs σ H Q :=
  h H (Ex.refl H) _ fun H1 e => ⟨m, rfl, by omega, by omega, fun D hD => lc_it (walk_range (lo := 0) (n := m.toNat)) (Pv D) (h0 D _ (fresh_back e hD) (e.trans (Ex.new hD)) upd_same) (fun _ _ _ _ => trivial)
    (fun i x H2 H3 hi p y => by
      obtain ⟨y1, y2⟩ := y
      subst y1
      have y2 : x = intV i := by rw [y2]; show V.int (0 + (i : Nat)) = V.int (i : Nat); rw [Int.zero_add]
      subst y2
      exact ⟨hw _, hs D i _ (fresh_back e hD) (by omega) p⟩) fun H' p => hd D H' (fresh_back e hD) p⟩
abbrev s_law_draw : Stmt := top 29
abbrev n_law_draw : List Str := ["_law_box", "_law_many", "_law_at"]
theorem sc_law_draw : FnScope ["_law_box", "_law_many", "_law_at"] ["_law_box", "_law_many"] (defScope s_law_draw) := ⟨rfl, rfl, rfl, by decide +kernel, rfl, by decide +kernel, by decide +kernel⟩
theorem ok__law_draw (F : FnP K "_law_draw" "_law_draw" s_law_draw f fd) (B : Blt mg) : FnOk P w K mg base CX0 1 f fd ["_law_box", "_law_many"] spDraw := by
  refine F.ok sc_law_draw (fun vs H Q E h => ?_) (fun cdv A outer s H vs Q E hr h => ⟨_, PSs.nox ((pss_cons (ps_set (i := 2) sc_law_draw.nd rfl (Or.inl rfl) (pe_ix ix_list (pv 0) pe_int (fun _ _ => rfl))) (pss_cons (ps_asg (pe_op op_add (pv 2) pe_int) (pg_sub (pv 0) pe_int set_list)) (pss_cons (ps_if (pt_cmpR op_lt (pv 2) (pe_callB call_len_seq (by rfl) B.len PySem.boot_len (pa_cons (pe_ix ix_list (pv 0) pe_int (fun _ _ => rfl)) pa_nil)) (nomark _)) (pss_one (ps_ret (pe_op op_mod (pe_callTy call_int1 (by rfl) B.int (by decide +kernel) (pa_cons (pe_ix ix_list (pe_ix ix_list (pv 0) pe_int (fun _ _ => rfl)) (pv 2) (fun _ _ => rfl)) pa_nil)) (pv 1)))) pss_nil) (pss_one (ps_ret (pe_op op_mod (pe_callTy call_int1 (by rfl) B.int (by decide +kernel) (pa_cons (pe_op op_add (pe_op op_mul (pv 2) pe_int) pe_int) pa_nil)) (pv 1)))))))), ?_⟩)
  · obtain ⟨b, n, rfl, _⟩ := h
    rfl
  · obtain ⟨b, m, rfl, hm, ⟨dl, ds, hB⟩, k⟩ := h
    have ne := box_ne hB
    obtain ⟨h1, n, h2⟩ := hB
    refine q_asg (v := intV n) (ev_op (ev_var rfl) ev_c (rv_ixL (sq_of h2) (atI_nat (j := 1) rfl))) fun H1 e1 => ?_
    refine q_setL (j := 1) (v := intV (n + 1)) (e1 _ _ h2) (ev_op (ev_var rfl) ev_c rv_I0) (ev_var rfl) ev_c (Nat.lt_succ_self 1) fun H2 e2 => ?_
    show tSeq _ _ _ _ (upd H2 b (.lst [.ref dl, intV (n + 1)]))
    have h3 : upd H2 b (.lst [.ref dl, intV (n + 1)]) dl = some (.lst (ds.map V.int)) := by rw [upd_ne ne]; exact e2 _ _ (e1 _ _ h1)
    have x3 : XB b H (upd H2 b (.lst [.ref dl, intV (n + 1)])) := ⟨fun a o na z => by rw [upd_ne na]; exact e2 _ _ (e1 _ _ z), fun dl' ds' ⟨g1, n', g2⟩ => by
      rw [h2] at g2
      cases g2
      rw [h1] at g1
      exact ⟨by rw [h3, ← g1], _, upd_same⟩⟩
    have hbs : upd H2 b (.lst [.ref dl, intV (n + 1)]) b = some (.lst [.ref dl, intV (n + 1)]) := upd_same
    revert h3 x3 hbs
    generalize upd H2 b (.lst [.ref dl, intV (n + 1)]) = H3
    intro h3 x3 hbs
    have hmod : ∀ i : Int, V.int (i % (m : Int)) = intV (i % (m : Int)).toNat := fun i => by
      show V.int _ = V.int (((i % (m : Int)).toNat : Nat) : Int)
      rw [Int.toNat_of_nonneg (Int.emod_nonneg _ (by omega))]
    have hlt : ∀ i : Int, (i % (m : Int)).toNat < m := fun i => by
      have h1 := Int.emod_nonneg i (b := (m : Int)) (by omega)
      have h2 := Int.emod_lt_of_pos i (b := (m : Int)) (by omega)
      omega
    refine q_when (b := decide ((n : Int) < (((ds.map V.int).length : Nat) : Int))) (et_T (ev_op (ev_var rfl) (ev_len (ev_op (ev_var rfl) ev_c (rv_ixL (sq_of hbs) (atI_nat (j := 0) rfl))) (sq_of h3)) rv_I0)) (fun hb H4 e4 => ?_) (fun hb H4 e4 => ?_)
    · have hb := of_decide_eq_true hb
      rw [List.length_map] at hb
      have hn : n < ds.length := by omega
      refine s_ret (v := .int (ds[n] % (m : Int))) (ev_op (ev_int1 (ev_op (ev_op (ev_var rfl) ev_c (rv_ixL (sq_of (e4 _ _ hbs)) (atI_nat (j := 0) rfl))) (ev_var rfl) (rv_ixL (sq_of (e4 _ _ h3)) (atI_nat (j := n) (v := V.int ds[n]) (by rw [List.getElem?_map, List.getElem?_eq_getElem hn]; rfl))))) (ev_var rfl) (rv_I (by omega))) fun H5 e5 => ?_
      rw [hmod]
      exact k _ _ (hlt _) (x3.e (e4.trans e5))
    · refine s_ret (v := .int (((n : Int) * 7 + 3) % (m : Int))) (ev_op (ev_int1 (ev_op (ev_op (ev_var rfl) ev_c (rv_I (.inr (by decide)))) ev_c rv_I0)) (ev_var rfl) (rv_I (by omega))) fun H5 e5 => ?_
      rw [hmod]
      exact k _ _ (hlt _) (x3.e (e4.trans e5))
theorem r_pick {b a : Addr} {xs : List Str} (hb : Ev ta σ H (.ref b)) (hm : Ev tb σ H (.ref a)) (h0 : xs ≠ []) (ha : H a = some (.lst (xs.map V.str))) (hB : Bx H b) (k : ∀ x H', x ∈ xs → XB b H H' → Q (.str x) H') : tCall spPick [] E0 (tCons ta (tCons tb tNil)) σ H Q :=
  hb H (Ex.refl H) _ fun H1 e1 => hm H1 e1 _ fun H2 e2 => ⟨b, a, xs, rfl, hB.e (e1.trans e2), h0, (e1.trans e2) _ _ ha, fun i H' hi x => k i H' hi ((xb (e1.trans e2)).trans x)⟩
abbrev s_law_pick : Stmt := top 30
abbrev n_law_pick : List Str := ["_law_box", "_law_rows"]
theorem sc_law_pick : FnScope ["_law_box", "_law_rows"] ["_law_box", "_law_rows"] (defScope s_law_pick) := ⟨rfl, rfl, rfl, by decide +kernel, rfl, by decide +kernel, by decide +kernel⟩
theorem ok__law_pick (F : FnP K "_law_pick" "_law_pick" s_law_pick f fd) (B : Blt mg) (C__law_draw : Cal P w K mg base "_law_draw" 1 ["_law_box", "_law_many"] spDraw) : FnOk P w K mg base CX0 2 f fd ["_law_box", "_law_rows"] spPick := by
  refine F.ok sc_law_pick (fun vs H Q E h => ?_) (fun cdv A outer s H vs Q E hr h => ⟨_, PSs.nox ((pss_one (ps_ret (pe_ix ix_list (pv 1) (pe_op op_mod (pe_callTy call_int1 (by rfl) B.int (by decide +kernel) (pa_cons (pe_cal C__law_draw (hr.mono (by decide)) (by rfl) (pa_cons (pv 0) (pa_cons pe_int pa_nil))) pa_nil)) (pe_callB call_len_seq (by rfl) B.len PySem.boot_len (pa_cons (pv 1) pa_nil))) (fun _ _ => rfl))))), ?_⟩)
  · obtain ⟨b, a, xs, rfl, _⟩ := h
    rfl
  · obtain ⟨b, a, xs, rfl, hB, h0, ha, k⟩ := h
    have hne := bx_ne hB ha
    refine r_op (r_ev (ev_var rfl) fun H1 e1 => r_op (r_cb1 (r_draw (m := 90) (ev_var rfl) ev_c (by decide) (hB.e e1) fun i H2 hi x2 => .inl ⟨i, rfl, ?_⟩)))
    have ha2 := x2.lst hne (e1 _ _ ha)
    have hp : 0 < xs.length := List.length_pos_iff.mpr h0
    refine r_ev (ev_len (ev_var rfl) (sq_of ha2)) fun H3 e3 => ⟨_, _, rfl, rfl, ?_, ?_⟩
    · rw [List.length_map]
      omega
    · rw [List.length_map]
      have hj : i % xs.length < xs.length := Nat.mod_lt _ hp
      exact r_ixL (i := i % xs.length) (v := .str xs[i % xs.length]) (sq_of (e3 _ _ ha2)) (by rw [List.getElem?_map, List.getElem?_eq_getElem hj]; rfl) (k _ _ (List.getElem_mem hj) ((xb e1).trans (x2.e e3)))
abbrev s_law_arguments : Stmt := top 35
abbrev n_law_arguments : List Str := ["_law_box", "_law_scope_here", "_law_count", "_law_k"]
theorem sc_law_arguments : FnScope ["_law_box", "_law_scope_here", "_law_count", "_law_k"] ["_law_box", "_law_scope_here", "_law_count"] (defScope s_law_arguments) := ⟨rfl, rfl, rfl, by decide +kernel, rfl, by decide +kernel, by decide +kernel⟩
theorem ok__law_arguments (F : FnP K "_law_arguments" "_law_arguments" s_law_arguments f fd) (B : Blt mg) (C__law_pick : Cal P w K mg base "_law_pick" 2 ["_law_box", "_law_rows"] spPick) : FnOk P w K mg base CX0 3 f fd ["_law_box", "_law_scope_here", "_law_count"] spArgs := by
  refine F.ok sc_law_arguments (fun vs H Q E h => ?_) (fun cdv A outer s H vs Q E hr h => ⟨_, PSs.nox ((pss_one (ps_ret (pe_callTy call_tuple_of (by rfl) B.tuple (by decide +kernel) (pa_cons (pe_lc (own := [("_law_k", 3)]) (g := (gName 3)) rfl sc_law_arguments.nd (pi_range1 (by rfl) B.range (pa_cons (pv 2) pa_nil)) (blkOk_by (own := [("_law_k", 3)]) (N := ["_law_box", "_law_scope_here", "_law_count", "_law_k"]) (sc := (defScope s_law_arguments)) (by decide +kernel)) (fun _ _ _ _ _ => (pg_name (i := 3) sc_law_arguments.nd rfl (Or.inl rfl))) (fun _ _ _ _ _ => pts_nil) (fun _ _ _ _ _ => (pe_cal C__law_pick (hr.mono (by decide)) (by rfl) (pa_cons (pv 0) (pa_cons (pv 1) pa_nil))))) pa_nil))))), ?_⟩)
  · obtain ⟨b, a, xs, n, rfl, _⟩ := h
    rfl
  · obtain ⟨b, a, xs, n, rfl, hn, hB, h0, ha, k⟩ := h
    have hne := bx_ne hB ha
    refine r_cb1 (r_lcR1 (m := n) (ea1 (ev_var rfl)) (by omega) (fun D i H' => XB b H H' ∧ ∃ ys : List Str, H' D = some (.lst (ys.map V.str)) ∧ ys.length = i ∧ ∀ y ∈ ys, y ∈ xs) (fun _ => rfl) (fun D H1 hD e1 h1 => ⟨xb e1, [], h1, rfl, fun _ h => nomatch h⟩) (fun D i H' hD hi p => ?_) fun D H' hD p => ?_)
    · obtain ⟨x, ys, h1, h2, h3⟩ := p
      refine r_pick (xs := xs) (ev_var rfl) (ev_var rfl) (h0 (by omega)) (x.lst hne ha) (hB.x x) fun y H2 hy x2 => ?_
      have hD2 : D ≠ b := by
        rintro rfl
        obtain ⟨_, _, _, _, h⟩ := hB
        rw [hD] at h
        cases h
      refine ⟨ys.map V.str, x2.lst hD2 h1, sz_lt (by rw [List.length_map]; omega), (x.trans x2).mut hB hD, ys ++ [y], by rw [List.map_append]; exact upd_same, by rw [List.length_append, h2]; rfl, fun z hz => ?_⟩
      rcases List.mem_append.mp hz with h | h
      · exact h3 z h
      · rw [List.mem_singleton.mp h]
        exact hy
    · obtain ⟨x, ys, h1, h2, h3⟩ := p
      refine ⟨D, _, rfl, .inl ⟨sq_of h1, fun l hl => ?_⟩⟩
      exact k _ ys _ h3 (by rw [h2]; rfl) ⟨l, rfl, upd_same⟩ (x.e (Ex.new hl))
end
end Sh
end

section
set_option Elab.async false
set_option linter.all false
set_option maxRecDepth 100000
set_option maxHeartbeats 4000000
/-! Walks: _law_instruction, _law_scope. -/
namespace Sh
open PySem PySem.Spec PyProof.Rows L2 Evl
/-- a row that may stand where the names xs are in scope and x is the next name -/
def InsOk (x : Str) (xs : List Str) : Row → Prop
  | .con y _ => y = x
  | .rd y => y = x
  | .pr y => y ∈ xs
  | .op y _ u v => y = x ∧ u ∈ xs ∧ v ∈ xs
  | _ => False
def spInstr : Sp := fun vs H Q _ => ∃ (b a : Addr) (x : Str) (xs : List Str), vs = [.ref b, .str x, .ref a] ∧ Bx H b ∧ H a = some (.lst (xs.map V.str)) ∧ xs.length ≤ 5000 ∧ ∀ v r H', InsOk x xs r → RowAt H' v r → XB b H H' → Q v H'
def LstAt (H : Hp) (v : V) (xs : List Str) : Prop := ∃ p, v = .ref p ∧ H p = some (.lst (xs.map V.str))
def scopeOf (Ls : List (List Str)) (ks : List Nat) : List Str := (ks.map fun k => (Ls[k]?).getD []).flatten
def spScope : Sp := fun vs H Q _ => ∃ (a d : Addr) (ks : List Nat) (us : List V) (Ls : List (List Str)), vs = [.ref a, .ref d] ∧ H a = some (.lst (ks.map intV)) ∧ H d = some (.lst us) ∧ Paired (LstAt H) us Ls ∧ ks.length ≤ 20 ∧ (∀ L ∈ Ls, L.length ≤ 100) ∧
  ∀ p H', H p = none → Ex H H' → H' p = some (.lst ((scopeOf Ls ks).map V.str)) → Q (.ref p) H'
theorem LstAt.e {H H' : Hp} {v : V} {xs : List Str} (e : Ex H H') (h : LstAt H v xs) : LstAt H' v xs := let ⟨p, h1, h2⟩ := h; ⟨p, h1, e _ _ h2⟩
theorem scopeOf_snoc (Ls : List (List Str)) (ks : List Nat) (k : Nat) : scopeOf Ls (ks ++ [k]) = scopeOf Ls ks ++ (Ls[k]?).getD [] := by unfold scopeOf; simp
theorem scopeOf_len {Ls : List (List Str)} {m : Nat} (h : ∀ L ∈ Ls, L.length ≤ m) : ∀ ks : List Nat, (scopeOf Ls ks).length ≤ ks.length * m
  | [] => by simp [scopeOf]
  | k :: ks => by
    have ih := scopeOf_len h ks
    have e : scopeOf Ls (k :: ks) = (Ls[k]?).getD [] ++ scopeOf Ls ks := rfl
    have hk : ((Ls[k]?).getD []).length ≤ m := by
      cases q : Ls[k]? with
      | none => exact Nat.zero_le _
      | some L => exact h L (List.mem_of_getElem? q)
    rw [e, List.length_append, List.length_cons, Nat.add_mul]
    omega
section
variable {P : Program} {w : World} {K : PySem.W.Frag} {mg : Str → Option Value} {base : Heap} {f C : Addr} {fd : FuncData} {σ : L2.St} {H : Hp} {g : TG} {tu tz : TS} {D : Ends} {ta tb te tl td tv ty : TE} {tr : TA} {tt : TT} {Q : VK} {r : R2}
theorem r_un {ru : V → Hp → VK → Prop} (h : ta σ H fun x H1 => ru x H1 Q) : tUn ru ta σ H Q := h
theorem r_tup (h : tr σ H fun xs H1 => xs.length ≤ sizeLine ∧ ∀ p, H1 p = none → Q (.ref p) (upd H1 p (.tup xs))) : tTup tr σ H Q := h
theorem r_lst (h : tr σ H fun xs H1 => xs.length ≤ sizeLine ∧ ∀ p, H1 p = none → Q (.ref p) (upd H1 p (.lst xs))) : tLst tr σ H Q := h
theorem r_cons {QA : List V → Hp → Prop} (h : ta σ H fun x H1 => tr σ H1 fun xs H2 => QA (x :: xs) H2) : tCons ta tr σ H QA := h
theorem r_nil {QA : List V → Hp → Prop} (h : QA [] H) : tNil σ H QA := h
theorem r_I0 {gg : Int → Int → V} {i j : Int} (h : Q (gg i j) H) : rI0 gg (.int i) (.int j) H Q := ⟨i, j, rfl, rfl, h⟩
theorem r_ret (h : te σ H D.rt) : tRet te D σ H := h
theorem el_catL {l : Addr} {xs zs : List V} (ha : Ev ta σ H (.ref l)) (hl : H l = some (.lst xs)) (hb : EvL tb σ H zs) (hz : xs.length + zs.length ≤ 100000) : EvL (tOp rCat ta tb) σ H (xs ++ zs) := fun H1 e Q q =>
  ha H1 e _ fun H2 e2 => hb H2 (e.trans e2) _ fun p H3 hp e3 h3 => ⟨l, p, xs, zs, rfl, rfl, e3 _ _ (e2 _ _ (e _ _ hl)), h3, sz_of hz, fun p2 hp2 => q p2 _ (fresh_back e2 (fresh_back e3 hp2)) (e2.trans (e3.trans (Ex.new hp2))) upd_same⟩
theorem el_cat2 {l m : Addr} {xs zs : List V} (ha : Ev ta σ H (.ref l)) (hl : H l = some (.lst xs)) (hb : Ev tb σ H (.ref m)) (hm : H m = some (.lst zs)) (hz : xs.length + zs.length ≤ 100000) : EvL (tOp rCat ta tb) σ H (xs ++ zs) := fun H1 e Q q =>
  ha H1 e _ fun H2 e2 => hb H2 (e.trans e2) _ fun H3 e3 => ⟨l, m, xs, zs, rfl, rfl, e3 _ _ (e2 _ _ (e _ _ hl)), e3 _ _ (e2 _ _ (e _ _ hm)), sz_of hz, fun p2 hp2 => q p2 _ (fresh_back e2 (fresh_back e3 hp2)) (e2.trans (e3.trans (Ex.new hp2))) upd_same⟩
abbrev s_law_instruction : Stmt := top 34
abbrev n_law_instruction : List Str := ["_law_box", "_law_name", "_law_scope_here", "_law_kind"]
theorem sc_law_instruction : FnScope ["_law_box", "_law_name", "_law_scope_here", "_law_kind"] ["_law_box", "_law_name", "_law_scope_here"] (defScope s_law_instruction) := ⟨rfl, rfl, rfl, by decide +kernel, rfl, by decide +kernel, by decide +kernel⟩
theorem ok__law_instruction (F : FnP K "_law_instruction" "_law_instruction" s_law_instruction f fd) (B : Blt mg) (C__law_draw : Cal P w K mg base "_law_draw" 1 ["_law_box", "_law_many"] spDraw) (C__law_pick : Cal P w K mg base "_law_pick" 2 ["_law_box", "_law_rows"] spPick) :
    FnOk P w K mg base CX0 3 f fd ["_law_box", "_law_name", "_law_scope_here"] spInstr := by
  refine F.ok sc_law_instruction (fun vs H Q E h => ?_) (fun cdv A outer s H vs Q E hr h => ⟨_, PSs.nox ((pss_cons (ps_set (i := 3) sc_law_instruction.nd rfl (Or.inl rfl) (pe_cal C__law_draw (hr.mono (by decide)) (by rfl) (pa_cons (pv 0) (pa_cons pe_int pa_nil)))) (pss_cons (ps_if (PW.pt (pw_or (pt_cmpR op_lt (pv 3) pe_int (nomark _)) (pw_or1 (pt_cmpR op_eq (pe_callB call_len_seq (by rfl) B.len PySem.boot_len (pa_cons (pv 2) pa_nil)) pe_int (nomark _))))) (pss_one (ps_ret (pe_tup (pa_cons pe_str (pa_cons (pv 1) (pa_cons (pe_ix ix_list (pe_lst (pa_cons (pe_op op_sub (pe_cal C__law_draw (hr.mono (by decide)) (by rfl) (pa_cons (pv 0) (pa_cons pe_int pa_nil))) pe_int) (pa_cons pe_int (pa_cons (pe_un un_neg pe_int) (pa_cons (pe_cal C__law_draw (hr.mono (by decide)) (by rfl) (pa_cons (pv 0) (pa_cons pe_int pa_nil))) pa_nil))))) (pe_cal C__law_draw (hr.mono (by decide)) (by rfl) (pa_cons (pv 0) (pa_cons pe_int pa_nil))) (fun _ _ => rfl)) pa_nil)))))) pss_nil) (pss_cons (ps_if (pt_cmpR op_eq (pv 3) pe_int (nomark _)) (pss_one (ps_ret (pe_tup (pa_cons pe_str (pa_cons (pv 1) pa_nil))))) pss_nil) (pss_cons (ps_if (pt_cmpR op_eq (pv 3) pe_int (nomark _)) (pss_one (ps_ret (pe_tup (pa_cons pe_str (pa_cons (pe_cal C__law_pick (hr.mono (by decide)) (by rfl) (pa_cons (pv 0) (pa_cons (pv 2) pa_nil))) pa_nil))))) pss_nil) (pss_one (ps_ret (pe_tup (pa_cons pe_str (pa_cons (pv 1) (pa_cons (pe_ix ix_list (pe_lst (pa_cons pe_str (pa_cons pe_str (pa_cons pe_str (pa_cons pe_str (pa_cons pe_str pa_nil)))))) (pe_cal C__law_draw (hr.mono (by decide)) (by rfl) (pa_cons (pv 0) (pa_cons pe_int pa_nil))) (fun _ _ => rfl)) (pa_cons (pe_cal C__law_pick (hr.mono (by decide)) (by rfl) (pa_cons (pv 0) (pa_cons (pv 2) pa_nil))) (pa_cons (pe_cal C__law_pick (hr.mono (by decide)) (by rfl) (pa_cons (pv 0) (pa_cons (pv 2) pa_nil))) pa_nil))))))))))))), ?_⟩)
  · obtain ⟨b, a, x, xs, rfl, _⟩ := h
    rfl
  · obtain ⟨b, a, x, xs, rfl, hB, ha, hx, k⟩ := h
    have hne := bx_ne hB ha
    refine q_raw (r_draw (m := 8) (ev_var rfl) ev_c (by decide) hB fun c H1 hc x1 => ?_)
    have ha1 := x1.lst hne ha
    have hB1 := hB.x x1
    refine q_when (b := decide ((c : Int) < 2) || decide (V.int (((xs.map V.str).length : Nat) : Int) = V.int 0)) (et_or (et_T (ev_op (ev_var rfl) ev_c rv_I0)) fun _ => et_T (ev_op (ev_len (ev_var rfl) (sq_of ha1)) ev_c (rv_eq rfl))) (fun hb H2 e2 => ?_) (fun hb H2 e2 => ?_)
    · refine r_ret (r_tup (r_cons (r_ev ev_c fun H3 e3 => r_cons (r_ev (ev_var rfl) fun H4 e4 => r_cons (r_op (r_lst ?_))))))
      refine r_cons (r_op (r_draw (m := 5) (ev_var rfl) ev_c (by decide) (hB1.e (e2.trans (e3.trans e4))) fun c1 H5 hc1 x5 => ?_))
      refine r_ev ev_c fun H6 e6 => r_I0 ?_
      refine r_cons (r_ev ev_c fun H7 e7 => ?_)
      refine r_cons (r_ev (ev_un ev_c ru_neg) fun H8 e8 => ?_)
      refine r_cons (r_draw (m := 90) (ev_var rfl) ev_c (by decide) (((hB1.e (e2.trans (e3.trans e4))).x x5).e (e6.trans (e7.trans e8))) fun c2 H9 hc2 x9 => ?_)
      refine r_nil ⟨?_, fun p hp => ?_⟩
      · show 4 ≤ sizeLine
        decide
      · have y9 : XB b H H9 := x1.trans ((xb (e2.trans (e3.trans e4))).trans (x5.trans ((xb (e6.trans (e7.trans e8))).trans x9)))
        have hpb : p ≠ b := by
          rintro rfl
          obtain ⟨_, _, _, _, h⟩ := hB.x y9
          rw [hp] at h
          cases h
        refine r_draw (m := 4) (ev_var rfl) ev_c (by decide) ((hB.x y9).e (Ex.new hp)) fun c3 HA hc3 xA => ?_
        obtain ⟨z, hz⟩ : ∃ z : Int, ([.int ((c1 : Int) - 2), .int 32767, .int (-32768), intV c2] : List V)[c3]? = some (.int z) := by
          match c3, hc3 with
          | 0, _ => exact ⟨_, rfl⟩
          | 1, _ => exact ⟨_, rfl⟩
          | 2, _ => exact ⟨_, rfl⟩
          | 3, _ => exact ⟨_, rfl⟩
        refine r_ixL (sq_of (xA.lst hpb upd_same)) hz (r_nil ⟨(by show 3 ≤ sizeLine; decide), fun p2 hp2 => ?_⟩)
        exact k _ (.con x z) _ rfl ⟨p2, rfl, upd_same⟩ ((y9.e (Ex.new hp)).trans (xA.e (Ex.new hp2)))
    · obtain ⟨hb1, hb2⟩ := Bool.or_eq_false_iff.mp hb
      have hne0 : xs ≠ [] := by
        rintro rfl
        cases hb2
      have y2 := x1.e e2
      refine q_when (b := decide (V.int (c : Int) = V.int 2)) (et_T (ev_op (ev_var rfl) ev_c (rv_eq rfl))) (fun hb H3 e3 => ?_) (fun hb H3 e3 => ?_)
      · exact r_ret (r_tup (r_cons (r_ev ev_c fun H4 e4 => r_cons (r_ev (ev_var rfl) fun H5 e5 => r_nil ⟨(by show 2 ≤ sizeLine; decide), fun p2 hp2 => k _ (.rd x) _ rfl ⟨p2, rfl, upd_same⟩ (y2.e (e3.trans (e4.trans (e5.trans (Ex.new hp2)))))⟩))))
      · refine q_when (b := decide (V.int (c : Int) = V.int 3)) (et_T (ev_op (ev_var rfl) ev_c (rv_eq rfl))) (fun hb H4 e4 => ?_) (fun hb H4 e4 => ?_)
        · refine r_ret (r_tup (r_cons (r_ev ev_c fun H5 e5 => r_cons (r_pick (xs := xs) (ev_var rfl) (ev_var rfl) hne0 ?_ ?_ fun y H6 hy x6 => r_nil ⟨(by show 2 ≤ sizeLine; decide), fun p2 hp2 => k _ (.pr y) _ hy ⟨p2, rfl, upd_same⟩ ?_⟩))))
          · exact (e2.trans (e3.trans (e4.trans e5))) _ _ ha1
          · exact hB1.e (e2.trans (e3.trans (e4.trans e5)))
          · exact (x1.e (e2.trans (e3.trans (e4.trans e5)))).trans (x6.e (Ex.new hp2))
        · refine r_ret (r_tup (r_cons (r_ev ev_c fun H5 e5 => r_cons (r_ev (ev_var rfl) fun H6 e6 => r_cons (r_op (r_lst ?_))))))
          refine r_cons (r_ev ev_c fun H7 e7 => r_cons (r_ev ev_c fun H8 e8 => r_cons (r_ev ev_c fun H9 e9 => r_cons (r_ev ev_c fun HA eA => r_cons (r_ev ev_c fun HB eB => r_nil ⟨(by show 5 ≤ sizeLine; decide), fun p hp => ?_⟩)))))
          have yB : XB b H HB := y2.e (e3.trans (e4.trans (e5.trans (e6.trans (e7.trans (e8.trans (e9.trans (eA.trans eB))))))))
          have hpb : p ≠ b := by
            rintro rfl
            obtain ⟨_, _, _, _, h⟩ := hB.x yB
            rw [hp] at h
            cases h
          have yC : XB b H _ := yB.e (Ex.new (o := .lst [.str "add", .str "sub", .str "mul", .str "less", .str "equal"]) hp)
          refine r_draw (m := 5) (ev_var rfl) ev_c (by decide) (hB.x yC) fun c3 HD hc3 xD => ?_
          obtain ⟨z, hz⟩ : ∃ z : Str, ([.str "add", .str "sub", .str "mul", .str "less", .str "equal"] : List V)[c3]? = some (.str z) := by
            match c3, hc3 with
            | 0, _ => exact ⟨_, rfl⟩
            | 1, _ => exact ⟨_, rfl⟩
            | 2, _ => exact ⟨_, rfl⟩
            | 3, _ => exact ⟨_, rfl⟩
            | 4, _ => exact ⟨_, rfl⟩
          have yD := yC.trans xD
          refine r_ixL (sq_of (xD.lst hpb upd_same)) hz (r_cons (r_pick (xs := xs) (ev_var rfl) (ev_var rfl) hne0 (yD.lst hne ha) (hB.x yD) fun y HE hy xE => r_cons (r_pick (xs := xs) (ev_var rfl) (ev_var rfl) hne0 ((yD.trans xE).lst hne ha) (hB.x (yD.trans xE)) fun y2 HF hy2 xF => r_nil ⟨(by show 5 ≤ sizeLine; decide), fun p2 hp2 => ?_⟩)))
          exact k _ (.op x z y y2) _ ⟨rfl, hy, hy2⟩ ⟨p2, rfl, upd_same⟩ ((yD.trans xE).trans (xF.e (Ex.new hp2)))
abbrev s_law_scope : Stmt := top 36
abbrev n_law_scope : List Str := ["_law_numbers", "_law_defined", "_law_found", "_law_k"]
theorem sc_law_scope : FnScope ["_law_numbers", "_law_defined", "_law_found", "_law_k"] ["_law_numbers", "_law_defined"] (defScope s_law_scope) := ⟨rfl, rfl, rfl, by decide +kernel, rfl, by decide +kernel, by decide +kernel⟩
theorem ok__law_scope (F : FnP K "_law_scope" "_law_scope" s_law_scope f fd) (B : Blt mg) : FnOk P w K mg base CX0 1 f fd ["_law_numbers", "_law_defined"] spScope := by
  refine F.ok sc_law_scope (fun vs H Q E h => ?_) (fun cdv A outer s H vs Q E hr h => ⟨_, PSs.nox ((pss_cons (ps_set (i := 2) sc_law_scope.nd rfl (Or.inl rfl) (pe_lst pa_nil)) (pss_cons (ps_for PassesOwn.never rfl (pi_list (pv 0)) (pg_name (i := 3) sc_law_scope.nd rfl (Or.inl rfl)) (pss_one (ps_if (pt_cmpR op_lt (pv 3) (pe_callB call_len_seq (by rfl) B.len PySem.boot_len (pa_cons (pv 1) pa_nil)) (nomark _)) (pss_one (ps_set (i := 2) sc_law_scope.nd rfl (Or.inl rfl) (pe_op op_cat (pv 2) (pe_ix ix_list (pv 1) (pv 3) (fun _ _ => rfl))))) pss_nil))) (pss_one (ps_ret (pv 2)))))), ?_⟩)
  · obtain ⟨a, d, ks, us, Ls, rfl, _⟩ := h
    rfl
  · obtain ⟨a, d, ks, us, Ls, rfl, ha, hd, hp, hk, hL, k⟩ := h
    have hlen := pd_len hp
    refine q_asgL (xs := []) (el_lst ea_nil (by decide)) fun l H1 hl e1 h1 => ?_
    refine q_forL (ev_var rfl) (sq_of (e1 _ _ ha)) (fun i σ' H' => ∃ (l : Addr) (o : Option V), σ' = [some (.ref a), some (.ref d), some (.ref l), o] ∧ Ex H H' ∧ H l = none ∧ H' l = some (.lst ((scopeOf Ls (ks.take i)).map V.str)))
      (fun H2 e2 => ⟨l, none, rfl, e1.trans e2, hl, e2 _ _ h1⟩) (fun i σ' H' _ ⟨_, _, _, e, _⟩ => sq_of (e _ _ ha)) ?_ ?_
    · rintro i x σ' H' hx ⟨l, o, rfl, e2, hl, h2⟩
      rw [List.getElem?_map] at hx
      cases hk2 : ks[i]? with
      | none => rw [hk2] at hx; cases hx
      | some n =>
        rw [hk2] at hx
        cases hx
        have hlt := (List.getElem?_eq_some_iff.mp hk2).1
        rw [take_succ hk2, scopeOf_snoc]
        refine s_when (b := decide ((n : Int) < (((us.length : Nat) : Int)))) (et_T (ev_op (ev_var rfl) (ev_len (ev_var rfl) (sq_of (e2 _ _ hd))) rv_I0)) (fun hb H3 e3 => ?_) (fun hb H3 e3 => ?_)
        · have hb := of_decide_eq_true hb
          have hn : n < us.length := by omega
          obtain ⟨L, hL1, q, hq1, hq2⟩ := pd_get hp (List.getElem?_eq_getElem hn)
          have e23 := e2.trans e3
          have b1 := scopeOf_len hL (ks.take i)
          have b2 : (ks.take i).length ≤ 20 := by rw [List.length_take]; omega
          have b3 : (ks.take i).length * 100 ≤ 20 * 100 := Nat.mul_le_mul_right _ b2
          have b4 := hL L (List.mem_of_getElem? hL1)
          refine s_asgL (D := { nx := _, rt := _, bk := _, ct := _ }) (el_cat2 (ev_var rfl) (e3 _ _ h2) (ev_ixL (ev_var rfl) (e23 _ _ hd) (ev_var rfl) (atI_nat (j := n) (by rw [List.getElem?_eq_getElem hn, hq1]))) (e23 _ _ hq2) (by rw [List.length_map, List.length_map]; omega)) fun p H4 hp4 e4 h4 => ?_
          refine ⟨p, _, rfl, e23.trans e4, fresh_back e23 hp4, ?_⟩
          rw [h4, hL1, ← List.map_append]
          rfl
        · have hb := of_decide_eq_false hb
          refine ⟨l, _, rfl, e2.trans e3, hl, ?_⟩
          rw [List.getElem?_eq_none (by omega)]
          rw [e3 _ _ h2]
          simp
    · rintro σ' H' ⟨l, o, rfl, e2, hl, h2⟩
      rw [List.length_map, List.take_length] at h2
      exact s_ret (ev_var rfl) fun H3 e3 => k l H3 hl (e2.trans e3) (e3 _ _ h2)
end
end Sh
end

section
set_option Elab.async false
set_option linter.all false
set_option maxRecDepth 100000
set_option maxHeartbeats 4000000
/-! Walks: _law_reached, _law_dominators_of. -/
namespace Sh
open PySem PySem.Spec PyProof.Rows L2 Evl Classical
open SF (RA Reach Dom sucOf domsOf)
/-- one block of a shape: [its targets, how many parameters] -/
def CellAt (H : Hp) (v : V) (s : List Nat × Nat) : Prop := ∃ q t, v = .ref q ∧ H q = some (.lst [.ref t, intV s.2]) ∧ H t = some (.lst (s.1.map intV))
def ShpAt (H : Hp) (a : Addr) (S : List (List Nat × Nat)) : Prop := ∃ vs, H a = some (.lst vs) ∧ Paired (CellAt H) vs S
theorem CellAt.e {H H' : Hp} {v : V} {s : List Nat × Nat} (e : Ex H H') (h : CellAt H v s) : CellAt H' v s := let ⟨q, t, h1, h2, h3⟩ := h; ⟨q, t, h1, e _ _ h2, e _ _ h3⟩
theorem ShpAt.e {H H' : Hp} {a : Addr} {S : List (List Nat × Nat)} (e : Ex H H') (h : ShpAt H a S) : ShpAt H' a S := let ⟨vs, h1, h2⟩ := h; ⟨vs, e _ _ h1, Paired.mapP h2 fun v b q => q.e e⟩
theorem pd_memP {α β : Type} {F G : α → β → Prop} : ∀ {l : List α} {m : List β}, Paired F l m → (∀ a b, a ∈ l → F a b → G a b) → Paired G l m
  | _, _, .nil, _ => .nil
  | _, _, .cons h t, k => .cons (k _ _ (List.mem_cons_self ..) h) (pd_memP t fun a b ha => k a b (List.mem_cons_of_mem _ ha))
def sucS (S : List (List Nat × Nat)) (u : Nat) : List Nat := match S[u]? with
  | some s => s.1
  | none => []
/-- a shape's bounds -/
structure ShpOk (S : List (List Nat × Nat)) : Prop where
  pos : 0 < S.length
  len : S.length ≤ 5
  two : ∀ s ∈ S, s.1.length ≤ 2
  lt : ∀ s ∈ S, ∀ t ∈ s.1, t < S.length
theorem sucS_lt {S : List (List Nat × Nat)} (O : ShpOk S) {u v : Nat} (h : v ∈ sucS S u) : v < S.length := by
  unfold sucS at h
  cases q : S[u]? with
  | none => rw [q] at h; cases h
  | some s => rw [q] at h; exact O.lt s (List.mem_of_getElem? q) v h
theorem sucS_two {S : List (List Nat × Nat)} (O : ShpOk S) (u : Nat) : (sucS S u).length ≤ 2 := by
  unfold sucS
  cases q : S[u]? with
  | none => exact Nat.zero_le _
  | some s => exact O.two s (List.mem_of_getElem? q)
theorem inV_nat (n : Nat) (ns : List Nat) : inV (intV n) (ns.map intV) = decide (n ∈ ns) := by
  induction ns with
  | nil => rfl
  | cons a r ih =>
    have e : inV (intV n) ((a :: r).map intV) = (eqV (intV a) (intV n) || inV (intV n) (r.map intV)) := rfl
    have e2 : eqV (intV a) (intV n) = decide (a = n) := by
      show ((a : Int) == (n : Int)) = decide (a = n)
      by_cases q : a = n
      · subst q; simp
      · rw [decide_eq_false q]; exact beq_eq_false_iff_ne.mpr fun z => q (by omega)
    rw [e, ih, e2]
    by_cases q : a = n
    · subst q; simp
    · have q' : ¬ n = a := fun z => q z.symm
      simp [q, q']
theorem flat_nats (ys : List Nat) : (ys.map intV).all flatV = true := by
  rw [List.all_eq_true]
  intro x hx
  obtain ⟨y, _, rfl⟩ := List.mem_map.mp hx
  rfl
structure QSt (S : List (List Nat × Nat)) (wn : Nat) (ns ts : List Nat) : Prop where
  nd : ns.Nodup
  lt : ∀ v ∈ ns, v < S.length
  ra : ∀ v ∈ ns, RA (sucS S) (fun u => u = wn) v
  rt : ∀ v ∈ ts, v ≠ wn → RA (sucS S) (fun u => u = wn) v
  lt2 : ∀ v ∈ ts, v < S.length
  cl : ∀ u ∈ ns, ∀ v, v ∈ sucS S u → v ≠ wn → v ∈ ns ∨ v ∈ ts
  z : 0 ≠ wn → 0 ∈ ns ∨ 0 ∈ ts
theorem QSt.skip {S : List (List Nat × Nat)} {wn n : Nat} {ns ts : List Nat} (q : QSt S wn ns (ts ++ [n])) (h : n = wn ∨ n ∈ ns) : QSt S wn ns ts where
  nd := q.nd
  lt := q.lt
  ra := q.ra
  rt := fun v hv => q.rt v (List.mem_append_left _ hv)
  lt2 := fun v hv => q.lt2 v (List.mem_append_left _ hv)
  cl := fun u hu v he hv => by
    rcases q.cl u hu v he hv with z | z
    · exact .inl z
    · rcases List.mem_append.mp z with z | z
      · exact .inr z
      · rw [List.mem_singleton.mp z] at hv ⊢
        exact .inl (h.resolve_left hv)
  z := fun h0 => by
    rcases q.z h0 with z | z
    · exact .inl z
    · rcases List.mem_append.mp z with z | z
      · exact .inr z
      · rw [List.mem_singleton.mp z] at h0 ⊢
        exact .inl (h.resolve_left h0)
theorem QSt.go {S : List (List Nat × Nat)} {wn n : Nat} {ns ts : List Nat} (O : ShpOk S) (q : QSt S wn ns (ts ++ [n])) (hw : n ≠ wn) (h : n ∉ ns) : QSt S wn (ns ++ [n]) (ts ++ sucS S n) where
  nd := List.nodup_append.mpr ⟨q.nd, by simp, fun a ha b hb e => h (by rw [← List.mem_singleton.mp hb, ← e]; exact ha)⟩
  lt := fun v hv => by
    rcases List.mem_append.mp hv with z | z
    · exact q.lt v z
    · rw [List.mem_singleton.mp z]; exact q.lt2 n (List.mem_append_right _ (List.mem_singleton.mpr rfl))
  ra := fun v hv => by
    rcases List.mem_append.mp hv with z | z
    · exact q.ra v z
    · rw [List.mem_singleton.mp z]; exact q.rt n (List.mem_append_right _ (List.mem_singleton.mpr rfl)) hw
  rt := fun v hv hn => by
    rcases List.mem_append.mp hv with z | z
    · exact q.rt v (List.mem_append_left _ z) hn
    · exact .step (q.rt n (List.mem_append_right _ (List.mem_singleton.mpr rfl)) hw) z hn
  lt2 := fun v hv => by
    rcases List.mem_append.mp hv with z | z
    · exact q.lt2 v (List.mem_append_left _ z)
    · exact sucS_lt O z
  cl := fun u hu v he hv => by
    rcases List.mem_append.mp hu with z | z
    · rcases q.cl u z v he hv with z | z
      · exact .inl (List.mem_append_left _ z)
      · rcases List.mem_append.mp z with z | z
        · exact .inr (List.mem_append_left _ z)
        · exact .inl (List.mem_append_right _ z)
    · rw [List.mem_singleton.mp z] at he
      exact .inr (List.mem_append_right _ he)
  z := fun h0 => by
    rcases q.z h0 with z | z
    · exact .inl (List.mem_append_left _ z)
    · rcases List.mem_append.mp z with z | z
      · exact .inr (List.mem_append_left _ z)
      · exact .inl (List.mem_append_right _ z)
theorem QSt.done {S : List (List Nat × Nat)} {wn : Nat} {ns : List Nat} (q : QSt S wn ns []) (v : Nat) : v ∈ ns ↔ RA (sucS S) (fun u => u = wn) v := by
  refine ⟨q.ra v, fun r => ?_⟩
  induction r with
  | zero h0 => exact (q.z h0).elim id fun z => by cases z
  | step _ e n ih => exact (q.cl _ ih _ e n).elim id fun z => by cases z
def spLReached : Sp := fun vs H Q _ => ∃ (a : Addr) (S : List (List Nat × Nat)) (wn : Nat), vs = [.ref a, intV wn] ∧ ShpAt H a S ∧ ShpOk S ∧
  ∀ p H' (ns : List Nat), H p = none → Ex H H' → H' p = some (.lst (ns.map intV)) → (∀ v, v ∈ ns ↔ RA (sucS S) (fun u => u = wn) v) → Q (.ref p) H'
def NatsAt (H : Hp) (v : V) (ns : List Nat) : Prop := ∃ p, v = .ref p ∧ H p = some (.lst (ns.map intV))
theorem NatsAt.e {H H' : Hp} {v : V} {xs : List Nat} (e : Ex H H') (h : NatsAt H v xs) : NatsAt H' v xs := let ⟨p, h1, h2⟩ := h; ⟨p, h1, e _ _ h2⟩
noncomputable def domsS (S : List (List Nat × Nat)) : List (List Nat) := (List.range S.length).map (domsOf (sucS S) S.length)
def spLDoms : Sp := fun vs H Q _ => ∃ (a : Addr) (S : List (List Nat × Nat)), vs = [.ref a] ∧ ShpAt H a S ∧ ShpOk S ∧
  ∀ p H' us, H p = none → Ex H H' → H' p = some (.lst us) → Paired (NatsAt H') us (domsS S) → Q (.ref p) H'
section
variable {P : Program} {w : World} {K : PySem.W.Frag} {mg : Str → Option Value} {base : Heap} {f C : Addr} {fd : FuncData} {σ : L2.St} {H : Hp} {g : TG} {tu tz : TS} {D : Ends} {ta tb tc te tl td tv ty : TE} {tr : TA} {tt : TT} {Q : VK} {r : R2}
theorem intV_eq {a b : Nat} : decide (intV a = intV b) = decide (a = b) := decide_eq_decide.mpr ⟨fun z => by have := V.int.inj z; omega, fun z => by rw [z]⟩
theorem r_call2 {sp : Sp} {E : XK} (h : ta σ H fun x H1 => tb σ H1 fun y H2 => sp [x, y] H2 Q E) : tCall sp [] E (tCons ta (tCons tb tNil)) σ H Q := h
theorem r_call3 {sp : Sp} {E : XK} (h : ta σ H fun x H1 => tb σ H1 fun y H2 => tc σ H2 fun z H3 => sp [x, y, z] H3 Q E) : tCall sp [] E (tCons ta (tCons tb (tCons tc tNil))) σ H Q := h
abbrev s_law_reached : Stmt := top 33
abbrev n_law_reached : List Str := ["_law_shape_here", "_law_without", "_law_seen", "_law_todo", "_law_k"]
theorem sc_law_reached : FnScope ["_law_shape_here", "_law_without", "_law_seen", "_law_todo", "_law_k"] ["_law_shape_here", "_law_without"] (defScope s_law_reached) := ⟨rfl, rfl, rfl, by decide +kernel, rfl, by decide +kernel, by decide +kernel⟩
theorem ok__law_reached (F : FnP K "_law_reached" "_law_reached" s_law_reached f fd) (B : Blt mg) : FnOk P w K mg base CX0 1 f fd ["_law_shape_here", "_law_without"] spLReached := by
  refine F.ok sc_law_reached (fun vs H Q E h => ?_) (fun cdv A outer s H vs Q E hr h => ⟨_, PSs.nox ((pss_cons (ps_set (i := 2) sc_law_reached.nd rfl (Or.inl rfl) (pe_lst pa_nil)) (pss_cons (ps_set (i := 3) sc_law_reached.nd rfl (Or.inl rfl) (pe_lst (pa_cons pe_int pa_nil))) (pss_cons (ps_while PassesOwn.never (pt_cmpR op_gt (pe_callB call_len_seq (by rfl) B.len PySem.boot_len (pa_cons (pv 3) pa_nil)) pe_int (nomark _)) (pss_cons (ps_set (i := 4) sc_law_reached.nd rfl (Or.inl rfl) (pe_bm0 PySem.F.plainAttrs_list PySem.F.slot_list_pop PySem.F.type_list_pop mt_pop (pv 3))) (pss_one (ps_if (PW.pt (pw_and (pt_cmpR op_ne (pv 4) (pv 1) (nomark _)) (pw_and1 (pt_cmpR op_notIn_seq (pv 4) (pv 2) (by rfl))))) (pss_cons (ps_expr (pe_bm PySem.F.plainAttrs_list PySem.F.slot_list_append PySem.F.type_list_append mt_append (pv 2) (pa_cons (pv 4) pa_nil))) (pss_one (ps_set (i := 3) sc_law_reached.nd rfl (Or.inl rfl) (pe_op op_cat (pv 3) (pe_callTy call_list_of (by rfl) B.list (by decide +kernel) (pa_cons (pe_ix ix_list (pe_ix ix_list (pv 0) (pv 4) (fun _ _ => rfl)) pe_int (fun _ _ => rfl)) pa_nil)))))) pss_nil)))) (pss_one (ps_ret (pv 2))))))), ?_⟩)
  · obtain ⟨a, S, wn, rfl, _⟩ := h
    rfl
  · obtain ⟨a, S, wn, rfl, hS, O, k⟩ := h
    obtain ⟨vs, ha, hp⟩ := hS
    have hlen := pd_len hp
    refine q_asgL (xs := []) (el_lst ea_nil (by decide)) fun s H1 hs e1 h1 => ?_
    refine q_asgL (xs := [intV 0]) (el_lst (ea1 ev_c) (by show 1 ≤ 100000; decide)) fun l H2 hl e2 h2 => ?_
    have hsl : s ≠ l := ne_of_none h1 hl
    have S0 : QSt S wn [] [0] := ⟨List.nodup_nil, fun v hv => (nomatch hv), fun v hv => (nomatch hv), fun v hv hn => by
      rw [List.mem_singleton.mp hv] at hn ⊢
      exact .zero hn, fun v hv => by rw [List.mem_singleton.mp hv]; exact O.pos, fun u hu => (nomatch hu), fun _ => .inr (List.mem_singleton.mpr rfl)⟩
    refine q_while (fun m σ' H' => ∃ ns ts l o4, σ' = [some (.ref a), some (intV wn), some (.ref s), some (.ref l), o4] ∧ Ex H H' ∧ H l = none ∧ s ≠ l ∧ H' s = some (.lst (ns.map intV)) ∧ H' l = some (.lst (ts.map intV)) ∧ QSt S wn ns ts ∧ (S.length - ns.length) * 4 + ts.length = m ∧ ts.length ≤ 1 + ns.length * 2) _
      ⟨[], [0], l, none, rfl, e1.trans e2, fresh_back e1 hl, hsl, e2 _ _ h1, h2, S0, rfl, by simp⟩ ?_
    rintro m σ' H' ⟨ns, ts, l, o4, rfl, e3, hl, hsl, h3, h4, q, rfl, hts⟩
    have hns : ns.length ≤ S.length := nd_le q.nd q.lt
    have hS5 := O.len
    refine ⟨decide ((0 : Int) < (((ts.map intV).length : Nat) : Int)), et_T (ev_op (ev_lenL (ev_var rfl) h4) ev_c rv_I0), fun hb H4 e4 => ?_, fun hb H4 e4 => ?_⟩
    · have hb := of_decide_eq_true hb
      obtain ⟨ts', n, rfl⟩ : ∃ ts' n, ts = ts' ++ [n] := by
        cases ts with
        | nil => exact absurd hb (by simp)
        | cons x r => exact ⟨(x :: r).dropLast, (x :: r).getLast (by simp), (List.dropLast_concat_getLast _).symm⟩
      refine ⟨fun σ2 H2 => ∃ m', m' < (S.length - ns.length) * 4 + (ts' ++ [n]).length ∧ ∃ ns ts l o4, σ2 = [some (.ref a), some (intV wn), some (.ref s), some (.ref l), o4] ∧ Ex H H2 ∧ H l = none ∧ s ≠ l ∧ H2 s = some (.lst (ns.map intV)) ∧ H2 l = some (.lst (ts.map intV)) ∧ QSt S wn ns ts ∧ (S.length - ns.length) * 4 + ts.length = m' ∧ ts.length ≤ 1 + ns.length * 2, fun σ2 H2 h => h, ?_⟩
      rw [List.map_append] at h4
      refine q_pop (ev_var rfl) (e4 _ _ h4) fun H5 e5 => ?_
      have e45 := e4.trans e5
      have hs5 : upd H5 l (.lst (ts'.map intV)) s = some (.lst (ns.map intV)) := by rw [upd_ne hsl]; exact e45 _ _ h3
      have ex5 := ex_upd (o := .lst (ts'.map intV)) e3 hl e45
      have hl5 : upd H5 l (.lst (ts'.map intV)) l = some (.lst (ts'.map intV)) := upd_same
      generalize upd H5 l (.lst (ts'.map intV)) = H6 at hs5 ex5 hl5
      rw [List.length_append, List.length_singleton] at hts
      refine s_when (b := decide (n ≠ wn) && decide (n ∉ ns)) (et_and (et_is (et_T (ev_op (ev_var rfl) (ev_var rfl) (rv_ne rfl))) (by rw [intV_eq]; by_cases z : n = wn <;> simp [z])) fun _ => et_is (et_T (ev_op (ev_var rfl) (ev_var rfl) (rv_niL (sq_of hs5) rfl (flat_nats _)))) (by
        show (if true = true then !inV (intV n) (ns.map intV) else inV (intV n) (ns.map intV)) = _
        rw [if_pos rfl, inV_nat]
        by_cases z : n ∈ ns <;> simp [z])) (fun hn H7 e7 => ?_) (fun hn H7 e7 => ?_)
      · obtain ⟨hn1, hn2⟩ := Bool.and_eq_true_iff.mp hn
        have hn1 := of_decide_eq_true hn1
        have hn2 := of_decide_eq_true hn2
        have hlt : n < S.length := q.lt2 n (List.mem_append_right _ (List.mem_singleton.mpr rfl))
        have q' := q.go O hn1 hn2
        have hns' : (ns ++ [n]).length ≤ S.length := nd_le q'.nd q'.lt
        rw [List.length_append, List.length_singleton] at hns'
        refine q_app (v := intV n) (e7 _ _ hs5) (ev_var rfl) (ev_var rfl) (by rw [List.length_map]; omega) fun H8 e8 => ?_
        have ex8 := ex_upd (o := .lst (ns.map intV ++ [intV n])) ex5 hs (e7.trans e8)
        have hl8 : (upd H8 s (.lst (ns.map intV ++ [intV n]))) l = some (.lst (ts'.map intV)) := by rw [upd_ne hsl.symm]; exact e8 _ _ (e7 _ _ hl5)
        have hs8 : (upd H8 s (.lst (ns.map intV ++ [intV n]))) s = some (.lst (ns.map intV ++ [intV n])) := upd_same
        generalize upd H8 s (.lst (ns.map intV ++ [intV n])) = H9 at ex8 hl8 hs8
        have hn3 : S[n]? = some S[n] := List.getElem?_eq_getElem hlt
        obtain ⟨x, hx, qa, t, rfl, hq, ht⟩ := pd_get' hp hn3
        have hsn : sucS S n = S[n].1 := by unfold sucS; rw [hn3]
        have h2n := sucS_two O n
        refine s_asgL (D := { nx := _, rt := _, bk := _, ct := _ }) (el_catL (ev_var rfl) hl8 (el_list (ev_ixL (ev_ixL (ev_var rfl) (ex8 _ _ ha) (ev_var rfl) (atI_nat (j := n) hx)) (ex8 _ _ hq) ev_c (atI_nat (j := 0) rfl)) (sq_of (ex8 _ _ ht))) (by rw [List.length_map, List.length_map, ← hsn]; omega)) fun p HA hpA eA hA => ?_
        refine ⟨_, ?_, ns ++ [n], ts' ++ sucS S n, p, _, rfl, ex8.trans eA, fresh_back ex8 hpA, ne_of_none hs8 hpA, by rw [eA _ _ hs8, List.map_append]; rfl, by rw [hA, List.map_append, hsn], q', rfl, ?_⟩
        · simp only [List.length_append, List.length_singleton]
          omega
        · simp only [List.length_append, List.length_singleton]
          omega
      · have hn : n = wn ∨ n ∈ ns := by
          apply Classical.byContradiction
          intro z
          rw [not_or] at z
          rw [decide_eq_true z.1, decide_eq_true z.2] at hn
          cases hn
        exact ⟨(S.length - ns.length) * 4 + ts'.length, by rw [List.length_append, List.length_singleton]; omega, ns, ts', l, _, rfl, ex5.trans e7, hl, hsl, e7 _ _ hs5, e7 _ _ hl5, q.skip hn, rfl, by omega⟩
    · obtain rfl : ts = [] := by
        cases ts with
        | nil => rfl
        | cons x r =>
          have := of_decide_eq_false hb
          exact absurd (by simp : (0 : Int) < (((List.map intV (x :: r)).length : Nat) : Int)) this
      exact s_ret (ev_var rfl) fun H5 e5 => k s H5 ns hs ((e3.trans e4).trans e5) (e5 _ _ (e4 _ _ h3)) q.done
abbrev s_law_dominators_of : Stmt := top 32
abbrev n_law_dominators_of : List Str := ["_law_shape_here", "_law_found", "_law_k", "_law_rows", "_law_other"]
theorem sc_law_dominators_of : FnScope ["_law_shape_here", "_law_found", "_law_k", "_law_rows", "_law_other"] ["_law_shape_here"] (defScope s_law_dominators_of) := ⟨rfl, rfl, rfl, by decide +kernel, rfl, by decide +kernel, by decide +kernel⟩
theorem ok__law_dominators_of (F : FnP K "_law_dominators_of" "_law_dominators_of" s_law_dominators_of f fd) (B : Blt mg) (C__law_reached : Cal P w K mg base "_law_reached" 1 ["_law_shape_here", "_law_without"] spLReached) : FnOk P w K mg base CX0 2 f fd ["_law_shape_here"] spLDoms := by
  refine F.ok sc_law_dominators_of (fun vs H Q E h => ?_) (fun cdv A outer s H vs Q E hr h => ⟨_, PSs.nox ((pss_cons (ps_set (i := 1) sc_law_dominators_of.nd rfl (Or.inl rfl) (pe_lst pa_nil)) (pss_cons (ps_for PassesOwn.never rfl (pi_range1 (by rfl) B.range (pa_cons (pe_callB call_len_seq (by rfl) B.len PySem.boot_len (pa_cons (pv 0) pa_nil)) pa_nil)) (pg_name (i := 2) sc_law_dominators_of.nd rfl (Or.inl rfl)) (pss_cons (ps_set (i := 3) sc_law_dominators_of.nd rfl (Or.inl rfl) (pe_lst pa_nil)) (pss_cons (ps_for PassesOwn.never rfl (pi_range1 (by rfl) B.range (pa_cons (pe_callB call_len_seq (by rfl) B.len PySem.boot_len (pa_cons (pv 0) pa_nil)) pa_nil)) (pg_name (i := 4) sc_law_dominators_of.nd rfl (Or.inl rfl)) (pss_one (ps_if (PW.pt (pw_or (pt_cmpR op_eq (pv 4) (pv 2) (nomark _)) (pw_or1 (pt_cmpR op_notIn_seq (pv 2) (pe_cal C__law_reached (hr.mono (by decide)) (by rfl) (pa_cons (pv 0) (pa_cons (pv 4) pa_nil))) (by rfl))))) (pss_one (ps_expr (pe_bm PySem.F.plainAttrs_list PySem.F.slot_list_append PySem.F.type_list_append mt_append (pv 3) (pa_cons (pv 4) pa_nil)))) pss_nil))) (pss_one (ps_expr (pe_bm PySem.F.plainAttrs_list PySem.F.slot_list_append PySem.F.type_list_append mt_append (pv 1) (pa_cons (pv 3) pa_nil))))))) (pss_one (ps_ret (pv 1)))))), ?_⟩)
  · obtain ⟨a, S, rfl, _⟩ := h
    rfl
  · obtain ⟨a, S, rfl, hS, O, k⟩ := h
    have hS' := hS
    obtain ⟨vs, ha, hp⟩ := hS'
    have hlen := pd_len hp
    have hS5 := O.len
    refine q_asgL (xs := []) (el_lst ea_nil (by decide)) fun l H1 hl e1 h1 => ?_
    refine q_forR1 (ea1 (ev_lenL (ev_var rfl) (e1 _ _ ha))) (by omega) (fun i σ' H' => (∃ o2 o3 o4, σ' = [some (.ref a), some (.ref l), o2, o3, o4]) ∧ Ex H H' ∧ ∃ us, H' l = some (.lst us) ∧ Paired (NatsAt H') us ((List.range i).map (domsOf (sucS S) S.length)) ∧ ∀ u ∈ us, u ≠ .ref l)
      (fun H2 e2 => ⟨⟨none, none, none, rfl⟩, e1.trans e2, [], e2 _ _ h1, .nil, fun _ h => nomatch h⟩) ?_ ?_
    · rintro i σ' H' hi ⟨⟨o2, o3, o4, rfl⟩, e2, us, h2, h3, h3n⟩
      have hi5 : i < S.length := by omega
      refine q_asgL (xs := []) (el_lst ea_nil (by decide)) fun r H3 hr3 e3 h4 => ?_
      have hlr : l ≠ r := ne_of_none h2 hr3
      have e23 := e2.trans e3
      have hr0 : H r = none := fresh_back e2 hr3
      refine q_forR1 (D := { nx := _, rt := _, bk := _, ct := _ }) (ea1 (ev_lenL (ev_var rfl) (e23 _ _ ha))) (by omega) (fun j σ' H4 => (∃ o4, σ' = [some (.ref a), some (.ref l), some (intV i), some (.ref r), o4]) ∧ Ex H' H4 ∧ H4 r = some (.lst (((List.range j).filter fun o => decide (Dom (sucS S) o i)).map intV)))
        (fun H4 e4 => ⟨⟨_, rfl⟩, e3.trans e4, e4 _ _ h4⟩) ?_ ?_
      · rintro j σ' H4 hj ⟨⟨o4, rfl⟩, e4, h5⟩
        have hsz : (((List.range j).filter fun o => decide (Dom (sucS S) o i)).map intV).length < 100000 := by
          have := List.length_filter_le (fun o => decide (Dom (sucS S) o i)) (List.range j)
          rw [List.length_range] at this
          rw [List.length_map]
          omega
        refine s_when (b := decide (Dom (sucS S) j i)) (fun H5 e5 QT qT => ?_) (fun hb H5 e5 => ?_) (fun hb H5 e5 => ?_)
        · refine et_T (ev_op (ev_var rfl) (ev_var rfl) (rv_eq rfl)) H5 e5 _ fun H6 e6 => ?_
          show if decide (intV j = intV i) = true then _ else _
          rw [intV_eq]
          by_cases hji : j = i
          · rw [decide_eq_true hji]
            have : decide (Dom (sucS S) j i) = true := decide_eq_true (by rw [hji]; exact Dom.refl i)
            rw [this] at qT
            exact qT H6 e6
          · rw [decide_eq_false hji]
            refine r_op (r_ev (ev_var rfl) fun H7 e7 => ?_)
            refine r_call2 (r_ev (ev_var rfl) fun H8 e8 => r_ev (ev_var rfl) fun H9 e9 => ⟨a, S, j, rfl, hS.e (e2.trans (e4.trans (e5.trans (e6.trans (e7.trans (e8.trans e9)))))), O, fun p HA ns hpA eA hA hns => ?_⟩)
            refine rv_niL (sq_of hA) rfl (flat_nats _) HA (Ex.refl HA) _ fun HB eB => ⟨_, rfl, ?_⟩
            rw [inV_nat]
            have : (!decide (i ∈ ns)) = decide (Dom (sucS S) j i) := by
              by_cases z : i ∈ ns
              · rw [decide_eq_true z, decide_eq_false (show ¬ Dom (sucS S) j i from fun d => d ((hns i).mp z))]
                rfl
              · rw [decide_eq_false z, decide_eq_true (show Dom (sucS S) j i from fun d => z ((hns i).mpr d))]
                rfl
            rw [this]
            exact qT HB (e6.trans (e7.trans (e8.trans (e9.trans (eA.trans eB)))))
        · refine s_app (D := { nx := _, rt := _, bk := _, ct := _ }) (v := intV j) (e5 _ _ h5) (ev_var rfl) (ev_var rfl) hsz fun H6 e6 => ?_
          refine ⟨⟨_, rfl⟩, ex_upd e4 hr3 (e5.trans e6), ?_⟩
          rw [upd_same, List.range_succ, List.filter_append, List.filter_cons, if_pos hb, List.map_append]
          rfl
        · refine ⟨⟨_, rfl⟩, e4.trans e5, ?_⟩
          rw [e5 _ _ h5, List.range_succ, List.filter_append, List.filter_cons, if_neg (by rw [hb]; exact Bool.false_ne_true)]
          simp
      · rintro σ' H4 ⟨⟨o4, rfl⟩, e4, h5⟩
        have hj : ((vs.length : Int)).toNat = S.length := by omega
        rw [hj] at h5
        have hl4 : H4 l = some (.lst us) := e4 _ _ h2
        have us5 : us.length = i := by rw [pd_len h3, List.length_map, List.length_range]
        refine s_app (D := { nx := _, rt := _, bk := _, ct := _ }) (v := .ref r) hl4 (ev_var rfl) (ev_var rfl) (by omega) fun H5 e5 => ?_
        refine ⟨⟨_, _, _, rfl⟩, ex_upd e2 (by exact fresh_back (Ex.refl _) hl) (e4.trans e5), us ++ [.ref r], upd_same, ?_, ?_⟩
        · rw [List.range_succ, List.map_append]
          refine pd_snoc ?_ ⟨r, rfl, by rw [upd_ne hlr.symm]; exact e5 _ _ h5⟩
          refine pd_memP h3 fun v b hv ⟨p, h6, h7⟩ => ⟨p, h6, ?_⟩
          rw [upd_ne (by rintro rfl; exact h3n v hv h6)]
          exact e5 _ _ (e4 _ _ h7)
        · intro u hu
          rcases List.mem_append.mp hu with z | z
          · exact h3n u z
          · rw [List.mem_singleton.mp z]
            intro h
            exact hlr (V.ref.inj h).symm
    · rintro σ' H' ⟨⟨o2, o3, o4, rfl⟩, e2, us, h2, h3, h3n⟩
      have hj : ((vs.length : Int)).toNat = S.length := by omega
      rw [hj] at h3
      exact s_ret (ev_var rfl) fun H5 e5 => k l H5 us hl (e2.trans e5) (e5 _ _ h2) (Paired.mapP h3 fun v b q => q.e e5)
end
end Sh
end

section
set_option Elab.async false
set_option linter.all false
set_option maxRecDepth 100000
set_option maxHeartbeats 4000000
/-! Walks: _law_shape. -/
namespace Sh
open PySem PySem.Spec PyProof.Rows L2 Evl
/-- all outside F stays -/
def KF (F : Addr → Prop) (H H' : Hp) : Prop := ∀ a o, ¬ F a → H a = some o → H' a = some o
theorem KF.refl (F : Addr → Prop) (H : Hp) : KF F H H := fun _ _ _ h => h
theorem KF.trans {F : Addr → Prop} {H H1 H2 : Hp} (x : KF F H H1) (y : KF F H1 H2) : KF F H H2 := fun a o n h => y a o n (x a o n h)
theorem kf {F : Addr → Prop} {H H' : Hp} (e : Ex H H') : KF F H H' := fun a o _ h => e a o h
theorem XB.kf {F : Addr → Prop} {b : Addr} {H H' : Hp} (x : XB b H H') (h : F b) : KF F H H' := fun a o n z => x.1 a o (fun e => n (by rw [e]; exact h)) z
theorem KF.upd {F : Addr → Prop} {H H' : Hp} {p : Addr} {o : HO} (k : KF F H H') (h : F p) : KF F H (upd H' p o) := fun a u n z => by
  rw [upd_ne (fun e => n (by rw [e]; exact h))]
  exact k a u n z
/-- a cell of a shape, its things outside F -/
def CellQ (F : Addr → Prop) (H : Hp) (q : Addr) (s : List Nat × Nat) : Prop := ¬ F q ∧ ∃ t, ¬ F t ∧ H q = some (.lst [.ref t, intV s.2]) ∧ H t = some (.lst (s.1.map intV))
theorem CellQ.keep {F : Addr → Prop} {H H' : Hp} {q : Addr} {s : List Nat × Nat} (k : KF F H H') (h : CellQ F H q s) : CellQ F H' q s := let ⟨h0, t, h1, h2, h3⟩ := h; ⟨h0, t, h1, k _ _ h0 h2, k _ _ h1 h3⟩
/-- what a shape of m blocks keeps -/
def TgOk (m : Nat) (ts : List Nat) : Prop := ts.length ≤ 2 ∧ ∀ t ∈ ts, t < m
structure ShOk (S : List (List Nat × Nat)) : Prop where
  pos : 0 < S.length
  len : S.length ≤ 5
  tg : ∀ s ∈ S, TgOk S.length s.1
  nxt : ∀ k s, S[k]? = some s → k + 1 < S.length → k + 1 ∈ s.1
theorem ShOk.ok {S : List (List Nat × Nat)} (O : ShOk S) : ShpOk S := ⟨O.pos, O.len, fun s h => (O.tg s h).1, fun s h => (O.tg s h).2⟩
def spShape : Sp := fun vs H Q _ => ∃ (b : Addr), vs = [.ref b] ∧ Bx H b ∧ ∀ (a : Addr) H' (qs : List Addr) (S : List (List Nat × Nat)), H a = none → XB b H H' → H' a = some (.lst (qs.map V.ref)) → Paired (CellQ (fun p => p = a ∨ H p ≠ none) H') qs S → qs.Nodup → ShOk S → Q (.ref a) H'
section
variable {P : Program} {w : World} {K : PySem.W.Frag} {mg : Str → Option Value} {base : Heap} {f C : Addr} {fd : FuncData} {σ : L2.St} {H : Hp} {g : TG} {tu tw tz : TS} {D : Ends} {ta tb tc te tl td tv ty : TE} {tr : TA} {tt t2 : TT} {Q : VK} {r : R2} {QT : Bool → Hp → Prop}
theorem r_if (h : tt σ H fun b H1 => if b = true then tu D σ H1 else tw D σ H1) : tIfS tt tu tw D σ H := h
theorem r_ifq (h : tt σ H fun b H1 => if b = true then tu { D with nx := tz D } σ H1 else tw { D with nx := tz D } σ H1) : tSeq (tIfS tt tu tw) tz D σ H := h
theorem r_test (h : te σ H fun x H1 => ∃ k, x = .bl k ∧ QT k H1) : tTest te σ H QT := h
theorem r_and (h : tt σ H fun c H1 => if c = true then t2 σ H1 QT else QT false H1) : tAnd tt t2 σ H QT := h
theorem r_evT {b : Bool} (h : EvT tt σ H b) (k : ∀ H', Ex H H' → QT b H') : tt σ H QT := h H (Ex.refl H) QT k
theorem r_rv {x y z : V} (h : RV r x y H z) (k : ∀ H', Ex H H' → Q z H') : r x y H Q := h H (Ex.refl H) Q k
theorem bx_b {b p : Addr} (hB : Bx H b) (h : H p = none) : p ≠ b := by
  rintro rfl
  obtain ⟨_, _, _, _, z⟩ := hB
  rw [h] at z
  cases z
theorem el_revL {a : Addr} {xs : List V} (h : Ev ta σ H (.ref a)) (ha : H a = some (.lst xs)) : EvL (tRevL K ta) σ H xs.reverse := fun H1 e Q q =>
  h H1 e _ fun H2 e2 => ⟨a, xs, rfl, sq_of (e2 _ _ (e _ _ ha)), fun p hp => q p _ (fresh_back e2 hp) (e2.trans (Ex.new hp)) upd_same⟩
/-- is a draw naught -/
theorem r_draw0 {b : Addr} {m : Nat} (hb : Ev ta σ H (.ref b)) (hm : Ev tb σ H (intV m)) (h0 : 0 < m) (hB : Bx H b) (k : ∀ (c : Bool) H', XB b H H' → QT c H') : tTest (tOp rEq (tCall spDraw [] E0 (tCons ta (tCons tb tNil))) (tC (.int 0))) σ H QT :=
  r_test (r_op (r_draw hb hm h0 hB fun i H1 _ x1 => r_ev ev_c fun H2 e2 => r_rv (rv_eq rfl) fun H3 e3 => ⟨_, rfl, k _ _ ((x1.e e2).e e3)⟩))
/-- one more than a draw -/
theorem r_draw1 {b : Addr} {m : Nat} (hb : Ev ta σ H (.ref b)) (hm : Ev tb σ H (intV m)) (h0 : 0 < m) (hB : Bx H b) (k : ∀ (i : Nat) H', i < m → XB b H H' → Q (intV (i + 1)) H') : tOp (rI0 fun i j => .int (i + j)) (tC (.int 1)) (tCall spDraw [] E0 (tCons ta (tCons tb tNil))) σ H Q :=
  r_op (r_ev ev_c fun H1 e1 => r_draw (hb.mono e1) (hm.mono e1) h0 (hB.e e1) fun i H2 hi x2 => ⟨1, (i : Nat), rfl, rfl, by
    have : V.int (1 + (i : Nat)) = intV (i + 1) := by show V.int (1 + (i : Nat)) = V.int ((i + 1 : Nat) : Int); congr 1; omega
    show Q (V.int (1 + (i : Nat))) H2
    rw [this]
    exact k i H2 hi ((xb e1).trans x2)⟩)
theorem r_app {l : Addr} {xs : List V} (ha : Ev ta σ H (.ref l)) (hl : H l = some (.lst xs)) (h : ∀ H1, Ex H H1 → te σ H1 fun v H2 => rAppend (.ref l) [v] H2 fun _ H3 => D.nx σ H3) : tDrop (tBM K "list" rAppend ta (tCons te tNil)) D σ H :=
  ha H (Ex.refl H) _ fun H1 e1 => ⟨.inl ⟨rfl, xs, sq_of (e1 _ _ hl)⟩, h H1 e1⟩
/-- what stands behind the number of turns of a comprehension -/
def LcN (σ : L2.St) (j : Nat) (te : TE) (vs : List Nat) (Q : VK) : VK := fun x H1 => ∃ n : Int, [x] = [.int n] ∧ -(2 ^ 62) ≤ n ∧ n < 2 ^ 62 ∧ ∀ D, H1 D = none → ∃ W : Nat → Nat → Hp → Prop, (∃ m, W 0 m (upd H1 D (.lst []))) ∧ ∀ i m H, W i m H →
  ((Itr 0 n.toNat).stop i H ∧ Q (.ref D) H) ∨ ((Itr 0 n.toNat).go i H ∧ ∃ Nx : Hp → Prop, (∀ H', Nx H' → ∃ m', m' < m ∧ W (i + 1) m' H') ∧ ∀ x H', (Itr 0 n.toNat).yld i H x H' → (gName j) x (wipe σ vs) H' fun σ2 H2 => wipe σ2 vs = wipe σ vs ∧ tYes σ2 H2 fun b H3 =>
    if b = true then te σ2 H3 fun y H4 => ∃ acc, H4 D = some (.lst acc) ∧ acc.length < sizeLine ∧ Nx (upd H4 D (.lst (acc ++ [y]))) else Nx H3)
theorem r_lcN {j : Nat} {vs : List Nat} (h : ta σ H (LcN σ j te vs Q)) : tLc (iRng1 (tCons ta tNil)) (gName j) tYes te vs σ H Q := h
theorem lcN {j n : Nat} {vs : List Nat} (hn : n ≤ 40000) (hw : ∀ x, wipe ((wipe σ vs).set j (some x)) vs = wipe σ vs) (Pv : Addr → Nat → Hp → Prop) (h0 : ∀ D, H D = none → Pv D 0 (upd H D (.lst [])))
    (hs : ∀ D (i : Nat) H', H D = none → i < n → Pv D i H' → te ((wipe σ vs).set j (some (intV i))) H' fun y H4 => ∃ acc, H4 D = some (.lst acc) ∧ acc.length < sizeLine ∧ Pv D (i + 1) (upd H4 D (.lst (acc ++ [y]))))
    (hd : ∀ D H', H D = none → Pv D n H' → Q (.ref D) H') : LcN σ j te vs Q (intV n) H := ⟨n, rfl, by omega, by omega, fun D hD => lc_it (walk_range (lo := 0) (n := n)) (Pv D) (h0 D hD) (fun _ _ _ _ => trivial)
    (fun i x H2 H3 hi p y => by
      obtain ⟨y1, y2⟩ := y
      subst y1
      have y2 : x = intV i := by rw [y2]; show V.int (0 + (i : Nat)) = V.int (i : Nat); rw [Int.zero_add]
      subst y2
      exact ⟨hw _, hs D i _ hD hi p⟩) fun H' p => hd D H' hD p⟩
abbrev s_law_shape : Stmt := top 31
abbrev n_law_shape : List Str := ["_law_box", "_law_many", "_law_found", "_law_k", "_law_targets", "_law_turn"]
theorem sc_law_shape : FnScope ["_law_box", "_law_many", "_law_found", "_law_k", "_law_targets", "_law_turn"] ["_law_box"] (defScope s_law_shape) := ⟨rfl, rfl, rfl, by decide +kernel, rfl, by decide +kernel, by decide +kernel⟩
theorem ok__law_shape (F : FnP K "_law_shape" "_law_shape" s_law_shape f fd) (B : Blt mg) (C__law_draw : Cal P w K mg base "_law_draw" 1 ["_law_box", "_law_many"] spDraw) : FnOk P w K mg base CX0 2 f fd ["_law_box"] spShape := by
  refine F.ok sc_law_shape (fun vs H Q E h => ?_) (fun cdv A outer s H vs Q E hr h => ⟨_, PSs.nox ((pss_cons (ps_set (i := 1) sc_law_shape.nd rfl (Or.inr rfl) (pe_op op_add pe_int (pe_cal C__law_draw (hr.mono (by decide)) (by rfl) (pa_cons (pv 0) (pa_cons pe_int pa_nil))))) (pss_cons (ps_set (i := 2) sc_law_shape.nd rfl (Or.inl rfl) (pe_lst pa_nil)) (pss_cons (ps_for PassesOwn.never rfl (pi_range1 (by rfl) B.range (pa_cons (pv 1) pa_nil)) (pg_name (i := 3) sc_law_shape.nd rfl (Or.inl rfl)) (pss_cons (ps_if (pt_cmpR op_lt (pv 3) (pe_op op_sub (pv 1) pe_int) (nomark _)) (pss_cons (ps_set (i := 4) sc_law_shape.nd rfl (Or.inl rfl) (pe_lst (pa_cons (pe_op op_add (pv 3) pe_int) pa_nil))) (pss_cons (ps_if (pt_cmpR op_eq (pe_cal C__law_draw (hr.mono (by decide)) (by rfl) (pa_cons (pv 0) (pa_cons pe_int pa_nil))) pe_int (nomark _)) (pss_one (ps_expr (pe_bm PySem.F.plainAttrs_list PySem.F.slot_list_append PySem.F.type_list_append mt_append (pv 4) (pa_cons (pe_op op_add pe_int (pe_cal C__law_draw (hr.mono (by decide)) (by rfl) (pa_cons (pv 0) (pa_cons (pe_op op_sub (pv 1) pe_int) pa_nil)))) pa_nil)))) pss_nil) (pss_one (ps_if (PW.pt (pw_and (pt_cmpR op_eq (pe_callB call_len_seq (by rfl) B.len PySem.boot_len (pa_cons (pv 4) pa_nil)) pe_int (nomark _)) (pw_and1 (pt_cmpR op_eq (pe_cal C__law_draw (hr.mono (by decide)) (by rfl) (pa_cons (pv 0) (pa_cons pe_int pa_nil))) pe_int (nomark _))))) (pss_one (ps_set (i := 4) sc_law_shape.nd rfl (Or.inl rfl) (pe_revL (pv 4)))) pss_nil)))) (pss_cons (ps_set (i := 4) sc_law_shape.nd rfl (Or.inl rfl) (pe_lst pa_nil)) (pss_one (ps_if (PW.pt (pw_and (pt_cmpR op_gt (pv 1) pe_int (nomark _)) (pw_and1 (pt_cmpR op_eq (pe_cal C__law_draw (hr.mono (by decide)) (by rfl) (pa_cons (pv 0) (pa_cons pe_int pa_nil))) pe_int (nomark _))))) (pss_one (ps_setLc (i := 4) (own := [("_law_turn", 5)]) (g := (gName 5)) rfl sc_law_shape.nd rfl rfl (sw_true rfl rfl rfl (by decide +kernel)) (pi_range1 (by rfl) B.range (pa_cons (pe_op op_add pe_int (pe_cal C__law_draw (hr.mono (by decide)) (by rfl) (pa_cons (pv 0) (pa_cons pe_int pa_nil)))) pa_nil)) (blkOk_by (own := [("_law_turn", 5)]) (N := ["_law_box", "_law_many", "_law_found", "_law_k", "_law_targets", "_law_turn"]) (sc := (defScope s_law_shape)) (by decide +kernel)) (fun _ _ _ _ _ => (pg_name (i := 5) sc_law_shape.nd rfl (Or.inl rfl))) (fun _ _ _ _ _ => pts_nil) (fun _ _ _ _ _ => (pe_op op_add pe_int (pe_cal C__law_draw (hr.mono (by decide)) (by rfl) (pa_cons (pv 0) (pa_cons (pe_op op_sub (pv 1) pe_int) pa_nil))))))) pss_nil)))) (pss_one (ps_expr (pe_bm PySem.F.plainAttrs_list PySem.F.slot_list_append PySem.F.type_list_append mt_append (pv 2) (pa_cons (pe_lst (pa_cons (pv 4) (pa_cons (pe_cal C__law_draw (hr.mono (by decide)) (by rfl) (pa_cons (pv 0) (pa_cons pe_int pa_nil))) pa_nil))) pa_nil)))))) (pss_one (ps_ret (pv 2))))))), ?_⟩)
  · obtain ⟨b, rfl, _⟩ := h
    rfl
  · obtain ⟨b, rfl, hB, k⟩ := h
    refine q_raw (r_draw1 (m := 5) (ev_var rfl) ev_c (by decide) hB fun m0 H1 hm0 x1 => ?_)
    obtain ⟨m, hm⟩ : ∃ m, m = m0 + 1 := ⟨_, rfl⟩
    rw [← hm]
    refine q_asgL (xs := []) (el_lst ea_nil (by decide)) fun l H2 hl1 e2 h2 => ?_
    have hl : H l = none := by
      cases z : H l with
      | none => rfl
      | some o =>
        have hlb : l ≠ b := bx_b (hB.x x1) hl1
        have := x1.1 l o hlb z
        rw [hl1] at this
        cases this
    have hlb : l ≠ b := bx_b hB hl
    have hbn : H b ≠ none := fun z => by obtain ⟨_, _, _, _, h⟩ := hB; rw [z] at h; cases h
    have x2 : XB b H H2 := x1.e e2
    obtain ⟨FF, hFF⟩ : ∃ FF : Addr → Prop, FF = fun p => p = l ∨ H p ≠ none := ⟨_, rfl⟩
    have Fl : FF l := by rw [hFF]; exact .inl rfl
    have Fb : FF b := by rw [hFF]; exact .inr hbn
    have nF : ∀ {H' : Hp} {p : Addr}, XB b H H' → (∃ o, H' l = some o) → H' p = none → ¬ FF p := fun {H' p} x ⟨o, hl'⟩ hp => by
      rw [hFF]
      rintro (z | z)
      · rw [← z, hp] at hl'
        cases hl'
      · have hpb : p ≠ b := bx_b (hB.x x) hp
        cases q : H p with
        | none => exact z q
        | some u =>
          have := x.1 p u hpb q
          rw [hp] at this
          cases this
    refine q_forR1 (ea1 (ev_var rfl)) (by show 0 ≤ ((m : Nat) : Int) ∧ ((m : Nat) : Int) ≤ 100000; omega) (fun i σ' H' => (∃ o3 o4 o5, σ' = [some (.ref b), some (intV m), some (.ref l), o3, o4, o5]) ∧ XB b H H' ∧ ∃ (qs : List Addr) (S : List (List Nat × Nat)), H' l = some (.lst (qs.map V.ref)) ∧ Paired (CellQ FF H') qs S ∧ qs.Nodup ∧ S.length = i ∧
        (∀ s ∈ S, TgOk m s.1) ∧ ∀ k s, S[k]? = some s → k + 1 < m → k + 1 ∈ s.1)
      (fun H3 e3 => ⟨⟨none, none, none, rfl⟩, x2.e e3, [], [], e3 _ _ h2, .nil, List.nodup_nil, rfl, (fun _ h => nomatch h), fun k s h => (by simp at h)⟩) ?_ ?_
    · rintro i σ' H' hi ⟨⟨o3, o4, o5, rfl⟩, x3, qs, S, h3, hp, hnd, hSl, hT, hN⟩
      have hi : i < m := by omega
      have hql := pd_len hp
      -- the append at the turn's end
      have fin : ∀ (DD : Ends), (∀ σ' H', ((∃ o3 o4 o5, σ' = [some (.ref b), some (intV m), some (.ref l), o3, o4, o5]) ∧ XB b H H' ∧ ∃ (qs : List Addr) (S : List (List Nat × Nat)), H' l = some (.lst (qs.map V.ref)) ∧ Paired (CellQ FF H') qs S ∧ qs.Nodup ∧ S.length = i + 1 ∧ (∀ s ∈ S, TgOk m s.1) ∧ ∀ k s, S[k]? = some s → k + 1 < m → k + 1 ∈ s.1) → DD.nx σ' H') →
          ∀ (o5 : Option V) (H4 : Hp) (t : Addr) (ts : List Nat), XB b H' H4 → H' t = none → H4 t = some (.lst (ts.map intV)) → TgOk m ts → (i + 1 < m → i + 1 ∈ ts) →
          tDrop (tBM K "list" rAppend (tVar 2) (tCons (tLst (tCons (tVar 4) (tCons (tCall spDraw [] E0 (tCons (tVar 0) (tCons (tC (.int 3)) tNil))) tNil))) tNil))
            DD [some (.ref b), some (intV m), some (.ref l), some (intV i), some (.ref t), o5] H4 := by
        intro DD hDD o5 H4 t ts x4 ht0 ht hts hnx
        have x34 := x3.trans x4
        have hl4 := x4.lst hlb h3
        have ntb : t ≠ b := bx_b (hB.x x3) ht0
        refine r_app (ev_var rfl) hl4 fun H5 e5 => r_lst (r_cons (r_ev (ev_var rfl) fun H6 e6 => r_cons (r_draw (m := 3) (ev_var rfl) ev_c (by decide) (hB.x (x34.e (e5.trans e6))) fun c H7 hc x7 => r_nil ⟨(by show 2 ≤ sizeLine; decide), fun p hp7 => ?_⟩)))
        have y7 : XB b H' H7 := (x4.e (e5.trans e6)).trans x7
        have y8 : XB b H' (upd H7 p (.lst [.ref t, intV c])) := y7.e (Ex.new hp7)
        have hl7 : H7 l = some (.lst (qs.map V.ref)) := y7.lst hlb h3
        have nlp : l ≠ p := ne_of_none hl7 hp7
        have hl8 : upd H7 p (.lst [.ref t, intV c]) l = some (.lst (qs.map V.ref)) := y8.lst hlb h3
        refine ⟨l, _, _, rfl, rfl, hl8, sz_lt (by rw [List.length_map]; omega), ?_⟩
        refine hDD _ _ ⟨⟨_, _, _, rfl⟩, (x3.trans y8).mut hB hl, qs ++ [p], S ++ [(ts, c)], by rw [upd_same, List.map_append]; rfl, ?_, ?_, by rw [List.length_append, hSl]; rfl, ?_, ?_⟩
        · refine pd_snoc (Paired.mapP hp fun v s q => q.keep ((y8.kf Fb).upd Fl)) ⟨nF (x3.trans y7) ⟨_, hl7⟩ hp7, t, nF x3 ⟨_, h3⟩ ht0, ?_, ?_⟩
          · rw [upd_ne nlp.symm]
            exact upd_same
          · have ntl : t ≠ l := fun z => by rw [z, h3] at ht0; cases ht0
            rw [upd_ne ntl]
            exact (((x7.trans (xb (Ex.new hp7)))).lst ntb (e6 _ _ (e5 _ _ ht)))
        · refine List.nodup_append.mpr ⟨hnd, by simp, fun x hx y hy e => ?_⟩
          rw [List.mem_singleton.mp hy] at e
          subst e
          obtain ⟨j, hj, rfl⟩ := List.getElem_of_mem hx
          obtain ⟨s, _, hF, _, _, hq, _⟩ := pd_get hp (List.getElem?_eq_getElem hj)
          have := (y7.kf Fb) _ _ hF hq
          rw [hp7] at this
          cases this
        · intro s hs
          rcases List.mem_append.mp hs with z | z
          · exact hT s z
          · rw [List.mem_singleton.mp z]
            exact hts
        · intro k2 s hs hk
          by_cases q : k2 < S.length
          · rw [List.getElem?_append_left q] at hs
            exact hN k2 s hs hk
          · have : k2 = S.length := by
              have := (List.getElem?_eq_some_iff.mp hs).1
              rw [List.length_append, List.length_singleton] at this
              omega
            subst this
            rw [List.getElem?_append_right (Nat.le_refl _), Nat.sub_self] at hs
            cases hs
            rw [hSl] at hk ⊢
            exact hnx hk
      refine r_ifq (r_evT (et_T (ev_op (ev_var rfl) (ev_op (ev_var rfl) ev_c rv_I0) rv_I0)) fun H4 e4 => ?_)
      have hm1 : ∀ {m : Nat}, 0 < m → V.int ((m : Int) - 1) = intV (m - 1) := fun {m} h => by show V.int _ = V.int ((m - 1 : Nat) : Int); congr 1; omega
      have ev1 : ∀ {σ : L2.St} {H : Hp}, 0 < m → σ[1]? = some (some (intV m)) → Ev (tOp (rI0 fun i j => .int (i - j)) (tVar 1) (tC (.int 1))) σ H (intV (m - 1)) := fun {σ H} h h1 => by
        rw [← hm1 h]
        exact ev_op (ev_var h1) ev_c rv_I0
      have x4 : XB b H' H4 := xb e4
      by_cases hlast : i + 1 < m
      · rw [decide_eq_true (by omega : (i : Int) < (m : Int) - 1), if_pos rfl]
        refine q_asgL (xs := [intV (i + 1)]) (el_lst (ea1 (ev_op (ev_var rfl) ev_c rv_I0)) (by show 1 ≤ 100000; decide)) fun t H5 ht e5 h5 => ?_
        have ht' : H' t = none := fresh_back e4 ht
        have ntb : t ≠ b := bx_b (hB.x x3) ht'
        have fin2 : ∀ (DD : Ends), (∀ (H7 : Hp) (t : Addr) (ts : List Nat), XB b H' H7 → H' t = none → H7 t = some (.lst (ts.map intV)) → TgOk m ts → i + 1 ∈ ts → DD.nx [some (.ref b), some (intV m), some (.ref l), some (intV i), some (.ref t), o5] H7) →
            ∀ (H6 : Hp) (ts : List Nat), XB b H' H6 → H6 t = some (.lst (ts.map intV)) → TgOk m ts → i + 1 ∈ ts →
            tIfS (tAnd (tTest (tOp rEq (tCB (rLenS K) (tCons (tVar 4) tNil)) (tC (.int 2)))) (tTest (tOp rEq (tCall spDraw [] E0 (tCons (tVar 0) (tCons (tC (.int 3)) tNil))) (tC (.int 0))))) (tAsg (tRevL K (tVar 4)) (gName 4)) tNext DD [some (.ref b), some (intV m), some (.ref l), some (intV i), some (.ref t), o5] H6 := by
          intro DD hDD H6 ts x6 h6 hts hin
          refine r_if (r_and (r_evT (et_T (ev_op (ev_lenL (ev_var rfl) h6) ev_c (rv_eq rfl))) fun H7 e7 => ?_))
          have x7 := x6.e e7
          generalize decide (V.int (((ts.map intV).length : Nat) : Int) = V.int 2) = d
          cases d with
          | false => exact hDD H7 t ts x7 ht' (e7 _ _ h6) hts hin
          | true =>
            refine r_draw0 (m := 3) (ev_var rfl) ev_c (by decide) (hB.x (x3.trans x7)) fun c H8 x8 => ?_
            have h8 : H8 t = some (.lst (ts.map intV)) := x8.lst ntb (e7 _ _ h6)
            cases c with
            | false => exact hDD H8 t ts (x7.trans x8) ht' h8 hts hin
            | true =>
              refine s_asgL (D := DD) (el_revL (ev_var rfl) h8) fun p H9 hp9 e9 h9 => ?_
              have x78 := x7.trans x8
              have hp' : H' p = none := by
                cases z : H' p with
                | none => rfl
                | some o =>
                  have := x78.1 p o (bx_b (hB.x (x3.trans x78)) hp9) z
                  rw [hp9] at this
                  cases this
              refine hDD H9 p ts.reverse (x78.e e9) hp' (by rw [h9, List.map_reverse]) ⟨by rw [List.length_reverse]; exact hts.1, fun x hx => hts.2 x (List.mem_reverse.mp hx)⟩ (List.mem_reverse.mpr hin)
        have ok1 : TgOk m [i + 1] := ⟨by show 1 ≤ 2; decide, fun x hx => by rw [List.mem_singleton.mp hx]; exact hlast⟩
        have x5 := x4.e e5
        refine r_ifq (r_draw0 (m := 2) (ev_var rfl) ev_c (by decide) (hB.x (x3.trans x5)) fun c H6 x6 => ?_)
        have h6 := x6.lst ntb h5
        have x56 := x5.trans x6
        cases c with
        | false => exact fin2 _ (fun H7 t ts a1 a2 a3 a4 a5 => fin _ (fun _ _ h => h) _ H7 t ts a1 a2 a3 a4 fun _ => a5) H6 [i + 1] x56 h6 ok1 (List.mem_singleton.mpr rfl)
        | true =>
          rw [if_pos rfl]
          refine r_app (ev_var rfl) h6 fun H7 e7 => r_draw1 (m := m - 1) (ev_var rfl) (ev1 (by omega) rfl) (by omega) (hB.x (x3.trans (x56.e e7))) fun j H8 hj x8 => ⟨t, _, _, rfl, rfl, x8.lst ntb (e7 _ _ h6), sz_lt (by show 1 < 100000; decide), ?_⟩
          have x8' : XB b H' H8 := (x56.e e7).trans x8
          refine fin2 _ (fun H7 t ts a1 a2 a3 a4 a5 => fin _ (fun _ _ h => h) _ H7 t ts a1 a2 a3 a4 fun _ => a5) _ [i + 1, j + 1] (x8'.mut (hB.x x3) ht') upd_same ⟨by show 2 ≤ 2; decide, fun x hx => ?_⟩ (List.mem_cons_self ..)
          rcases List.mem_cons.mp hx with z | z
          · omega
          · rw [List.mem_singleton.mp z]
            omega
      · rw [decide_eq_false (by omega : ¬ (i : Int) < (m : Int) - 1), if_neg Bool.false_ne_true]
        refine q_asgL (xs := []) (el_lst ea_nil (by decide)) fun t H5 ht e5 h5 => ?_
        have ht' : H' t = none := fresh_back e4 ht
        have ntb : t ≠ b := bx_b (hB.x x3) ht'
        have x5 := x4.e e5
        have ok0 : TgOk m [] := ⟨Nat.zero_le _, fun _ h => nomatch h⟩
        refine r_if (r_and (r_evT (et_T (ev_op (ev_var rfl) ev_c rv_I0)) fun H6 e6 => ?_))
        have x6 := x5.e e6
        by_cases h1m : 1 < m
        · rw [decide_eq_true (by omega : (1 : Int) < (m : Int)), if_pos rfl]
          refine r_draw0 (m := 3) (ev_var rfl) ev_c (by decide) (hB.x (x3.trans x6)) fun c H7 x7 => ?_
          have x67 := x6.trans x7
          cases c with
          | false => exact fin _ (fun _ _ h => h) _ H7 t [] x67 ht' (x7.lst ntb (e6 _ _ h5)) ok0 fun z => absurd z hlast
          | true =>
            rw [if_pos rfl]
            refine s_raw (r_lcN (r_draw1 (m := 2) (ev_var rfl) ev_c (by decide) (hB.x (x3.trans x67)) fun n H8 hn x8 => ?_))
            have x8' := x67.trans x8
            refine lcN (by omega) (fun _ => rfl) (fun D2 i2 H9 => XB b H8 H9 ∧ ∃ ts : List Nat, H9 D2 = some (.lst (ts.map intV)) ∧ ts.length = i2 ∧ ∀ x ∈ ts, x < m) (fun D2 hD2 => ⟨xb (Ex.new hD2), [], upd_same, rfl, fun _ h => nomatch h⟩) (fun D2 i2 H9 hD2 hi2 p => ?_) fun D2 H9 hD2 p => ?_
            · obtain ⟨x9, ts, h9, h9l, h9t⟩ := p
              have hB8 := hB.x (x3.trans x8')
              refine r_draw1 (m := m - 1) (ev_var rfl) (ev1 (by omega) rfl) (by omega) (hB8.x x9) fun j HA hj xA => ?_
              refine ⟨_, xA.lst (bx_b hB8 hD2) h9, sz_lt (by rw [List.length_map]; omega), (x9.trans xA).mut hB8 hD2, ts ++ [j + 1], by rw [upd_same, List.map_append]; rfl, by rw [List.length_append, h9l]; rfl, fun x hx => ?_⟩
              rcases List.mem_append.mp hx with z | z
              · exact h9t x z
              · rw [List.mem_singleton.mp z]
                omega
            · obtain ⟨x9, ts, h9, h9l, h9t⟩ := p
              have hD' : H' D2 = none := by
                cases z : H' D2 with
                | none => rfl
                | some o =>
                  have := x8'.1 D2 o (bx_b (hB.x (x3.trans x8')) hD2) z
                  rw [hD2] at this
                  cases this
              exact fin _ (fun _ _ h => h) _ H9 D2 ts (x8'.trans x9) hD' h9 ⟨by omega, h9t⟩ fun z => absurd z hlast
        · rw [decide_eq_false (by omega : ¬ (1 : Int) < (m : Int)), if_neg Bool.false_ne_true, if_neg Bool.false_ne_true]
          exact fin _ (fun _ _ h => h) _ H6 t [] x6 ht' (e6 _ _ h5) ok0 fun z => absurd z hlast
    · rintro σ' H' ⟨⟨o3, o4, o5, rfl⟩, x3, qs, S, h3, hp, hnd, hSl, hT, hN⟩
      have hSm : S.length = m := by rw [hSl]; exact Int.toNat_natCast m
      rw [← hSm] at hT hN
      refine r_ret (r_ev (ev_var rfl) fun H4 e4 => k l H4 qs S hl (x3.e e4) (e4 _ _ h3) (Paired.mapP hp fun v s q => ?_) hnd ⟨by omega, by omega, hT, hN⟩)
      rw [← hFF]
      exact q.keep (kf e4)
end
end Sh
end

section
set_option Elab.async false
set_option linter.all false
set_option maxRecDepth 100000
set_option maxHeartbeats 4000000
/-! The plain law, part 4: what _law_program builds is a small program in single assignment. -/
namespace Sh
open PySem PySem.Spec PyProof.Rows L2 Evl Classical
open SF (RA Reach Dom sucOf domsOf)
def bname (k : Nat) : Str := ⟨#[98, 97 + k]⟩
def vname (k : Nat) : Str := ⟨#[118, 97 + k]⟩
theorem bname_inj {j k : Nat} (h : bname j = bname k) : j = k := by
  have h := Str.mk.inj h
  have h := congrArg (fun a : Array Nat => a.toList) h
  simp at h
  exact h
theorem vname_inj {j k : Nat} (h : vname j = vname k) : j = k := by
  have h := Str.mk.inj h
  have h := congrArg (fun a : Array Nat => a.toList) h
  simp at h
  exact h
def vnames : List Str := (List.range 16).map vname
theorem nodup_map_inj {α β : Type} {f : α → β} (hf : ∀ a b, f a = f b → a = b) : ∀ {l : List α}, l.Nodup → (l.map f).Nodup
  | [], _ => List.nodup_nil
  | a :: l, h => by
    rw [List.nodup_cons] at h
    rw [List.map_cons, List.nodup_cons]
    refine ⟨fun z => ?_, nodup_map_inj hf h.2⟩
    obtain ⟨b, hb, e⟩ := List.mem_map.mp z
    rw [hf _ _ e] at hb
    exact h.1 hb
theorem vnames_nd : vnames.Nodup := nodup_map_inj (fun _ _ => vname_inj) List.nodup_range
/-- each row stands in its scope -/
def RowsOk (sc ps : List Str) (rs : List Row) : Prop := ∀ (j : Nat) (r : Row), rs[j]? = some r → ∃ x, InsOk x (sc ++ ps ++ (rs.take j).filterMap dby) r
def FinOk (ts : List Nat) (sc : List Str) (r : Row) : Prop := targs r = ts.map bname ∧ (∀ x ∈ uses r, x ∈ sc) ∧ dby r = none ∧ (uses r).length ≤ 50
structure Built (S : List (List Nat × Nat)) (G : List PB) : Prop where
  sh : ShOk S
  len : G.length = S.length
  nd : ∃ u, defsP G = vnames.take u
  nm : ∀ k B, G[k]? = some B → B.name = bname k
  par : ∀ B ∈ G, B.params.length ≤ 16
  ins : ∀ B ∈ G, B.ins.length ≤ 10
  rows : ∀ k B, G[k]? = some B → RowsOk (scopeOf ((G.map pbdefs).take k) (domsOf (sucS S) S.length k)) B.params B.ins
  fin : ∀ k B s, G[k]? = some B → S[k]? = some s → FinOk s.1 (scopeOf (G.map pbdefs) (domsOf (sucS S) S.length k)) B.fin
theorem mem_scopeOf {Ls : List (List Str)} {ks : List Nat} {x : Str} : x ∈ scopeOf Ls ks ↔ ∃ k ∈ ks, ∃ L, Ls[k]? = some L ∧ x ∈ L := by
  unfold scopeOf
  rw [List.mem_flatten]
  constructor
  · rintro ⟨l, hl, hx⟩
    obtain ⟨k, hk, rfl⟩ := List.mem_map.mp hl
    cases h : Ls[k]? with
    | none => rw [h] at hx; cases hx
    | some L => rw [h] at hx; exact ⟨k, hk, L, h, hx⟩
  · rintro ⟨k, hk, L, h, hx⟩
    exact ⟨_, List.mem_map.mpr ⟨k, hk, rfl⟩, by rw [h]; exact hx⟩
theorem InsOk.uses {x : Str} {sc : List Str} {r : Row} (h : InsOk x sc r) : ∀ y ∈ uses r, y ∈ sc := by
  cases r <;> intro y hy
  · cases hy
  · cases hy
  · rw [List.mem_singleton.mp hy]; exact h
  · obtain ⟨_, h1, h2⟩ := h
    rcases List.mem_cons.mp hy with z | z
    · rw [z]; exact h1
    · rw [List.mem_singleton.mp z]; exact h2
  all_goals exact h.elim
theorem InsOk.us {x : Str} {sc : List Str} {r : Row} (h : InsOk x sc r) : (Sh.uses r).length ≤ 2 := by
  cases r
  · exact Nat.zero_le _
  · exact Nat.zero_le _
  · show 1 ≤ 2; decide
  · show 2 ≤ 2; decide
  all_goals exact h.elim
section
variable {S : List (List Nat × Nat)} {G : List PB}
theorem Built.at (b : Built S G) {k : Nat} (hk : k < S.length) : ∃ B, G[k]? = some B := ⟨_, List.getElem?_eq_getElem (by rw [b.len]; exact hk)⟩
theorem Built.sat (b : Built S G) {k : Nat} (hk : k < G.length) : ∃ s, S[k]? = some s := ⟨_, List.getElem?_eq_getElem (by rw [← b.len]; exact hk)⟩
theorem Built.num (b : Built S G) {t : Nat} (ht : t < S.length) : numOf G (bname t) = t := by
  have ht' : t < G.length := by rw [b.len]; exact ht
  unfold numOf
  rw [List.findIdx_eq ht']
  refine ⟨?_, fun j hj => ?_⟩
  · rw [b.nm t _ (List.getElem?_eq_getElem ht')]
    exact beq_self_eq_true _
  · have hj' : j < G.length := by omega
    rw [b.nm j _ (List.getElem?_eq_getElem hj')]
    exact beq_eq_false_iff_ne.mpr fun z => by have := bname_inj z; omega
theorem Built.suc (b : Built S G) (u v : Nat) : v ∈ suc G u ↔ v ∈ sucS S u := by
  rw [suc_mem]
  unfold sucS
  constructor
  · rintro ⟨B, hB, l, hl, rfl⟩
    have hu : u < S.length := by rw [← b.len]; exact (List.getElem?_eq_some_iff.mp hB).1
    have hs : S[u]? = some S[u] := List.getElem?_eq_getElem hu
    rw [(b.fin u B _ hB hs).1] at hl
    obtain ⟨t, ht, rfl⟩ := List.mem_map.mp hl
    rw [hs, b.num (((b.sh.tg _ (List.mem_of_getElem? hs)).2) t ht)]
    exact ht
  · intro h
    cases hs : S[u]? with
    | none => rw [hs] at h; cases h
    | some s =>
      rw [hs] at h
      obtain ⟨B, hB⟩ := b.at (List.getElem?_eq_some_iff.mp hs).1
      exact ⟨B, hB, bname v, by rw [(b.fin u B s hB hs).1]; exact List.mem_map.mpr ⟨v, h, rfl⟩, (b.num ((b.sh.tg s (List.mem_of_getElem? hs)).2 v h)).symm⟩
theorem Built.dom (b : Built S G) {d k : Nat} : Dom (sucS S) d k ↔ Dom (Sh.suc G) d k := by
  unfold Dom
  rw [SF.RA.same fun u v => (b.suc u v).symm]
theorem Built.small (b : Built S G) : Small G where
  len := by have := b.sh.len; rw [b.len]; omega
  ins := fun B hB => Nat.le_trans (b.ins B hB) (by decide)
  par := fun B hB => Nat.le_trans (b.par B hB) (by decide)
  us := fun B hB r hr => by
    obtain ⟨k, hk, rfl⟩ := List.getElem_of_mem hB
    rcases List.mem_cons.mp hr with z | z
    · rw [z]
      obtain ⟨sk, hs⟩ := b.sat hk
      exact (b.fin k _ _ (List.getElem?_eq_getElem hk) hs).2.2.2
    · obtain ⟨j, hj, rfl⟩ := List.getElem_of_mem z
      obtain ⟨x, hx⟩ := b.rows k _ (List.getElem?_eq_getElem hk) j _ (List.getElem?_eq_getElem hj)
      exact Nat.le_trans hx.us (by decide)
  names := by
    have e : G.map (·.name) = (List.range G.length).map bname := by
      refine List.ext_getElem? fun j => ?_
      rw [List.getElem?_map, List.getElem?_map]
      by_cases h : j < G.length
      · rw [List.getElem?_eq_getElem h, List.getElem?_range h]
        show some G[j].name = some _
        rw [b.nm j _ (List.getElem?_eq_getElem h)]
      · rw [List.getElem?_eq_none (by omega), List.getElem?_eq_none (by rw [List.length_range]; omega)]
        rfl
    rw [e]
    exact nodup_map_inj (fun _ _ => bname_inj) List.nodup_range
  tg := fun B hB l hl => by
    obtain ⟨k, hk, rfl⟩ := List.getElem_of_mem hB
    obtain ⟨sk, hs⟩ := b.sat hk
    rw [(b.fin k _ _ (List.getElem?_eq_getElem hk) hs).1] at hl
    obtain ⟨t, ht, rfl⟩ := List.mem_map.mp hl
    obtain ⟨C, hC⟩ := b.at ((b.sh.tg _ (List.mem_of_getElem? hs)).2 t ht)
    exact List.mem_map.mpr ⟨C, List.mem_of_getElem? hC, b.nm t C hC⟩
  fd := fun B hB => by
    obtain ⟨k, hk, rfl⟩ := List.getElem_of_mem hB
    obtain ⟨sk, hs⟩ := b.sat hk
    exact (b.fin k _ _ (List.getElem?_eq_getElem hk) hs).2.2.1
theorem toPg_at {k : Nat} {B : PB} (h : G[k]? = some B) : (toPg G)[k]? = some (toBk G B) := by
  unfold toPg
  rw [List.getElem?_map, h]
  rfl
theorem toPg_get {k : Nat} {B : SF.Bk Str} (h : (toPg G)[k]? = some B) : ∃ B', G[k]? = some B' ∧ B = toBk G B' := by
  unfold toPg at h
  rw [List.getElem?_map] at h
  cases q : G[k]? with
  | none => rw [q] at h; cases h
  | some B' => rw [q] at h; cases h; exact ⟨B', rfl, rfl⟩
/-- a name among a block's -/
theorem defpt_at {k : Nat} {B : PB} {x : Str} (h : G[k]? = some B) (hx : x ∈ pbdefs B) : ∃ j, SF.DefPt (toPg G) x k j ∧ j ≤ B.ins.length := by
  rcases List.mem_append.mp hx with z | z
  · exact ⟨0, ⟨_, toPg_at h, .inl ⟨rfl, z⟩⟩, Nat.zero_le _⟩
  · obtain ⟨r, hr, e⟩ := List.mem_filterMap.mp z
    obtain ⟨i, hi, rfl⟩ := List.getElem_of_mem hr
    refine ⟨i + 1, ⟨_, toPg_at h, .inr ⟨i, Sh.uses B.ins[i], rfl, ?_⟩⟩, hi⟩
    show (B.ins.map fun r => (dby r, Sh.uses r))[i]? = _
    rw [List.getElem?_map, List.getElem?_eq_getElem hi]
    show some (dby B.ins[i], _) = _
    rw [e]
theorem Built.wf (b : Built S G) : SF.WF (toPg G) where
  pos := by
    have := b.sh.pos
    unfold toPg
    rw [List.length_map, b.len]
    exact this
  nd := by
    rw [← defsP_eq]
    obtain ⟨u, h⟩ := b.nd
    rw [h]
    exact List.Nodup.sublist (List.take_sublist ..) vnames_nd
  suc := fun k B hB c hc => by
    obtain ⟨B', hB', rfl⟩ := toPg_get hB
    have h1 : c ∈ Sh.suc G k := by show c ∈ sucOf (toPg G) k; rw [SF.suc_of hB]; exact hc
    have h2 := sucS_lt b.sh.ok ((b.suc k c).mp h1)
    unfold toPg
    rw [List.length_map, b.len]
    exact h2
  reach := fun k hk => by
    have hk : k < S.length := by
      unfold toPg at hk
      rw [List.length_map, b.len] at hk
      exact hk
    have : ∀ k, k < S.length → Reach (sucS S) k := by
      intro k
      induction k with
      | zero => exact fun _ => .zero id
      | succ k ih =>
        intro hk
        have hs : S[k]? = some S[k] := List.getElem?_eq_getElem (by omega)
        refine .step (ih (by omega)) ?_ id
        unfold sucS
        rw [hs]
        exact b.sh.nxt k _ hs hk
    exact (SF.RA.same fun u v => (b.suc u v).symm).mp (this k hk)
  useI := fun k B j d us hB hj x hx => by
    obtain ⟨B', hB', rfl⟩ := toPg_get hB
    have hj : (B'.ins.map fun r => (dby r, Sh.uses r))[j]? = some (d, us) := hj
    rw [List.getElem?_map] at hj
    cases hr : B'.ins[j]? with
    | none => rw [hr] at hj; cases hj
    | some r =>
      rw [hr] at hj
      cases hj
      obtain ⟨y, hy⟩ := b.rows k B' hB' j r hr
      have hx := hy.uses x hx
      have hjl := (List.getElem?_eq_some_iff.mp hr).1
      rcases List.mem_append.mp hx with z | z
      · rcases List.mem_append.mp z with z | z
        · obtain ⟨e, he, L, hL, hxL⟩ := mem_scopeOf.mp z
          obtain ⟨he1, he2⟩ := SF.mem_doms.mp he
          have hek : e < k := by
            have := (List.getElem?_eq_some_iff.mp hL).1
            rw [List.length_take] at this
            omega
          rw [List.getElem?_take, if_pos hek, List.getElem?_map] at hL
          cases hC : G[e]? with
          | none => rw [hC] at hL; cases hL
          | some C =>
            rw [hC] at hL
            cases hL
            obtain ⟨j2, h1, _⟩ := defpt_at hC hxL
            exact ⟨e, j2, h1, .inr ⟨by omega, b.dom.mp he2⟩⟩
        · exact ⟨k, 0, ⟨_, toPg_at hB', .inl ⟨rfl, z⟩⟩, .inl ⟨rfl, Nat.zero_le _⟩⟩
      · obtain ⟨r2, hr2, e⟩ := List.mem_filterMap.mp z
        obtain ⟨i, hi, e2⟩ := List.getElem_of_mem hr2
        have hi' : i < j := by rw [List.length_take] at hi; omega
        rw [List.getElem_take] at e2
        refine ⟨k, i + 1, ⟨_, toPg_at hB', .inr ⟨i, Sh.uses r2, rfl, ?_⟩⟩, .inl ⟨rfl, hi'⟩⟩
        show (B'.ins.map fun r => (dby r, Sh.uses r))[i]? = _
        rw [List.getElem?_map, List.getElem?_eq_getElem (by omega), e2]
        show some (dby r2, _) = _
        rw [e]
  useF := fun k B hB x hx => by
    obtain ⟨B', hB', rfl⟩ := toPg_get hB
    have hk : k < S.length := by rw [← b.len]; exact (List.getElem?_eq_some_iff.mp hB').1
    have hx := (b.fin k B' _ hB' (List.getElem?_eq_getElem hk)).2.1 x hx
    obtain ⟨e, he, L, hL, hxL⟩ := mem_scopeOf.mp hx
    obtain ⟨he1, he2⟩ := SF.mem_doms.mp he
    rw [List.getElem?_map] at hL
    cases hC : G[e]? with
    | none => rw [hC] at hL; cases hL
    | some C =>
      rw [hC] at hL
      cases hL
      obtain ⟨j2, h1, h2⟩ := defpt_at hC hxL
      have hlen : (toBk G B').ins.length = B'.ins.length := List.length_map ..
      by_cases q : e = k
      · subst q
        rw [hC] at hB'
        cases hB'
        exact ⟨e, j2, h1, .inl ⟨rfl, by rw [hlen]; exact h2⟩⟩
      · exact ⟨e, j2, h1, .inr ⟨q, b.dom.mp he2⟩⟩
end
end Sh
end

section
set_option Elab.async false
set_option linter.all false
set_option maxRecDepth 100000
set_option maxHeartbeats 4000000
/-! Helpers for _law_program. -/
namespace Sh
open PySem PySem.Spec PyProof.Rows L2 Evl Classical
open SF (RA Reach Dom sucOf domsOf)
/-- what a stretch of the builder leaves: seen from the first heap H, and from H1 all outside F -/
structure Fr (b : Addr) (H : Hp) (F : Addr → Prop) (H1 H2 : Hp) : Prop where
  x : XB b H H2
  k : KF F H1 H2
  t : TX H1 H2
theorem Fr.e {b : Addr} {H H1 H2 H3 : Hp} {F : Addr → Prop} (f : Fr b H F H1 H2) (e : Ex H2 H3) : Fr b H F H1 H3 := ⟨f.x.e e, f.k.trans (kf e), f.t.trans (tx e)⟩
theorem Fr.xb {b : Addr} {H H1 H2 H3 : Hp} {F : Addr → Prop} (f : Fr b H F H1 H2) (hB : Bx H b) (hF : F b) (x : XB b H2 H3) : Fr b H F H1 H3 := ⟨f.x.trans x, f.k.trans (x.kf hF), f.t.trans (x.tx (hB.x f.x))⟩
theorem Fr.upd {b p : Addr} {H H1 H2 : Hp} {F : Addr → Prop} {xs ys : List V} (f : Fr b H F H1 H2) (hB : Bx H b) (n : H p = none) (h : F p ∨ H1 p = none) (hl : H2 p = some (.lst xs)) : Fr b H F H1 (upd H2 p (.lst ys)) :=
  ⟨f.x.mut hB n, by
    rcases h with h | h
    · exact f.k.upd h
    · intro a o na z
      rw [upd_ne (ne_of_none z h)]
      exact f.k a o na z, f.t.trans (tx_of hl fun xs z => by cases z)⟩
theorem Fr.refl {b : Addr} {H H1 : Hp} {F : Addr → Prop} (x : XB b H H1) : Fr b H F H1 H1 := ⟨x, KF.refl _ _, TX.refl _⟩
theorem Fr.wide {b : Addr} {H H1 H2 : Hp} {F G : Addr → Prop} (f : Fr b H F H1 H2) (h : ∀ p, F p → G p) : Fr b H G H1 H2 := ⟨f.x, fun a o n z => f.k a o (fun q => n (h a q)) z, f.t⟩
theorem Fr.trans {b : Addr} {H H1 H2 H3 : Hp} {F : Addr → Prop} (f : Fr b H F H1 H2) (g : Fr b H F H2 H3) : Fr b H F H1 H3 := ⟨g.x, f.k.trans g.k, f.t.trans g.t⟩
def Plain : Row → Prop
  | .con _ _ => True
  | .rd _ => True
  | .pr _ => True
  | .op _ _ _ _ => True
  | _ => False
theorem InsOk.plain {x : Str} {sc : List Str} : ∀ {r : Row}, InsOk x sc r → Plain r
  | .con _ _, _ => trivial
  | .rd _, _ => trivial
  | .pr _, _ => trivial
  | .op _ _ _ _, _ => trivial
section
variable {P : Program} {w : World} {K : PySem.W.Frag} {mg : Str → Option Value} {base : Heap} {f C : Addr} {fd : FuncData} {σ : L2.St} {H : Hp} {g : TG} {tu tw tz : TS} {D : Ends} {ta tb tc te tl td tv ty : TE} {tr : TA} {tt t2 : TT} {Q : VK} {r : R2} {QT : Bool → Hp → Prop}
theorem ev_addS2 {x y : Str} (ha : Ev ta σ H (.str x)) (hb : Ev tb σ H (.str y)) (hz : x.length + y.length ≤ 100000) : Ev (tOp rAddS0 ta tb) σ H (.str (x ++ y)) :=
  ev_op ha hb (rv_val fun H1 _ Q q => ⟨x, y, rfl, rfl, sz_of hz, q⟩)
def rMin2 : List V → Hp → VK → Prop := fun xs H Q => ∃ i j, xs = [.int i, .int j] ∧ Q (.int (if j < i then j else i)) H
theorem ev_min2 {i j : Int} (ha : Ev ta σ H (.int i)) (hb : Ev tb σ H (.int j)) : Ev (tCB rMin2 (tCons ta (tCons tb tNil))) σ H (.int (if j < i then j else i)) := fun H1 e Q q =>
  ha H1 e _ fun H2 e2 => hb H2 (e.trans e2) _ fun H3 e3 => ⟨i, j, rfl, q H3 (e2.trans e3)⟩
theorem r_pop0 {l : Addr} {xs : List V} {y : V} (h : Ev ta σ H (.ref l)) (hl : H l = some (.lst (y :: xs))) (k : ∀ H1, Ex H H1 → Q y (upd H1 l (.lst xs))) : tBM K "list" rPopAt ta (tCons (tC (.int 0)) tNil) σ H Q :=
  h H (Ex.refl H) _ fun H1 e1 => ⟨.inl ⟨rfl, _, sq_of (e1 _ _ hl)⟩, l, y :: xs, 0, 0, y, rfl, rfl, e1 _ _ hl, by decide, by decide, by unfold seqIndex?; simp, rfl, k H1 e1⟩
theorem el_catNN {xs zs : List V} (ha : EvL ta σ H xs) (hb : EvL tb σ H zs) (hl : xs.length + zs.length ≤ 100000) : EvL (tOp rCat ta tb) σ H (xs ++ zs) := fun H1 e Q q =>
  ha H1 e _ fun p H2 hp e2 h2 => hb H2 (e.trans e2) _ fun p3 H3 hp3 e3 h3 => ⟨p, p3, xs, zs, rfl, rfl, e3 _ _ h2, h3, sz_of hl, fun r hr => q r _ (fresh_back (e2.trans e3) hr) ((e2.trans e3).trans (Ex.new hr)) upd_same⟩
/-- the names of a law's program -/
theorem el_names (hσ : σ.length = 21) : EvL (tLc (iStr (tC (.str "abcdefghijklmnop"))) (gName 20) tYes (tOp rAddS0 (tC (.str "v")) (tVar 20)) [20]) σ H (vnames.map V.str) := by
  have hc : ∀ i c, (Str.ofString "abcdefghijklmnop").cps[i]? = some c → i < 16 ∧ c = 97 + i := by
    have e : (Str.ofString "abcdefghijklmnop").cps = (Array.range 16).map (97 + ·) := by decide +kernel
    intro i c h
    rw [e] at h
    rw [Array.getElem?_map] at h
    by_cases q : i < 16
    · rw [Array.getElem?_eq_getElem (by simpa using q)] at h
      simp at h
      exact ⟨q, h.symm⟩
    · rw [Array.getElem?_eq_none (by simpa using q)] at h
      cases h
  have hsz : (Str.ofString "abcdefghijklmnop").cps.size = 16 := by decide +kernel
  have q := elp_lcn (R := fun _ v b => v = V.str b) (σ := σ) (H := H) (t := tYes) (te := tOp rAddS0 (tC (.str "v")) (tVar 20)) (vs := [20]) (j := 20) mono_eq (ei_str (z := "abcdefghijklmnop") ev_c) (by rw [hsz]; decide) (fun i => some (vname i)) (fun x => by simp [wipe]) (fun i H' x H'' y => y.1) (fun i x H' hi e y => et_yes) (fun i x b H' hi e y hb => ?_)
  · have e : (List.range 16).filterMap (fun i => some (vname i)) = vnames := by
      unfold vnames
      rw [List.filterMap_eq_map']
    rw [hsz, e] at q
    exact el_of q
  · cases hb
    obtain ⟨_, c, h1, rfl⟩ := y
    obtain ⟨hi, rfl⟩ := hc i c h1
    have h20 : ((wipe σ [20]).set 20 (some (.str ⟨#[97 + i]⟩)))[20]? = some (some (.str ⟨#[97 + i]⟩)) := by simp [wipe, hσ]
    exact evr_eq (ev_addS2 (x := "v") (y := ⟨#[97 + i]⟩) ev_c (ev_var h20) (by show 1 + 1 ≤ 100000; decide))
/-- the names that rows define -/
theorem el_rowdefs {l : Addr} {vs : List V} {rs : List Row} (hσ : σ.length = 21) (hv : Ev (tVar 11) σ H (.ref l)) (hl : H l = some (.lst vs)) (hp : Paired (RowAt H) vs rs) (hn : rs.length ≤ 1000) (hr : ∀ r ∈ rs, Plain r) :
    EvL (tLc (iList K (tVar 11)) (gName 12) (tTest (tOp rNe (tOp (rIxT K) (tVar 12) (tC (.int 0))) (tC (.str "print")))) (tOp (rIxT K) (tVar 12) (tC (.int 1))) [12]) σ H ((rs.filterMap dby).map V.str) := by
  have hlen := pd_len hp
  have q := elp_lcn (R := fun _ v b => v = V.str b) (t := tTest (tOp rNe (tOp (rIxT K) (tVar 12) (tC (.int 0))) (tC (.str "print")))) (te := tOp (rIxT K) (tVar 12) (tC (.int 1))) (vs := [12]) (j := 12) mono_eq (ei_lst (K := K) hv hl) (by omega) (fun i => rs[i]?.bind dby) (fun x => ?_) (fun i H' x H'' y => y.1) (fun i x H' hi e y => ?_) (fun i x b H' hi e y hb => ?_)
  · rw [hlen, fm_list] at q
    exact el_of q
  · simp [wipe]
  · obtain ⟨r, hr1, hr2⟩ := pd_get hp y.2
    have hpl := hr r (List.mem_of_getElem? hr1)
    have h12 : ((wipe σ [12]).set 12 (some x))[12]? = some (some x) := by simp [wipe, hσ]
    rw [hr1]
    show EvT _ _ _ (dby r).isSome
    cases r with
    | con x k => obtain ⟨a, rfl, ha⟩ := hr2; exact et_T (ev_op (ev_ixT (ev_var h12) (e _ _ ha) ev_c at0) ev_c (rv_ne rfl))
    | rd x => obtain ⟨a, rfl, ha⟩ := hr2; exact et_T (ev_op (ev_ixT (ev_var h12) (e _ _ ha) ev_c at0) ev_c (rv_ne rfl))
    | pr x => obtain ⟨a, rfl, ha⟩ := hr2; exact et_T (ev_op (ev_ixT (ev_var h12) (e _ _ ha) ev_c at0) ev_c (rv_ne rfl))
    | op x o u v => obtain ⟨a, rfl, ha⟩ := hr2; exact et_T (ev_op (ev_ixT (ev_var h12) (e _ _ ha) ev_c at0) ev_c (rv_ne rfl))
    | ret x => exact hpl.elim
    | jmp l as => exact hpl.elim
    | br x a b c d => exact hpl.elim
  · obtain ⟨r, hr1, hr2⟩ := pd_get hp y.2
    have h12 : ((wipe σ [12]).set 12 (some x))[12]? = some (some x) := by simp [wipe, hσ]
    rw [hr1] at hb
    have hb : dby r = some b := hb
    cases r with
    | con x k => cases hb; obtain ⟨a, rfl, ha⟩ := hr2; exact evr_eq (ev_ixT (ev_var h12) (e _ _ ha) ev_c (atI_nat (j := 1) rfl))
    | rd x => cases hb; obtain ⟨a, rfl, ha⟩ := hr2; exact evr_eq (ev_ixT (ev_var h12) (e _ _ ha) ev_c (atI_nat (j := 1) rfl))
    | op x o u v => cases hb; obtain ⟨a, rfl, ha⟩ := hr2; exact evr_eq (ev_ixT (ev_var h12) (e _ _ ha) ev_c (atI_nat (j := 1) rfl))
    | pr x => cases hb
    | ret x => cases hb
    | jmp l as => cases hb
    | br x a b c d => cases hb
theorem el_scope {a d : Addr} {ks : List Nat} {us : List V} {Ls : List (List Str)} (h1 : Ev ta σ H (.ref a)) (h2 : Ev tb σ H (.ref d)) (ha : H a = some (.lst (ks.map intV))) (hd : H d = some (.lst us)) (hp : Paired (LstAt H) us Ls) (hk : ks.length ≤ 20) (hL : ∀ L ∈ Ls, L.length ≤ 100) :
    EvL (tCall spScope [] E0 (tCons ta (tCons tb tNil))) σ H ((scopeOf Ls ks).map V.str) := fun H1 e Q q =>
  h1 H1 e _ fun H2 e2 => h2 H2 (e.trans e2) _ fun H3 e3 => ⟨a, d, ks, us, Ls, rfl, (e.trans (e2.trans e3)) _ _ ha, (e.trans (e2.trans e3)) _ _ hd, Paired.mapP hp fun v b q => q.e (e.trans (e2.trans e3)), hk, hL, fun p H4 hp4 e4 h4 => q p H4 (fresh_back (e2.trans e3) hp4) ((e2.trans e3).trans e4) h4⟩
end
end Sh
end

section
set_option Elab.async false
set_option linter.all false
set_option maxRecDepth 100000
set_option maxHeartbeats 8000000
/-! Walks: _law_program. -/
namespace Sh
open PySem PySem.Spec PyProof.Rows L2 Evl Classical
open SF (RA Reach Dom sucOf domsOf)
def ForN (j : Nat) (tu : TS) (D : Ends) (σ : L2.St) : VK := fun x H1 => ∃ n : Int, [x] = [.int n] ∧ -(2 ^ 62) ≤ n ∧ n < 2 ^ 62 ∧ ∃ W : Nat → Nat → L2.St → Hp → Prop, (∃ m, W 0 m σ H1) ∧ ∀ i m σ H, W i m σ H →
  ((Itr 0 n.toNat).stop i H ∧ D.nx σ H) ∨ ((Itr 0 n.toNat).go i H ∧ ∃ N : L2.St → Hp → Prop, (∀ σ' H', N σ' H' → ∃ m', m' < m ∧ W (i + 1) m' σ' H') ∧ ∀ x H', (Itr 0 n.toNat).yld i H x H' → (gName j) x σ H' fun σ2 H2 => tu { D with nx := N, ct := N, bk := D.nx } σ2 H2)
def spProg : Sp := fun vs H Q _ => ∃ (b : Addr), vs = [.ref b] ∧ Bx H b ∧ ∀ v H' G, ProgAt H' v G → Small G → SF.WF (toPg G) → (defsP G).length ≤ 16 → XB b H H' → Q v H'
theorem pd_mapl {α β γ : Type} {F : α → β → Prop} {G : γ → β → Prop} {f : α → γ} : ∀ {l : List α} {m : List β}, Paired F l m → (∀ a b, F a b → G (f a) b) → Paired G (l.map f) m
  | _, _, .nil, _ => .nil
  | _, _, .cons h t, k => .cons (k _ _ h) (pd_mapl t k)
theorem nats_ne {H : Hp} {p q : Addr} {ks : List Nat} {t : Addr} {x : V} (h1 : H p = some (.lst (ks.map intV))) (h2 : H q = some (.lst [.ref t, x])) : p ≠ q := by
  rintro rfl
  rw [h1] at h2
  cases ks with
  | nil => cases h2
  | cons k ks => cases ks <;> cases h2
def LstM (M : Addr → Prop) (H : Hp) (v : V) (xs : List Str) : Prop := ∃ p, v = .ref p ∧ ¬ M p ∧ H p = some (.lst (xs.map V.str))
theorem LstM.k {M : Addr → Prop} {H H' : Hp} {v : V} {xs : List Str} (h : LstM M H v xs) (k : KF M H H') : LstM M H' v xs := let ⟨p, h1, h2, h3⟩ := h; ⟨p, h1, h2, k _ _ h2 h3⟩
theorem LstM.at {M : Addr → Prop} {H : Hp} {v : V} {xs : List Str} (h : LstM M H v xs) : LstAt H v xs := let ⟨p, h1, h2, h3⟩ := h; ⟨p, h1, h3⟩
def BlM (M : Addr → Prop) (H : Hp) (v : V) (B : PB) : Prop := ∃ p vp vi, v = .ref p ∧ ¬ M p ∧ H p = some (.lst [.str B.name, vp, vi]) ∧ StrsAt H vp B.params ∧ TAll RowAt H vi B.ins
theorem BlM.k {M : Addr → Prop} {H H' : Hp} {v : V} {B : PB} (h : BlM M H v B) (k : KF M H H') (t : TX H H') : BlM M H' v B := let ⟨p, vp, vi, h1, h2, h3, h4, h5⟩ := h; ⟨p, vp, vi, h1, h2, k _ _ h2 h3, h4.mono t, h5.mono (fun _ _ => RowAt.mono t) t⟩
theorem KF.mut {F : Addr → Prop} {H H' : Hp} {p : Addr} {o : HO} (k : KF F H H') (h : H p = none) : KF F H (L2.upd H' p o) := fun a u n z => by
  rw [upd_ne (ne_of_none z h)]
  exact k a u n z
theorem KF.wide {F G : Addr → Prop} {H H' : Hp} (k : KF F H H') (h : ∀ p, F p → G p) : KF G H H' := fun a o n z => k a o (fun q => n (h a q)) z
/-- what the first blocks are -/
structure Blks (S : List (List Nat × Nat)) (Gs : List PB) (u : Nat) : Prop where
  ule : u ≤ 16
  nd : defsP Gs = vnames.take u
  nm : ∀ k B, Gs[k]? = some B → B.name = bname k ∧ B.params.length ≤ 16 ∧ B.ins.length ≤ 10 ∧ RowsOk (scopeOf ((Gs.map pbdefs).take k) (domsOf (sucS S) S.length k)) B.params B.ins
  z : ∀ B, Gs[0]? = some B → pbdefs B ≠ []
theorem Blks.snoc {S : List (List Nat × Nat)} {Gs : List PB} {u u' : Nat} {B : PB} (b : Blks S Gs u) (hu : u' ≤ 16) (hn : defsP Gs ++ pbdefs B = vnames.take u') (h1 : B.name = bname Gs.length) (h2 : B.params.length ≤ 16) (h3 : B.ins.length ≤ 10)
    (h4 : RowsOk (scopeOf (Gs.map pbdefs) (domsOf (sucS S) S.length Gs.length)) B.params B.ins) (h5 : Gs.length = 0 → pbdefs B ≠ []) : Blks S (Gs ++ [B]) u' where
  ule := hu
  nd := by
    rw [← hn]
    unfold defsP
    simp
  nm := fun k C h => by
    by_cases q : k < Gs.length
    · rw [List.getElem?_append_left q] at h
      have e : ((Gs ++ [B]).map pbdefs).take k = (Gs.map pbdefs).take k := by
        rw [List.map_append, List.take_append_of_le_length (by rw [List.length_map]; omega)]
      rw [e]
      exact b.nm k C h
    · have hk : k = Gs.length := by
        have := (List.getElem?_eq_some_iff.mp h).1
        rw [List.length_append, List.length_singleton] at this
        omega
      subst hk
      rw [List.getElem?_append_right (Nat.le_refl _), Nat.sub_self] at h
      cases h
      have e : ((Gs ++ [B]).map pbdefs).take Gs.length = Gs.map pbdefs := by
        rw [List.map_append, List.take_append_of_le_length (by rw [List.length_map]; omega), List.take_of_length_le (by rw [List.length_map]; omega)]
      rw [e]
      exact ⟨h1, h2, h3, h4⟩
  z := fun C h => by
    by_cases q : 0 < Gs.length
    · rw [List.getElem?_append_left q] at h
      exact b.z C h
    · have hk : Gs.length = 0 := by omega
      rw [List.getElem?_append_right (by omega), hk] at h
      cases h
      exact h5 hk
theorem RowsOk.snoc {sc ps : List Str} {rs : List Row} {r : Row} {x : Str} (h : RowsOk sc ps rs) (hr : InsOk x (sc ++ ps ++ rs.filterMap dby) r) : RowsOk sc ps (rs ++ [r]) := fun j r2 hj => by
  by_cases q : j < rs.length
  · rw [List.getElem?_append_left q] at hj
    rw [List.take_append_of_le_length (by omega)]
    exact h j r2 hj
  · have hk : j = rs.length := by
      have := (List.getElem?_eq_some_iff.mp hj).1
      rw [List.length_append, List.length_singleton] at this
      omega
    subst hk
    rw [List.getElem?_append_right (Nat.le_refl _), Nat.sub_self] at hj
    cases hj
    rw [List.take_append_of_le_length (Nat.le_refl _), List.take_length]
    exact ⟨x, hr⟩
section
variable {P : Program} {w : World} {K : PySem.W.Frag} {mg : Str → Option Value} {base : Heap} {f C : Addr} {fd : FuncData} {σ : L2.St} {H : Hp} {g : TG} {tu tw tz : TS} {D : Ends} {ta tb tc te tl td tv ty : TE} {tr : TA} {tt t2 : TT} {Q : VK} {r : R2} {QT : Bool → Hp → Prop}
theorem pe_bmK {X : Cx} {o e : Expr} {es : List Expr} {to : TE} {t : TA} {name : Str} {apos cpos : Pos} {T id : String} {r : V → List V → Hp → VK → Prop} (hK : X.K = K) (pa : PlainAttrs T) (slot : Slot T name id) (hty : typeOf (.builtin id) = pure (.type "method_descriptor")) (hm : MtR X id r) (ho : PE X o to) (ha : PA X (e :: es) t)
    (hbase : attributeBase o name X.env (eval o X.env) = eval o X.env := by rfl)
    (hfew : ((backTo cpos (starEach (e :: es) X.env)).all (fun x => !x.1) && (backToKw cpos (keywordEach [] X.env)).all (fun x => x.1.isSome)
      && decide ((e :: es).length + ([] : List Keyword).length + (if ([] : List Keyword).isEmpty then 0 else 1) < 30)) = true := by rfl)
    (hline : (apos.endLine == cpos.line) = true := by rfl) (hs : starEach (e :: es) X.env = (false, eval e X.env) :: starEach es X.env := by rfl) (hplain : (backTo cpos (starEach es X.env)).any (·.1) = false := by rfl) :
    PE X (.Call (.Attribute o name apos) (e :: es) [] cpos) (tBM K T r to t) := by
  subst hK
  exact pe_bm pa slot hty hm ho ha hbase hfew hline hs hplain
theorem q_forN {j : Nat} (h : ta σ H (ForN j tu { D with nx := tz D } σ)) : tSeq (tFor (iRng1 (tCons ta tNil)) (gName j) tu) tz D σ H := h
theorem forN {n j : Nat} (hn : n ≤ 40000) (Pv : Nat → L2.St → Hp → Prop) (h0 : Pv 0 σ H) (hs : ∀ i σ' H', i < n → Pv i σ' H' → tu { D with nx := Pv (i + 1), ct := Pv (i + 1), bk := D.nx } (σ'.set j (some (intV i))) H') (hd : ∀ σ' H', Pv n σ' H' → D.nx σ' H') : ForN j tu D σ (intV n) H :=
  ⟨n, rfl, by omega, by omega, for_range (lo := 0) (n := n) Pv h0 (fun i σ' H' hi p => by
    have e0 : V.int ((0 : Int) + (i : Nat)) = intV i := by show V.int (0 + (i : Nat)) = V.int (i : Nat); rw [Int.zero_add]
    show tu { D with nx := Pv (i + 1), ct := Pv (i + 1), bk := D.nx } (σ'.set j (some (.int ((0 : Int) + (i : Int))))) H'
    rw [e0]
    exact hs i σ' H' hi p) hd⟩
theorem r_drop (h : te σ H fun _ H1 => D.nx σ H1) : tDrop te D σ H := h
theorem r_args {b a : Addr} {xs : List Str} {n : Nat} (hb : Ev ta σ H (.ref b)) (hm : Ev tb σ H (.ref a)) (hc : Ev tc σ H (intV n)) (hn : n ≤ 1000) (h0 : 0 < n → xs ≠ []) (ha : H a = some (.lst (xs.map V.str))) (hB : Bx H b)
    (k : ∀ v ys H', (∀ y ∈ ys, y ∈ xs) → ys.length = n → StrsAt H' v ys → XB b H H' → Q v H') : tCall spArgs [] E0 (tCons ta (tCons tb (tCons tc tNil))) σ H Q :=
  hb H (Ex.refl H) _ fun H1 e1 => hm H1 e1 _ fun H2 e2 => hc H2 (e1.trans e2) _ fun H3 e3 => ⟨b, a, xs, n, rfl, hn, hB.e (e1.trans (e2.trans e3)), h0, (e1.trans (e2.trans e3)) _ _ ha, fun v ys H' h1 h2 h3 x => k v ys H' h1 h2 h3 ((xb (e1.trans (e2.trans e3))).trans x)⟩
theorem et_np {v : V} {r : Row} (h : Ev ta σ H v) (hr : RowAt H v r) (hp : Plain r) : EvT (tTest (tOp rNe (tOp (rIxT K) ta (tC (.int 0))) (tC (.str "print")))) σ H (dby r).isSome := by
  cases r with
  | con x k => obtain ⟨a, rfl, ha⟩ := hr; exact et_T (ev_op (ev_ixT h ha ev_c at0) ev_c (rv_ne rfl))
  | rd x => obtain ⟨a, rfl, ha⟩ := hr; exact et_T (ev_op (ev_ixT h ha ev_c at0) ev_c (rv_ne rfl))
  | pr x => obtain ⟨a, rfl, ha⟩ := hr; exact et_T (ev_op (ev_ixT h ha ev_c at0) ev_c (rv_ne rfl))
  | op x o u v => obtain ⟨a, rfl, ha⟩ := hr; exact et_T (ev_op (ev_ixT h ha ev_c at0) ev_c (rv_ne rfl))
  | ret x => exact hp.elim
  | jmp l as => exact hp.elim
  | br x a b c d => exact hp.elim
theorem InsOk.dby {x : Str} {sc : List Str} {r : Row} (h : InsOk x sc r) : Sh.dby r = some x ∨ (Sh.dby r = none ∧ sc ≠ []) := by
  cases r with
  | con y k => exact .inl (congrArg some h)
  | rd y => exact .inl (congrArg some h)
  | pr y => exact .inr ⟨rfl, List.ne_nil_of_mem h⟩
  | op y o u v => exact .inl (congrArg some h.1)
  | ret x => exact h.elim
  | jmp l as => exact h.elim
  | br x a b c d => exact h.elim
theorem vdrop_at {u : Nat} (hu : u < 16) : vnames.drop u = vname u :: vnames.drop (u + 1) := by
  have h : u < vnames.length := hu
  have e : vnames[u]? = some (vname u) := by
    unfold vnames
    rw [List.getElem?_map, List.getElem?_range hu]
    rfl
  rw [List.drop_eq_getElem_cons h]
  rw [List.getElem?_eq_getElem h] at e
  rw [Option.some.inj e]
theorem vtake_at {u : Nat} (hu : u < 16) : vnames.take (u + 1) = vnames.take u ++ [vname u] := by
  refine take_succ ?_
  unfold vnames
  rw [List.getElem?_map, List.getElem?_range hu]
  rfl
theorem abc_at : ∀ {i : Nat}, i < 5 → (Str.ofString "abcdef").cps.toList[i]? = some (97 + i)
  | 0, _ => by decide +kernel
  | 1, _ => by decide +kernel
  | 2, _ => by decide +kernel
  | 3, _ => by decide +kernel
  | 4, _ => by decide +kernel
theorem ev_bname {i j : Nat} (h : σ[j]? = some (some (intV i))) (hi : i < 5) : Ev (tOp rAddS0 (tC (.str "b")) (tOp rIxS (tC (.str "abcdef")) (tVar j))) σ H (.str (bname i)) :=
  ev_addS2 (x := "b") (y := ⟨#[97 + i]⟩) ev_c (ev_op ev_c (ev_var h) (rv_ixS (by decide +kernel) (atI_nat (j := i) (abc_at hi)))) (by show 1 + 1 ≤ 100000; decide)
abbrev s_law_program : Stmt := top 37
abbrev n_law_program : List Str := ["_law_box", "_law_shape_here", "_law_doms", "_law_names", "_law_defined", "_law_blocks", "_law_k", "_law_left", "_law_count", "_law_turn", "_law_parameters", "_law_rows", "_law_row", "_law_scope_here", "_law_found", "_law_other", "_law_targets", "_law_end", "_law_first", "_law_second", "_law_letter"]
theorem sc_law_program : FnScope ["_law_box", "_law_shape_here", "_law_doms", "_law_names", "_law_defined", "_law_blocks", "_law_k", "_law_left", "_law_count", "_law_turn", "_law_parameters", "_law_rows", "_law_row", "_law_scope_here", "_law_found", "_law_other", "_law_targets", "_law_end", "_law_first", "_law_second", "_law_letter"] ["_law_box"] (defScope s_law_program) := ⟨rfl, rfl, rfl, by decide +kernel, rfl, by decide +kernel, by decide +kernel⟩
theorem ok__law_program (F : FnP K "_law_program" "_law_program" s_law_program f fd) (B : Blt mg) (C__law_draw : Cal P w K mg base "_law_draw" 1 ["_law_box", "_law_many"] spDraw) (C__law_pick : Cal P w K mg base "_law_pick" 2 ["_law_box", "_law_rows"] spPick)
    (C__law_shape : Cal P w K mg base "_law_shape" 2 ["_law_box"] spShape) (C__law_dominators_of : Cal P w K mg base "_law_dominators_of" 2 ["_law_shape_here"] spLDoms) (C__law_instruction : Cal P w K mg base "_law_instruction" 3 ["_law_box", "_law_name", "_law_scope_here"] spInstr)
    (C__law_arguments : Cal P w K mg base "_law_arguments" 3 ["_law_box", "_law_scope_here", "_law_count"] spArgs) (C__law_scope : Cal P w K mg base "_law_scope" 1 ["_law_numbers", "_law_defined"] spScope) : FnOk P w K mg base CX0 4 f fd ["_law_box"] spProg := by
  refine F.ok sc_law_program (fun vs H Q E h => ?_) (fun cdv A outer s H vs Q E hr h => ⟨_, PSs.nox ((pss_cons (ps_set (i := 1) sc_law_program.nd rfl (Or.inl rfl) (pe_cal C__law_shape (hr.mono (by decide)) (by rfl) (pa_cons (pv 0) pa_nil))) (pss_cons (ps_set (i := 2) sc_law_program.nd rfl (Or.inl rfl) (pe_cal C__law_dominators_of (hr.mono (by decide)) (by rfl) (pa_cons (pv 1) pa_nil))) (pss_cons (ps_set (i := 3) sc_law_program.nd rfl (Or.inr rfl) (pe_lc (own := [("_law_letter", 20)]) (g := (gName 20)) rfl sc_law_program.nd (pi_str pe_str) (blkOk_by (own := [("_law_letter", 20)]) (N := ["_law_box", "_law_shape_here", "_law_doms", "_law_names", "_law_defined", "_law_blocks", "_law_k", "_law_left", "_law_count", "_law_turn", "_law_parameters", "_law_rows", "_law_row", "_law_scope_here", "_law_found", "_law_other", "_law_targets", "_law_end", "_law_first", "_law_second", "_law_letter"]) (sc := (defScope s_law_program)) (by decide +kernel)) (fun _ _ _ _ _ => (pg_name (i := 20) sc_law_program.nd rfl (Or.inl rfl))) (fun _ _ _ _ _ => pts_nil) (fun _ _ _ _ _ => (pe_op op_add_str pe_str (pv 20))))) (pss_cons (ps_set (i := 4) sc_law_program.nd rfl (Or.inl rfl) (pe_lst pa_nil)) (pss_cons (ps_set (i := 5) sc_law_program.nd rfl (Or.inl rfl) (pe_lst pa_nil)) (pss_cons (ps_for PassesOwn.never rfl (pi_range1 (by rfl) B.range (pa_cons (pe_callB call_len_seq (by rfl) B.len PySem.boot_len (pa_cons (pv 1) pa_nil)) pa_nil)) (pg_name (i := 6) sc_law_program.nd rfl (Or.inl rfl)) (pss_cons (ps_set (i := 7) sc_law_program.nd rfl (Or.inl rfl) (pe_op op_sub (pe_op op_sub (pe_callB call_len_seq (by rfl) B.len PySem.boot_len (pa_cons (pv 1) pa_nil)) pe_int) (pv 6))) (pss_cons (ps_set (i := 8) sc_law_program.nd rfl (Or.inl rfl) (pe_callB (call_min2 rfl) (by rfl) B.min (by decide +kernel) (pa_cons (pe_ix ix_list (pe_ix ix_list (pv 1) (pv 6) (fun _ _ => rfl)) pe_int (fun _ _ => rfl)) (pa_cons (pe_op op_sub (pe_op op_sub (pe_callB call_len_seq (by rfl) B.len PySem.boot_len (pa_cons (pv 3) pa_nil)) (pe_op op_mul pe_int (pv 7))) pe_int) pa_nil)))) (pss_cons (ps_asg (pe_callB (call_max2 rfl) (by rfl) B.max (by decide +kernel) (pa_cons pe_int (pa_cons (pv 8) pa_nil))) (pg_sub (pe_ix ix_list (pv 1) (pv 6) (fun _ _ => rfl)) pe_int set_list)) (pss_cons (ps_setLc (i := 10) (own := [("_law_turn", 9)]) (g := (gName 9)) rfl sc_law_program.nd rfl rfl (sw_true rfl rfl rfl (by decide +kernel)) (pi_range1 (by rfl) B.range (pa_cons (pe_ix ix_list (pe_ix ix_list (pv 1) (pv 6) (fun _ _ => rfl)) pe_int (fun _ _ => rfl)) pa_nil)) (blkOk_by (own := [("_law_turn", 9)]) (N := ["_law_box", "_law_shape_here", "_law_doms", "_law_names", "_law_defined", "_law_blocks", "_law_k", "_law_left", "_law_count", "_law_turn", "_law_parameters", "_law_rows", "_law_row", "_law_scope_here", "_law_found", "_law_other", "_law_targets", "_law_end", "_law_first", "_law_second", "_law_letter"]) (sc := (defScope s_law_program)) (by decide +kernel)) (fun _ _ _ _ _ => (pg_name (i := 9) sc_law_program.nd rfl (Or.inl rfl))) (fun _ _ _ _ _ => pts_nil) (fun _ _ _ _ _ => (pe_bmK (K := K) rfl PySem.F.plainAttrs_list PySem.F.slot_list_pop PySem.F.type_list_pop mt_popAt (pv 3) (pa_cons pe_int pa_nil)))) (pss_cons (ps_set (i := 11) sc_law_program.nd rfl (Or.inl rfl) (pe_lst pa_nil)) (pss_cons (ps_for PassesOwn.never rfl (pi_range1 (by rfl) B.range (pa_cons (pe_op op_add (pe_cal C__law_draw (hr.mono (by decide)) (by rfl) (pa_cons (pv 0) (pa_cons pe_int pa_nil))) (pe_callTy call_int1 (by rfl) B.int (by decide +kernel) (pa_cons (pe_and (pe_cmpR op_eq (pv 6) pe_int (nomark _)) (pe_one (pe_cmpR op_eq (pe_callB call_len_seq (by rfl) B.len PySem.boot_len (pa_cons (pv 10) pa_nil)) pe_int (nomark _)))) pa_nil))) pa_nil)) (pg_name (i := 9) sc_law_program.nd rfl (Or.inl rfl)) (pss_cons (ps_set (i := 13) sc_law_program.nd rfl (Or.inl rfl) (pe_op op_cat (pe_op op_cat (pe_cal C__law_scope (hr.mono (by decide)) (by rfl) (pa_cons (pe_ix ix_list (pv 2) (pv 6) (fun _ _ => rfl)) (pa_cons (pv 4) pa_nil))) (pv 10)) (pe_lc (own := [("_law_row", 12)]) (g := (gName 12)) rfl sc_law_program.nd (pi_list (pv 11)) (blkOk_by (own := [("_law_row", 12)]) (N := ["_law_box", "_law_shape_here", "_law_doms", "_law_names", "_law_defined", "_law_blocks", "_law_k", "_law_left", "_law_count", "_law_turn", "_law_parameters", "_law_rows", "_law_row", "_law_scope_here", "_law_found", "_law_other", "_law_targets", "_law_end", "_law_first", "_law_second", "_law_letter"]) (sc := (defScope s_law_program)) (by decide +kernel)) (fun _ _ _ _ _ => (pg_name (i := 12) sc_law_program.nd rfl (Or.inl rfl))) (fun _ _ _ _ _ => pts_one (pt_cmpR op_ne (pe_ix (ix_tupK (K := K) rfl) (pv 12) pe_int (fun _ _ => rfl)) pe_str (nomark _))) (fun _ _ _ _ _ => (pe_ix (ix_tupK (K := K) rfl) (pv 12) pe_int (fun _ _ => rfl)))))) (pss_one (ps_if (PW.pt (pw_or (pt_cmpR op_gt (pe_callB call_len_seq (by rfl) B.len PySem.boot_len (pa_cons (pv 3) pa_nil)) (pe_op op_add (pe_op op_mul pe_int (pv 7)) pe_int) (nomark _)) (pw_or1 (PW.pt (pw_and (pt_cmpR op_eq (pv 6) pe_int (nomark _)) (pw_and1 (pt_cmpR op_eq (pe_callB call_len_seq (by rfl) B.len PySem.boot_len (pa_cons (pv 13) pa_nil)) pe_int (nomark _)))))))) (pss_cons (ps_set (i := 12) sc_law_program.nd rfl (Or.inl rfl) (pe_cal C__law_instruction (hr.mono (by decide)) (by rfl) (pa_cons (pv 0) (pa_cons (pe_ix ix_list (pv 3) pe_int (fun _ _ => rfl)) (pa_cons (pv 13) pa_nil))))) (pss_cons (ps_if (pt_cmpR op_ne (pe_ix ix_tup (pv 12) pe_int (fun _ _ => rfl)) pe_str (nomark _)) (pss_one (ps_expr (pe_bm PySem.F.plainAttrs_list PySem.F.slot_list_pop PySem.F.type_list_pop mt_popAt (pv 3) (pa_cons pe_int pa_nil)))) pss_nil) (pss_one (ps_expr (pe_bm PySem.F.plainAttrs_list PySem.F.slot_list_append PySem.F.type_list_append mt_append (pv 11) (pa_cons (pv 12) pa_nil)))))) pss_nil)))) (pss_cons (ps_expr (pe_bm PySem.F.plainAttrs_list PySem.F.slot_list_append PySem.F.type_list_append mt_append (pv 4) (pa_cons (pe_op op_cat (pv 10) (pe_lc (own := [("_law_row", 12)]) (g := (gName 12)) rfl sc_law_program.nd (pi_list (pv 11)) (blkOk_by (own := [("_law_row", 12)]) (N := ["_law_box", "_law_shape_here", "_law_doms", "_law_names", "_law_defined", "_law_blocks", "_law_k", "_law_left", "_law_count", "_law_turn", "_law_parameters", "_law_rows", "_law_row", "_law_scope_here", "_law_found", "_law_other", "_law_targets", "_law_end", "_law_first", "_law_second", "_law_letter"]) (sc := (defScope s_law_program)) (by decide +kernel)) (fun _ _ _ _ _ => (pg_name (i := 12) sc_law_program.nd rfl (Or.inl rfl))) (fun _ _ _ _ _ => pts_one (pt_cmpR op_ne (pe_ix (ix_tupK (K := K) rfl) (pv 12) pe_int (fun _ _ => rfl)) pe_str (nomark _))) (fun _ _ _ _ _ => (pe_ix (ix_tupK (K := K) rfl) (pv 12) pe_int (fun _ _ => rfl))))) pa_nil))) (pss_one (ps_expr (pe_bm PySem.F.plainAttrs_list PySem.F.slot_list_append PySem.F.type_list_append mt_append (pv 5) (pa_cons (pe_lst (pa_cons (pe_op op_add_str pe_str (pe_ix ix_str pe_str (pv 6) (fun _ _ => rfl))) (pa_cons (pe_callTy call_tuple_of (by rfl) B.tuple (by decide +kernel) (pa_cons (pv 10) pa_nil)) (pa_cons (pe_callTy call_tuple_of (by rfl) B.tuple (by decide +kernel) (pa_cons (pv 11) pa_nil)) pa_nil)))) pa_nil)))))))))))) (pss_cons (ps_set (i := 14) sc_law_program.nd rfl (Or.inl rfl) (pe_lst pa_nil)) (pss_cons (ps_for PassesOwn.never rfl (pi_range1 (by rfl) B.range (pa_cons (pe_callB call_len_seq (by rfl) B.len PySem.boot_len (pa_cons (pv 1) pa_nil)) pa_nil)) (pg_name (i := 6) sc_law_program.nd rfl (Or.inl rfl)) (pss_cons (ps_set (i := 13) sc_law_program.nd rfl (Or.inl rfl) (pe_lst pa_nil)) (pss_cons (ps_for PassesOwn.never rfl (pi_list (pe_ix ix_list (pv 2) (pv 6) (fun _ _ => rfl))) (pg_name (i := 15) sc_law_program.nd rfl (Or.inl rfl)) (pss_one (ps_set (i := 13) sc_law_program.nd rfl (Or.inl rfl) (pe_op op_cat (pv 13) (pe_ix ix_list (pv 4) (pv 15) (fun _ _ => rfl)))))) (pss_cons (ps_set (i := 16) sc_law_program.nd rfl (Or.inl rfl) (pe_ix ix_list (pe_ix ix_list (pv 1) (pv 6) (fun _ _ => rfl)) pe_int (fun _ _ => rfl))) (pss_cons (ps_if (pt_cmpR op_eq (pe_callB call_len_seq (by rfl) B.len PySem.boot_len (pa_cons (pv 16) pa_nil)) pe_int (nomark _)) (pss_one (ps_set (i := 17) sc_law_program.nd rfl (Or.inl rfl) (pe_tup (pa_cons pe_str (pa_cons (pe_cal C__law_pick (hr.mono (by decide)) (by rfl) (pa_cons (pv 0) (pa_cons (pv 13) pa_nil))) pa_nil))))) (pss_one (ps_if (pt_cmpR op_eq (pe_callB call_len_seq (by rfl) B.len PySem.boot_len (pa_cons (pv 16) pa_nil)) pe_int (nomark _)) (pss_one (ps_set (i := 17) sc_law_program.nd rfl (Or.inl rfl) (pe_tup (pa_cons pe_str (pa_cons (pe_ix ix_list (pe_ix ix_list (pv 5) (pe_ix ix_list (pv 16) pe_int (fun _ _ => rfl)) (fun _ _ => rfl)) pe_int (fun _ _ => rfl)) (pa_cons (pe_cal C__law_arguments (hr.mono (by decide)) (by rfl) (pa_cons (pv 0) (pa_cons (pv 13) (pa_cons (pe_ix ix_list (pe_ix ix_list (pv 1) (pe_ix ix_list (pv 16) pe_int (fun _ _ => rfl)) (fun _ _ => rfl)) pe_int (fun _ _ => rfl)) pa_nil)))) pa_nil)))))) (pss_cons (ps_set (i := 18) sc_law_program.nd rfl (Or.inl rfl) (pe_cal C__law_arguments (hr.mono (by decide)) (by rfl) (pa_cons (pv 0) (pa_cons (pv 13) (pa_cons (pe_ix ix_list (pe_ix ix_list (pv 1) (pe_ix ix_list (pv 16) pe_int (fun _ _ => rfl)) (fun _ _ => rfl)) pe_int (fun _ _ => rfl)) pa_nil))))) (pss_cons (ps_set (i := 19) sc_law_program.nd rfl (Or.inl rfl) (pe_cal C__law_arguments (hr.mono (by decide)) (by rfl) (pa_cons (pv 0) (pa_cons (pv 13) (pa_cons (pe_ix ix_list (pe_ix ix_list (pv 1) (pe_ix ix_list (pv 16) pe_int (fun _ _ => rfl)) (fun _ _ => rfl)) pe_int (fun _ _ => rfl)) pa_nil))))) (pss_one (ps_set (i := 17) sc_law_program.nd rfl (Or.inl rfl) (pe_tup (pa_cons pe_str (pa_cons (pe_cal C__law_pick (hr.mono (by decide)) (by rfl) (pa_cons (pv 0) (pa_cons (pv 13) pa_nil))) (pa_cons (pe_ix ix_list (pe_ix ix_list (pv 5) (pe_ix ix_list (pv 16) pe_int (fun _ _ => rfl)) (fun _ _ => rfl)) pe_int (fun _ _ => rfl)) (pa_cons (pv 18) (pa_cons (pe_ix ix_list (pe_ix ix_list (pv 5) (pe_ix ix_list (pv 16) pe_int (fun _ _ => rfl)) (fun _ _ => rfl)) pe_int (fun _ _ => rfl)) (pa_cons (pv 19) pa_nil)))))))))))))) (pss_one (ps_expr (pe_bm PySem.F.plainAttrs_list PySem.F.slot_list_append PySem.F.type_list_append mt_append (pv 14) (pa_cons (pe_callTy call_tuple_of (by rfl) B.tuple (by decide +kernel) (pa_cons (pe_op op_cat (pe_ix ix_list (pv 5) (pv 6) (fun _ _ => rfl)) (pe_lst (pa_cons (pv 17) pa_nil))) pa_nil)) pa_nil))))))))) (pss_one (ps_ret (pe_callTy call_tuple_of (by rfl) B.tuple (by decide +kernel) (pa_cons (pv 14) pa_nil))))))))))))), ?_⟩)
  · obtain ⟨b, rfl, _⟩ := h
    rfl
  · obtain ⟨b, rfl, hB, k⟩ := h
    refine q_raw (r_call1 (r_ev (ev_var rfl) fun H0 e0 => ⟨b, rfl, hB.e e0, fun a H1 qs S ha0 x1 ha hc hnd O => ?_⟩))
    have hS5 := O.len
    have hS0 := O.pos
    have hB0 := hB.e e0
    have hbn : H0 b ≠ none := fun z => by obtain ⟨_, _, _, _, h⟩ := hB0; rw [z] at h; cases h
    have hql := pd_len hc
    refine q_raw (r_call1 (r_ev (ev_var rfl) fun H2 e2 => ⟨a, S, rfl, ⟨_, e2 _ _ ha, pd_mapl hc fun q s ⟨_, t, _, h1, h2⟩ => ⟨q, t, rfl, e2 _ _ h1, e2 _ _ h2⟩⟩, O.ok, fun d H3 dvs hd2 e3 hd hdp => ?_⟩))
    refine q_asgL (el_names rfl) fun nm H4 hnm3 e4 hnm => ?_
    refine q_asgL (xs := []) (el_lst ea_nil (by decide)) fun df H5 hdf4 e5 hdf => ?_
    refine q_asgL (xs := []) (el_lst ea_nil (by decide)) fun bl H6 hbl5 e6 hbl => ?_
    have x0 : XB b H H1 := (xb e0).trans x1
    have hB1 := hB.x x0
    have e13 := e2.trans e3
    have e46 := e4.trans (e5.trans e6)
    have x6 : XB b H H6 := x0.e (e13.trans e46)
    have kn : ∀ {p : Addr} {H' : Hp}, XB b H H' → H' p = none → H p = none := fun {p H'} x hp => by
      cases z : H p with
      | none => rfl
      | some o =>
        have := x.1 p o (bx_b (hB.x x) hp) z
        rw [hp] at this
        cases this
    have hd1 : H1 d = none := fresh_back e2 hd2
    have hnm0 : H nm = none := kn (x0.e e13) hnm3
    have hdf0 : H df = none := kn (x0.e (e13.trans e4)) hdf4
    have hbl0 : H bl = none := kn (x0.e (e13.trans (e4.trans e5))) hbl5
    have nmdf : nm ≠ df := ne_of_none hnm hdf4
    have nmbl : nm ≠ bl := ne_of_none (e5 _ _ hnm) hbl5
    have dfbl : df ≠ bl := ne_of_none hdf hbl5
    obtain ⟨Mv, hMv⟩ : ∃ Mv : Addr → Prop, Mv = fun p => p = b ∨ p = nm ∨ p = df ∨ p = bl ∨ p ∈ qs := ⟨_, rfl⟩
    have Mb : Mv b := by rw [hMv]; exact .inl rfl
    have Mnm : Mv nm := by rw [hMv]; exact .inr (.inl rfl)
    have Mdf : Mv df := by rw [hMv]; exact .inr (.inr (.inl rfl))
    have Mbl : Mv bl := by rw [hMv]; exact .inr (.inr (.inr (.inl rfl)))
    have Mq : ∀ q ∈ qs, Mv q := fun q hq => by rw [hMv]; exact .inr (.inr (.inr (.inr hq)))
    have qat : ∀ {q : Addr}, q ∈ qs → ∃ t s, ¬ (q = a ∨ H0 q ≠ none) ∧ H1 q = some (.lst [.ref t, s]) := fun {q} hq => by
      obtain ⟨j, hj, rfl⟩ := List.getElem_of_mem hq
      obtain ⟨s, _, h0, t, _, h1, _⟩ := pd_get hc (List.getElem?_eq_getElem hj)
      exact ⟨t, _, h0, h1⟩
    have qb : ∀ q ∈ qs, q ≠ b := fun q hq z => by
      obtain ⟨_, _, h0, _⟩ := qat hq
      exact h0 (.inr (by rw [z]; exact hbn))
    have q0 : ∀ q ∈ qs, H q = none := fun q hq => by
      obtain ⟨_, _, h0, _⟩ := qat hq
      exact fresh_back e0 (Classical.byContradiction fun z => h0 (.inr z))
    -- what was known at H3, or earlier, is none of the new lists
    have nM : ∀ {p : Addr} {o : HO}, H3 p = some o → p ≠ b → p ∉ qs → ¬ Mv p := fun {p o} h h1 h2 => by
      rw [hMv]
      rintro (z | z | z | z | z)
      · exact h1 z
      · rw [z, hnm3] at h; cases h
      · have := e4 _ _ h; rw [z, hdf4] at this; cases this
      · have := e5 _ _ (e4 _ _ h); rw [z, hbl5] at this; cases this
      · exact h2 z
    have Ma : ¬ Mv a := nM (e13 _ _ ha) (fun z => by rw [z] at ha0; exact hbn ha0) fun z => by
      obtain ⟨_, _, h0, _⟩ := qat z
      exact h0 (.inl rfl)
    have Md : ¬ Mv d := nM hd (bx_b (hB1.e e2) hd2) fun z => by
      obtain ⟨_, _, _, h0⟩ := qat z
      rw [hd1] at h0
      cases h0
    have a6 : H6 a = some (.lst (qs.map V.ref)) := e46 _ _ (e13 _ _ ha)
    have d6 : H6 d = some (.lst dvs) := e46 _ _ hd
    have doms6 : ∀ k, k < S.length → ∃ p, dvs[k]? = some (.ref p) ∧ ¬ Mv p ∧ H6 p = some (.lst ((domsOf (sucS S) S.length k).map intV)) := fun k hk => by
      obtain ⟨x, hx, p, rfl, hp⟩ := pd_get' hdp (i := k) (y := domsOf (sucS S) S.length k) (by unfold domsS; rw [List.getElem?_map, List.getElem?_range hk]; rfl)
      obtain ⟨dl, ds, _, n, hbx⟩ := (hB1.e e13)
      refine ⟨p, hx, nM hp (nats_ne hp hbx) fun z => ?_, e46 _ _ hp⟩
      obtain ⟨_, _, _, h0⟩ := qat z
      exact nats_ne hp (e13 _ _ h0) rfl
    have cells6 : ∀ k q, qs[k]? = some q → ∃ (t : Addr) (s : List Nat × Nat), S[k]? = some s ∧ ¬ Mv t ∧ H6 t = some (.lst (s.1.map intV)) ∧ H6 q = some (.lst [.ref t, intV s.2]) := fun k q hq => by
      obtain ⟨s, hs, h0, t, h1, h2, h3⟩ := pd_get hc hq
      have h3' := e13 _ _ h3
      refine ⟨t, s, hs, nM h3' (fun z => h1 (.inr (by rw [z]; exact hbn))) fun z => ?_, e46 _ _ h3', e46 _ _ (e13 _ _ h2)⟩
      obtain ⟨_, _, _, h4⟩ := qat z
      exact nats_ne h3' (e13 _ _ h4) rfl
    have dl5 : ∀ k, (domsOf (sucS S) S.length k).length ≤ 20 := fun k => by
      have := List.length_filter_le (fun o => decide (Dom (sucS S) o k)) (List.range S.length)
      rw [List.length_range] at this
      exact Nat.le_trans this (by omega)
    have hnm6 : H6 nm = some (.lst (vnames.map V.str)) := e6 _ _ (e5 _ _ hnm)
    have hdf6 : H6 df = some (.lst []) := e6 _ _ hdf
    have q1 : ∀ {p : Addr} {H' : Hp}, Ex H1 H' → H' p = none → p ∉ qs := fun {p H'} e hp z => by
      obtain ⟨_, _, _, h4⟩ := qat z
      have := e _ _ h4
      rw [hp] at this
      cases this
    have nmq : nm ∉ qs := q1 e13 hnm3
    have dfq : df ∉ qs := q1 (e13.trans e4) hdf4
    have blq : bl ∉ qs := q1 (e13.trans (e4.trans e5)) hbl5
    clear hc qat nM hdp e46 kn q1
    refine q_forR1 (ea1 (ev_lenL (ev_var rfl) a6)) (by rw [List.length_map]; omega) (fun i σ' H' => (∃ o6 o7 o8 o9 o10 o11 o12 o13 o14 o15 o16 o17 o18 o19 o20, σ' = [some (.ref b), some (.ref a), some (.ref d), some (.ref nm), some (.ref df), some (.ref bl), o6, o7, o8, o9, o10, o11, o12, o13, o14, o15, o16, o17, o18, o19, o20]) ∧ Fr b H Mv H6 H' ∧
        ∃ (Gs : List PB) (dfv blv : List V) (u : Nat), Gs.length = i ∧ Blks S Gs u ∧ H' nm = some (.lst ((vnames.drop u).map V.str)) ∧ H' df = some (.lst dfv) ∧ H' bl = some (.lst blv) ∧ Paired (LstM Mv H') dfv (Gs.map pbdefs) ∧ Paired (BlM Mv H') blv Gs ∧
        ∀ k q, qs[k]? = some q → ∃ (t : Addr) (s : List Nat × Nat) (c : Nat), S[k]? = some s ∧ ¬ Mv t ∧ H6 t = some (.lst (s.1.map intV)) ∧ H' q = some (.lst [.ref t, intV c]) ∧ ∀ B : PB, Gs[k]? = some B → c = B.params.length)
      (fun H7 e7 => ⟨⟨none, none, none, none, none, none, none, none, none, none, none, none, none, none, none, rfl⟩, (Fr.refl x6).e e7, [], [], [], 0, rfl, ⟨Nat.zero_le _, rfl, (fun k B h => by simp at h), fun B h => by simp at h⟩, e7 _ _ hnm6, e7 _ _ hdf6, e7 _ _ hbl, .nil, .nil, fun k q hq => by
        obtain ⟨t, s, h1, h2, h3, h4⟩ := cells6 k q hq
        exact ⟨t, s, s.2, h1, h2, h3, e7 _ _ h4, fun B (h : ([] : List PB)[k]? = some B) => by simp at h⟩⟩) ?_ ?_
    · rintro i σ' H' hi ⟨⟨o6, o7, o8, o9, o10, o11, o12, o13, o14, o15, o16, o17, o18, o19, o20, rfl⟩, fr, Gs, dfv, blv, u, hGl, bk, hnmv, hdfv, hblv, pdf, pbl, cells⟩
      have hin : i < S.length := by rw [List.length_map, hql] at hi; omega
      have hqi : qs[i]? = some qs[i] := List.getElem?_eq_getElem (by omega)
      obtain ⟨q, hq⟩ : ∃ q, q = qs[i] := ⟨_, rfl⟩
      rw [← hq] at hqi
      have hqm : q ∈ qs := List.mem_of_getElem? hqi
      obtain ⟨t, s, c0, hs, Mt, ht6, hqv, _⟩ := cells i q hqi
      have hu := bk.ule
      have hvl : vnames.length = 16 := rfl
      have hbx := hB.x fr.x
      have aV : H' a = some (.lst (qs.map V.ref)) := fr.k _ _ Ma a6
      have dV : H' d = some (.lst dvs) := fr.k _ _ Md d6
      obtain ⟨dp, hdp, Mdp, hdp6⟩ := doms6 i hin
      have dpV := fr.k _ _ Mdp hdp6
      have hqr : (qs.map V.ref)[i]? = some (.ref q) := by rw [List.getElem?_map, hqi]; rfl
      have nq : nm ≠ q := fun z => nmq (by rw [z]; exact hqm)
      have evq : ∀ {σ : L2.St} {H2 : Hp}, σ[1]? = some (some (.ref a)) → σ[6]? = some (some (intV i)) → H2 a = some (.lst (qs.map V.ref)) → Ev (tOp (rIxL K) (tVar 1) (tVar 6)) σ H2 (.ref q) := fun h1 h2 h3 => ev_ixL (ev_var h1) h3 (ev_var h2) (atI_nat (j := i) hqr)
      refine q_asg (v := .int ((((qs.map V.ref).length : Nat) : Int) - 1 - (i : Int))) (ev_op (ev_op (ev_lenL (ev_var rfl) aV) ev_c rv_I0) (ev_var rfl) rv_I0) fun H7 e7 => ?_
      obtain ⟨L, hL⟩ : ∃ L : Int, L = (((qs.map V.ref).length : Nat) : Int) - 1 - (i : Int) := ⟨_, rfl⟩
      rw [← hL]
      rw [List.length_map, hql] at hL
      have hL0 : 0 ≤ L := by omega
      refine q_asg (ev_min2 (ev_ixL (evq rfl rfl (e7 _ _ aV)) (e7 _ _ hqv) ev_c (atI_nat (j := 1) rfl)) (ev_op (ev_op (ev_lenL (ev_var rfl) (e7 _ _ hnmv)) (ev_op ev_c (ev_var rfl) (rv_I (.inl (by decide)))) rv_I0) ev_c rv_I0)) fun H8 e8 => ?_
      have e78 := e7.trans e8
      obtain ⟨ct, hct, hct2⟩ : ∃ ct : Int, ct = (if ((((vnames.drop u).map V.str).length : Nat) : Int) - 2 * L - 1 < (c0 : Int) then ((((vnames.drop u).map V.str).length : Nat) : Int) - 2 * L - 1 else (c0 : Int)) ∧ ct ≤ 16 - (u : Int) := by
        refine ⟨_, rfl, ?_⟩
        rw [List.length_map, List.length_drop, hvl]
        split <;> omega
      rw [← hct]
      clear hct
      obtain ⟨c, hc⟩ : ∃ c : Nat, c = ct.toNat := ⟨_, rfl⟩
      have hmax : V.int (if ct > 0 then ct else 0) = intV c := by
        show V.int _ = V.int (c : Int)
        congr 1
        split <;> omega
      have hcu : u + c ≤ 16 := by omega
      obtain ⟨F3, hF3⟩ : ∃ F3 : Addr → Prop, F3 = fun p => p = b ∨ p = nm ∨ p = q := ⟨_, rfl⟩
      have F3b : F3 b := by rw [hF3]; exact .inl rfl
      have F3nm : F3 nm := by rw [hF3]; exact .inr (.inl rfl)
      have F3q : F3 q := by rw [hF3]; exact .inr (.inr rfl)
      have F3M : ∀ p, F3 p → Mv p := fun p h => by
        rw [hF3] at h
        rcases h with h | h | h
        · rw [h]; exact Mb
        · rw [h]; exact Mnm
        · rw [h]; exact Mq q hqm
      refine q_setL (l := q) (xs := [.ref t, intV c0]) (j := 1) (v := intV c) (e78 _ _ hqv) (by rw [← hmax]; exact ev_max2 ev_c (ev_var rfl)) (evq rfl rfl (e78 _ _ aV)) ev_c (Nat.lt_succ_self 1) fun H9 e9 => ?_
      show tSeq _ _ _ _ (upd H9 q (.lst [.ref t, intV c]))
      have e79 := e78.trans e9
      have g10 : Fr b H F3 H' (upd H9 q (.lst [.ref t, intV c])) := ((Fr.refl fr.x).e e79).upd hB (q0 q hqm) (.inl F3q) (e79 _ _ hqv)
      have nm10 : upd H9 q (.lst [.ref t, intV c]) nm = some (.lst ((vnames.drop u).map V.str)) := by rw [upd_ne nq]; exact e79 _ _ hnmv
      have q10 : upd H9 q (.lst [.ref t, intV c]) q = some (.lst [.ref t, intV c]) := upd_same
      generalize upd H9 q (.lst [.ref t, intV c]) = HA at g10 nm10 q10
      have kn3 : ∀ {p : Addr} {Hc : Hp}, Fr b H F3 H' Hc → (∃ o, Hc nm = some o) → (∃ o, Hc q = some o) → Hc p = none → H' p = none := fun {p Hc} g ⟨o1, h1⟩ ⟨o2, h2⟩ hp => by
        cases z : H' p with
        | none => rfl
        | some o =>
          have n3 : ¬ F3 p := by
            rw [hF3]
            rintro (y | y | y)
            · exact bx_b (hB.x g.x) hp y
            · rw [y, h1] at hp; cases hp
            · rw [y, h2] at hp; cases hp
          have := g.k _ _ n3 z
          rw [hp] at this
          cases this
      have knH : ∀ {p : Addr}, H' p = none → H p = none := fun {p} hp => by
        cases z : H p with
        | none => rfl
        | some o =>
          have := fr.x.1 p o (bx_b hbx hp) z
          rw [hp] at this
          cases this
      refine q_raw (r_lcR1 (m := c) (ea1 (ev_ixL (evq rfl rfl (g10.k _ _ (fun z => Ma (F3M _ z)) aV)) q10 ev_c (atI_nat (j := 1) rfl))) (by omega)
        (fun D j H'' => Fr b H F3 H' H'' ∧ H'' nm = some (.lst ((vnames.drop (u + j)).map V.str)) ∧ H'' q = some (.lst [.ref t, intV c]) ∧ H'' D = some (.lst (((vnames.drop u).take j).map V.str))) (fun _ => rfl)
        (fun D H1 hD e1 h1 => ⟨g10.e e1, e1 _ _ nm10, e1 _ _ q10, h1⟩) (fun D j H'' hD hj p => ?_) fun pl HB hpl p => ?_)
      · obtain ⟨g, h1, h2, h3⟩ := p
        have hj : u + j < 16 := by omega
        rw [vdrop_at hj, List.map_cons] at h1
        have nDnm : nm ≠ D := ne_of_none nm10 hD
        have nDq : q ≠ D := ne_of_none q10 hD
        have hD' : H' D = none := kn3 g10 ⟨_, nm10⟩ ⟨_, q10⟩ hD
        refine r_pop0 (K := K) (ev_var rfl) h1 fun H1 e1 => ⟨_, by rw [upd_ne nDnm.symm]; exact e1 _ _ h3, sz_lt (by rw [List.length_map, List.length_take, List.length_drop, hvl]; omega), ?_⟩
        have ga := (g.e e1).upd (ys := (vnames.drop (u + j + 1)).map V.str) hB hnm0 (.inl F3nm) (e1 _ _ h1)
        refine ⟨ga.upd hB (knH hD') (.inr hD') (by rw [upd_ne nDnm.symm]; exact e1 _ _ h3), by rw [upd_ne nDnm, upd_same]; rfl, by rw [upd_ne nDq, upd_ne nq.symm]; exact e1 _ _ h2, ?_⟩
        rw [upd_same]
        have : (vnames.drop u).take (j + 1) = (vnames.drop u).take j ++ [vname (u + j)] := by
          refine take_succ ?_
          rw [List.getElem?_drop]
          unfold vnames
          rw [List.getElem?_map, List.getElem?_range hj]
          rfl
        rw [this, List.map_append]
        rfl
      obtain ⟨gB, nmB, qB, plB⟩ := p
      rw [Int.toNat_natCast] at nmB plB
      obtain ⟨ps, hps⟩ : ∃ ps, ps = (vnames.drop u).take c := ⟨_, rfl⟩
      rw [← hps] at plB
      have hpsl : ps.length = c := by rw [hps, List.length_take, List.length_drop, hvl]; omega
      have hdps : defsP Gs ++ ps = vnames.take (u + c) := by rw [bk.nd, hps, ← List.take_add]
      have hpl' : H' pl = none := kn3 g10 ⟨_, nm10⟩ ⟨_, q10⟩ hpl
      refine q_asgL (xs := []) (el_lst ea_nil (by decide)) fun rw' HC hrwB eC hrw => ?_
      have hrw' : H' rw' = none := kn3 gB ⟨_, nmB⟩ ⟨_, qB⟩ hrwB
      have nrpl : pl ≠ rw' := ne_of_none plB hrwB
      have nrnm : nm ≠ rw' := ne_of_none nmB hrwB
      have nrq : q ≠ rw' := ne_of_none qB hrwB
      have gC := gB.e eC
      have hbC := hB.x gC.x
      have nb : ∀ {p : Addr}, H' p = none → p ≠ b := fun {p} hp => bx_b hbx hp
      refine q_forN (r_op (r_draw (m := 4) (ev_var rfl) ev_c (by decide) hbC fun dn HD hdn xD => r_ev (ev_intB (ev_andV (ev_op (ev_var rfl) ev_c (rv_eq rfl)) fun _ => ev_op (ev_lenL (ev_var rfl) (xD.lst (nb hpl') (eC _ _ plB))) ev_c (rv_eq rfl))) fun HE eE => r_I0 ?_))
      obtain ⟨T, hT, hT4, hT0⟩ : ∃ T : Nat, V.int ((dn : Int) + (if (decide (V.int (i : Int) = V.int 0) && decide (V.int (((ps.map V.str).length : Nat) : Int) = V.int 0)) = true then 1 else 0)) = intV T ∧ T ≤ 4 ∧ (i = 0 → ps = [] → 0 < T) := by
        by_cases z : (decide (V.int (i : Int) = V.int 0) && decide (V.int (((ps.map V.str).length : Nat) : Int) = V.int 0)) = true
        · refine ⟨dn + 1, by rw [if_pos z]; rfl, by omega, fun _ _ => Nat.succ_pos _⟩
        · refine ⟨dn, by rw [if_neg z]; show V.int ((dn : Int) + 0) = V.int (dn : Int); rw [Int.add_zero], by omega, fun h1 h2 => ?_⟩
          refine absurd ?_ z
          subst h1
          rw [h2]
          decide
      show ForN _ _ _ _ (V.int ((dn : Int) + (if (decide (V.int (i : Int) = V.int 0) && decide (V.int (((ps.map V.str).length : Nat) : Int) = V.int 0)) = true then 1 else 0))) HE
      rw [hT]
      have gE : Fr b H F3 H' HE := (gC.xb hB F3b xD).e eE
      have xDE : XB b HC HE := xD.e eE
      obtain ⟨sc, hsc⟩ : ∃ sc, sc = scopeOf (Gs.map pbdefs) (domsOf (sucS S) S.length i) := ⟨_, rfl⟩
      have nmE := xDE.lst (bx_b hB hnm0) (eC _ _ nmB)
      have qE := xDE.lst (bx_b hB (q0 q hqm)) (eC _ _ qB)
      have plE := xDE.lst (nb hpl') (eC _ _ plB)
      have rwE := xDE.lst (nb hrw') hrw
      have ndf3 : ¬ F3 df := fun z => by
        rw [hF3] at z
        rcases z with z | z | z
        · exact bx_b hB hdf0 z
        · exact nmdf z.symm
        · exact dfq (by rw [z]; exact hqm)
      have nbl3 : ¬ F3 bl := fun z => by
        rw [hF3] at z
        rcases z with z | z | z
        · exact bx_b hB hbl0 z
        · exact nmbl z.symm
        · exact blq (by rw [z]; exact hqm)
      have hLb : ∀ L ∈ Gs.map pbdefs, L.length ≤ 100 := fun L hL => by
        obtain ⟨B, hB2, rfl⟩ := List.mem_map.mp hL
        obtain ⟨k2, hk2, rfl⟩ := List.getElem_of_mem hB2
        obtain ⟨_, h1, h2, _⟩ := bk.nm k2 _ (List.getElem?_eq_getElem hk2)
        have h3 := List.length_filterMap_le dby Gs[k2].ins
        unfold pbdefs
        rw [List.length_append]
        omega
      have hscl : sc.length ≤ 2000 := by
        rw [hsc]
        have h1 := scopeOf_len hLb (domsOf (sucS S) S.length i)
        have h2 : (domsOf (sucS S) S.length i).length * 100 ≤ 20 * 100 := Nat.mul_le_mul_right _ (dl5 i)
        omega
      have hpl16 : ps.length ≤ 16 := by omega
      refine forN (by omega) (fun j σ' H'' => (∃ o9 o12 o13, σ' = [some (.ref b), some (.ref a), some (.ref d), some (.ref nm), some (.ref df), some (.ref bl), some (intV i), some (.int L), some (.int ct), o9, some (.ref pl), some (.ref rw'), o12, o13, o14, o15, o16, o17, o18, o19, o20]) ∧ Fr b H F3 H' H'' ∧
          ∃ (rvs : List V) (rs : List Row) (u' : Nat), H'' nm = some (.lst ((vnames.drop u').map V.str)) ∧ H'' q = some (.lst [.ref t, intV c]) ∧ H'' pl = some (.lst (ps.map V.str)) ∧ H'' rw' = some (.lst rvs) ∧ Paired (RowAt H'') rvs rs ∧ u' ≤ 16 ∧ defsP Gs ++ ps ++ rs.filterMap dby = vnames.take u' ∧ rs.length ≤ j ∧ RowsOk sc ps rs ∧ (i = 0 → ps = [] → 0 < j → rs.filterMap dby ≠ []))
        ⟨⟨_, _, _, rfl⟩, gE, [], [], u + c, nmE, qE, plE, rwE, .nil, hcu, by rw [← hdps]; simp, Nat.le_refl _, (fun j r h => by simp at h), fun _ _ h => absurd h (Nat.lt_irrefl _)⟩ ?_ ?_
      · rintro j σ' HF hj ⟨⟨o9, o12, o13, rfl⟩, gF, rvs, rs, u', nmF, qF, plF, rwF, prs, hu', hdef, hrl, hro, hz⟩
        have hplain : ∀ r ∈ rs, Plain r := fun r hr => by
          obtain ⟨k2, hk2, rfl⟩ := List.getElem_of_mem hr
          obtain ⟨x, hx⟩ := hro k2 _ (List.getElem?_eq_getElem hk2)
          exact hx.plain
        have hfl := List.length_filterMap_le dby rs
        obtain ⟨xs, hxs⟩ : ∃ xs, xs = sc ++ ps ++ rs.filterMap dby := ⟨_, rfl⟩
        have hxl : xs.length ≤ 2100 := by rw [hxs, List.length_append, List.length_append]; omega
        have dfF := gF.k _ _ ndf3 hdfv
        refine q_asgL (el_catNN (el_catN (el_scope (ev_ixL (ev_var rfl) (gF.k _ _ (fun z => Md (F3M _ z)) dV) (ev_var rfl) (atI_nat (j := i) hdp)) (ev_var rfl) (gF.k _ _ (fun z => Mdp (F3M _ z)) dpV) dfF (Paired.mapP pdf fun v xs h => (h.k (gF.k.wide F3M)).at) (dl5 i) hLb) (ev_var rfl) plF (by rw [← hsc, List.length_map, List.length_map]; omega)) (el_rowdefs rfl (ev_var rfl) rwF prs (by omega) hplain) (by rw [← hsc, List.length_append, List.length_map, List.length_map, List.length_map]; omega)) fun scl HG hscl eG hG => ?_
        rw [← hsc, ← List.map_append, ← List.map_append, ← hxs] at hG
        have gG := gF.e eG
        have hscl' : H' scl = none := kn3 gF ⟨_, nmF⟩ ⟨_, qF⟩ hscl
        have nmG := eG _ _ nmF
        have qG := eG _ _ qF
        have plG := eG _ _ plF
        have rwG := eG _ _ rwF
        have prG : Paired (RowAt HG) rvs rs := Paired.mapP prs fun v r h => h.mono (tx eG)
        refine s_when (D := { nx := _, rt := _, bk := _, ct := _ }) (et_or (et_T (ev_op (ev_lenL (ev_var rfl) nmG) (ev_op (ev_op ev_c (ev_var rfl) (rv_I (.inl (by decide)))) ev_c rv_I0) rv_I0)) fun _ => et_and (et_T (ev_op (ev_var rfl) ev_c (rv_eq rfl))) fun _ => et_T (ev_op (ev_lenL (ev_var rfl) hG) ev_c (rv_eq rfl))) (fun hb HH eH => ?_) (fun hb HH eH => ?_)
        · have hu16 : u' < 16 := by
            rcases Bool.or_eq_true_iff.mp hb with h | h
            · have h : (2 * L + 1 : Int) < ((((vnames.drop u').map V.str).length : Nat) : Int) := of_decide_eq_true h
              rw [List.length_map, List.length_drop, hvl] at h
              omega
            · obtain ⟨h1, h2⟩ := Bool.and_eq_true_iff.mp h
              have h1 : V.int (i : Int) = V.int 0 := of_decide_eq_true h1
              have h2 : V.int (((xs.map V.str).length : Nat) : Int) = V.int 0 := of_decide_eq_true h2
              have h1 := V.int.inj h1
              have h2 := V.int.inj h2
              rw [List.length_map] at h2
              have hG0 : Gs = [] := List.length_eq_zero_iff.mp (by omega)
              have hx0 : xs = [] := List.length_eq_zero_iff.mp (by omega)
              rw [hxs] at hx0
              obtain ⟨h3, h4⟩ := List.append_eq_nil_iff.mp hx0
              have h5 := (List.append_eq_nil_iff.mp h3).2
              rw [hG0, h4, h5] at hdef
              have := congrArg List.length hdef
              rw [List.length_take, hvl] at this
              simp [defsP] at this
              omega
          have hmv := vdrop_at hu16
          refine q_raw (r_call3 (r_ev (ev_var rfl) fun HI eI => r_ev (ev_ixL (v := .str (vname u')) (ev_var rfl) (eI _ _ (eH _ _ nmG)) ev_c (by rw [hmv]; exact at0)) fun HJ eJ => r_ev (ev_var rfl) fun HK eK => ⟨b, scl, vname u', xs, rfl, hB.x (gG.e (eH.trans (eI.trans (eJ.trans eK)))).x, (eH.trans (eI.trans (eJ.trans eK))) _ _ hG, Nat.le_trans hxl (by decide), fun v r HM hI hR xM => ?_⟩))
          have eGK := eH.trans (eI.trans (eJ.trans eK))
          have xGM : XB b HG HM := (xb eGK).trans xM
          have gM : Fr b H F3 H' HM := (gG.e eGK).xb hB F3b xM
          have nmM := xGM.lst (bx_b hB hnm0) nmG
          have qM := xGM.lst (bx_b hB (q0 q hqm)) qG
          have plM := xGM.lst (nb hpl') plG
          have rwM := xGM.lst (nb hrw') rwG
          have prM : Paired (RowAt HM) rvs rs := Paired.mapP prG fun v r h => h.mono (xGM.tx (hB.x gG.x))
          have fin : ∀ (DD : Ends), (∀ σ' H'', ((∃ o9 o12 o13, σ' = [some (.ref b), some (.ref a), some (.ref d), some (.ref nm), some (.ref df), some (.ref bl), some (intV i), some (.int L), some (.int ct), o9, some (.ref pl), some (.ref rw'), o12, o13, o14, o15, o16, o17, o18, o19, o20]) ∧ Fr b H F3 H' H'' ∧
              ∃ (rvs : List V) (rs : List Row) (u' : Nat), H'' nm = some (.lst ((vnames.drop u').map V.str)) ∧ H'' q = some (.lst [.ref t, intV c]) ∧ H'' pl = some (.lst (ps.map V.str)) ∧ H'' rw' = some (.lst rvs) ∧ Paired (RowAt H'') rvs rs ∧ u' ≤ 16 ∧ defsP Gs ++ ps ++ rs.filterMap dby = vnames.take u' ∧ rs.length ≤ j + 1 ∧ RowsOk sc ps rs ∧ (i = 0 → ps = [] → 0 < j + 1 → rs.filterMap dby ≠ [])) → DD.nx σ' H'') →
              ∀ (o9 : Option V) (u2 : Nat) (HN : Hp), Fr b H F3 H' HN → TX HM HN → HN nm = some (.lst ((vnames.drop u2).map V.str)) → HN q = some (.lst [.ref t, intV c]) → HN pl = some (.lst (ps.map V.str)) → HN rw' = some (.lst rvs) → u2 ≤ 16 → defsP Gs ++ ps ++ (rs ++ [r]).filterMap dby = vnames.take u2 → (i = 0 → ps = [] → (rs ++ [r]).filterMap dby ≠ []) →
              tDrop (tBM K "list" rAppend (tVar 11) (tCons (tVar 12) tNil)) DD [some (.ref b), some (.ref a), some (.ref d), some (.ref nm), some (.ref df), some (.ref bl), some (intV i), some (.int L), some (.int ct), o9, some (.ref pl), some (.ref rw'), some v, some (.ref scl), o14, o15, o16, o17, o18, o19, o20] HN := by
            intro DD hDD o9 u2 HN gN tN nmN qN plN rwN hu2 hd2 hz2
            have hrvl := pd_len prM
            refine s_app (D := DD) (v := v) rwN (ev_var rfl) (ev_var rfl) (by omega) fun HO eO => ?_
            have gP := (gN.e eO).upd (ys := rvs ++ [v]) hB (knH hrw') (.inr hrw') (eO _ _ rwN)
            have tP : TX HM (L2.upd HO rw' (.lst (rvs ++ [v]))) := tN.trans ((tx eO).trans (tx_of (eO _ _ rwN) fun xs z => by cases z))
            exact hDD _ _ ⟨⟨_, _, _, rfl⟩, gP, rvs ++ [v], rs ++ [r], u2, by rw [upd_ne nrnm]; exact eO _ _ nmN, by rw [upd_ne nrq]; exact eO _ _ qN, by rw [upd_ne nrpl]; exact eO _ _ plN, upd_same, pd_snoc (Paired.mapP prM fun v r h => h.mono tP) (hR.mono tP), hu2, hd2, by rw [List.length_append, List.length_singleton]; omega, hro.snoc (by rw [hxs] at hI; exact hI), fun h1 h2 _ => hz2 h1 h2⟩
          refine q_when (et_np (ev_var rfl) hR hI.plain) (fun hb HN eN => ?_) (fun hb HN eN => ?_)
          · have hr1 : dby r = some (vname u') := by
              rcases hI.dby with z | z
              · exact z
              · rw [z.1] at hb; cases hb
            have nmN := eN _ _ nmM
            rw [hmv, List.map_cons] at nmN
            refine r_drop (r_pop0 (K := K) (ev_var rfl) nmN fun HO eO => ?_)
            have gO := ((gM.e eN).e eO).upd (ys := (vnames.drop (u' + 1)).map V.str) hB hnm0 (.inl F3nm) (eO _ _ nmN)
            have e2 := eN.trans eO
            refine fin _ ?_ (some (intV j)) (u' + 1) _ gO ((tx e2).trans (tx_of (eO _ _ nmN) fun xs z => by cases z)) upd_same (by rw [upd_ne nq.symm]; exact e2 _ _ qM) (by rw [upd_ne (fun z => by rw [z, hnmv] at hpl'; cases hpl')]; exact e2 _ _ plM) (by rw [upd_ne nrnm.symm]; exact e2 _ _ rwM) (by omega) ?_ fun _ _ z => ?_
            · exact fun _ _ h => h
            · rw [List.filterMap_append, vtake_at hu16, ← hdef, ← List.append_assoc]
              congr 1
              show [r].filterMap dby = _
              rw [List.filterMap_cons, hr1]
              rfl
            · rw [List.filterMap_append] at z
              have := (List.append_eq_nil_iff.mp z).2
              rw [List.filterMap_cons, hr1] at this
              cases this
          · have hr1 : dby r = none ∧ xs ≠ [] := by
              rcases hI.dby with z | z
              · rw [z] at hb; cases hb
              · exact z
            refine fin _ ?_ (some (intV j)) u' HN (gM.e eN) (tx eN) (eN _ _ nmM) (eN _ _ qM) (eN _ _ plM) (eN _ _ rwM) hu' ?_ fun h1 h2 z => hr1.2 ?_
            · exact fun _ _ h => h
            · rw [List.filterMap_append, List.filterMap_cons, hr1.1]
              show defsP Gs ++ ps ++ (rs.filterMap dby ++ []) = _
              rw [List.append_nil]
              exact hdef
            · have hG0 : Gs = [] := List.length_eq_zero_iff.mp (by omega)
              rw [List.filterMap_append] at z
              rw [hxs, (List.append_eq_nil_iff.mp z).1, h2, hsc, hG0]
              unfold scopeOf
              simp
        · refine ⟨⟨_, _, _, rfl⟩, gG.e eH, rvs, rs, u', eH _ _ nmG, eH _ _ qG, eH _ _ plG, eH _ _ rwG, Paired.mapP prG fun v r h => h.mono (tx eH), hu', hdef, by omega, hro, fun h1 h2 _ h3 => ?_⟩
          have hG0 : Gs = [] := List.length_eq_zero_iff.mp (by omega)
          have : xs = [] := by rw [hxs, hsc, h2, h3, hG0]; unfold scopeOf; simp
          rw [this, h1] at hb
          have := (Bool.or_eq_false_iff.mp hb).2
          cases this
      · rintro σ' HF ⟨⟨o9, o12, o13, rfl⟩, gF, rvs, rs, u', nmF, qF, plF, rwF, prs, hu', hdef, hrl, hro, hz⟩
        have hplain : ∀ r ∈ rs, Plain r := fun r hr => by
          obtain ⟨k2, hk2, rfl⟩ := List.getElem_of_mem hr
          obtain ⟨x, hx⟩ := hro k2 _ (List.getElem?_eq_getElem hk2)
          exact hx.plain
        have hfl := List.length_filterMap_le dby rs
        have dfF := gF.k _ _ ndf3 hdfv
        have blF := gF.k _ _ nbl3 hblv
        have hdfl := pd_len pdf
        have hbll := pd_len pbl
        rw [List.length_map] at hdfl
        obtain ⟨Bn, hBn⟩ : ∃ Bn : PB, Bn = ⟨bname i, ps, rs, .ret "x"⟩ := ⟨_, rfl⟩
        have hpb : pbdefs Bn = ps ++ rs.filterMap dby := by rw [hBn]; rfl
        have alM : ∀ {p : Addr}, H' p = none → ¬ Mv p := fun {p} hp z => by
          rw [hMv] at z
          rcases z with z | z | z | z | z
          · exact nb hp z
          · rw [z, hnmv] at hp; cases hp
          · rw [z, hdfv] at hp; cases hp
          · rw [z, hblv] at hp; cases hp
          · obtain ⟨k2, hk2, e⟩ := List.getElem_of_mem z
            obtain ⟨_, _, _, _, _, _, h1, _⟩ := cells k2 p (by rw [List.getElem?_eq_getElem hk2, e])
            rw [hp] at h1
            cases h1
        refine q_appL dfF (ev_var rfl) (el_catL (ev_var rfl) plF (el_rowdefs rfl (ev_var rfl) rwF prs (by omega) hplain) (by rw [List.length_map, List.length_map]; omega)) (by omega) fun p1 HG hp1 eG h1 => ?_
        rw [← List.map_append, ← hpb] at h1
        have hp1' : H' p1 = none := kn3 gF ⟨_, nmF⟩ ⟨_, qF⟩ hp1
        have n1df : p1 ≠ df := fun z => by rw [z, dfF] at hp1; cases hp1
        have gG := (gF.wide F3M).e eG
        have gH := gG.upd (ys := dfv ++ [.ref p1]) hB hdf0 (.inl Mdf) (eG _ _ dfF)
        have tH : TX HF (L2.upd HG df (.lst (dfv ++ [.ref p1]))) := (tx eG).trans (tx_of (eG _ _ dfF) fun xs z => by cases z)
        have qdf : ∀ q2 ∈ qs, q2 ≠ df := fun q2 h z => dfq (by rw [← z]; exact h)
        have qbl : ∀ q2 ∈ qs, q2 ≠ bl := fun q2 h z => blq (by rw [← z]; exact h)
        have eH : ∀ {p : Addr} {o : HO}, p ≠ df → HF p = some o → L2.upd HG df (.lst (dfv ++ [.ref p1])) p = some o := fun {p o} n h => by rw [upd_ne n]; exact eG _ _ h
        have nmH := eH nmdf nmF
        have blH := eH dfbl.symm blF
        have dfH : L2.upd HG df (.lst (dfv ++ [.ref p1])) df = some (.lst (dfv ++ [.ref p1])) := upd_same
        have plH := eH (fun z => by rw [z, hdfv] at hpl'; cases hpl') plF
        have rwH := eH (fun z => by rw [z, hdfv] at hrw'; cases hrw') rwF
        have p1H : L2.upd HG df (.lst (dfv ++ [.ref p1])) p1 = some (.lst ((pbdefs Bn).map V.str)) := by rw [upd_ne n1df]; exact h1
        have bkH : ∀ {p : Addr}, L2.upd HG df (.lst (dfv ++ [.ref p1])) p = none → H' p = none := fun {p} hp => by
          have n : p ≠ df := fun z => by rw [z, upd_same] at hp; cases hp
          rw [upd_ne n] at hp
          exact kn3 gF ⟨_, nmF⟩ ⟨_, qF⟩ (fresh_back eG hp)
        generalize L2.upd HG df (.lst (dfv ++ [.ref p1])) = HH at gH tH eH nmH blH dfH plH rwH p1H bkH
        refine r_app (ev_var rfl) blH fun HI eI => r_lst (r_cons (r_ev (ev_bname rfl (by omega)) fun HJ eJ => r_cons ((eu_tuple (ev_var rfl) ((eI.trans eJ) _ _ plH)) HJ (Ex.refl HJ) _ fun p2 HK hp2 eK h2 => r_cons ((eu_tuple (ev_var rfl) ((eI.trans (eJ.trans eK)) _ _ rwH)) HK (Ex.refl HK) _ fun p3 HL hp3 eL h3 => r_nil ⟨(by show 3 ≤ sizeLine; decide), fun p4 hp4 => ?_⟩))))
        have eHL := eI.trans (eJ.trans (eK.trans eL))
        have hp4' : H' p4 = none := bkH (fresh_back eHL hp4)
        have eHM : Ex HH (L2.upd HL p4 (.lst [.str (bname i), .ref p2, .ref p3])) := eHL.trans (Ex.new hp4)
        have eKM : Ex HK (L2.upd HL p4 (.lst [.str (bname i), .ref p2, .ref p3])) := eL.trans (Ex.new hp4)
        have eLM : Ex HL (L2.upd HL p4 (.lst [.str (bname i), .ref p2, .ref p3])) := Ex.new hp4
        have p4M : L2.upd HL p4 (.lst [.str (bname i), .ref p2, .ref p3]) p4 = some (.lst [.str (bname i), .ref p2, .ref p3]) := upd_same
        generalize L2.upd HL p4 (.lst [.str (bname i), .ref p2, .ref p3]) = HM at eHM eKM eLM p4M
        refine ⟨bl, blv, .ref p4, rfl, rfl, eHM _ _ blH, sz_lt (by omega), ?_⟩
        have gZ := (gH.e eHM).upd (ys := blv ++ [.ref p4]) hB hbl0 (.inl Mbl) (eHM _ _ blH)
        have tMZ : TX HM (L2.upd HM bl (.lst (blv ++ [.ref p4]))) := tx_of (eHM _ _ blH) fun xs z => by cases z
        have n4bl : p4 ≠ bl := fun z => by rw [z, hblv] at hp4'; cases hp4'
        have n1bl : p1 ≠ bl := fun z => by rw [z, hblv] at hp1'; cases hp1'
        refine ⟨⟨_, _, _, _, _, _, _, _, _, _, _, _, _, _, _, rfl⟩, fr.trans gZ, Gs ++ [Bn], dfv ++ [.ref p1], blv ++ [.ref p4], u', by rw [List.length_append, hGl]; rfl, ?_, by rw [upd_ne nmbl]; exact eHM _ _ nmH, by rw [upd_ne dfbl]; exact eHM _ _ dfH, upd_same, ?_, ?_, ?_⟩
        · refine bk.snoc hu' (by rw [hpb, ← List.append_assoc]; exact hdef) (by rw [hBn, hGl]) (by rw [hBn]; exact hpl16) (by rw [hBn]; show rs.length ≤ 10; omega) (by rw [hGl, ← hsc, hBn]; exact hro) fun h0 z => ?_
          rw [hpb] at z
          obtain ⟨z1, z2⟩ := List.append_eq_nil_iff.mp z
          exact hz (by omega) z1 (hT0 (by omega) z1) z2
        · rw [List.map_append]
          exact pd_snoc (Paired.mapP pdf fun v xs h => h.k gZ.k) ⟨p1, rfl, alM hp1', by rw [upd_ne n1bl]; exact eHM _ _ p1H⟩
        · refine pd_snoc (Paired.mapP pbl fun v xs h => h.k gZ.k gZ.t) ⟨p4, .ref p2, .ref p3, rfl, alM hp4', by rw [upd_ne n4bl, hBn]; exact p4M, ?_, ?_⟩
          · rw [hBn]
            exact ⟨p2, rfl, tMZ _ _ (eKM _ _ h2)⟩
          · rw [hBn]
            exact ⟨rvs, ⟨p3, rfl, tMZ _ _ (eLM _ _ h3)⟩, Paired.mapP prs fun v r h => h.mono (tH.trans ((tx eHM).trans tMZ))⟩
        · intro k2 q2 hq2
          have hq2m := List.mem_of_getElem? hq2
          by_cases hk : k2 = i
          · subst hk
            rw [hqi] at hq2
            cases hq2
            refine ⟨t, s, c, hs, Mt, ht6, by rw [upd_ne (qbl q hqm)]; exact eHM _ _ (eH (qdf q hqm) qF), fun B' hB' => ?_⟩
            rw [List.getElem?_append_right (by omega), hGl, Nat.sub_self] at hB'
            cases hB'
            rw [hBn]
            exact hpsl.symm
          · obtain ⟨t2, s2, c2, h1, h2, h3, h4, h5⟩ := cells k2 q2 hq2
            have nqq : q2 ≠ q := fun z => hk (by
              rw [z] at hq2
              obtain ⟨l1, g1⟩ := List.getElem?_eq_some_iff.mp hq2
              obtain ⟨l2, g2⟩ := List.getElem?_eq_some_iff.mp hqi
              exact (List.getElem_inj hnd).mp (g1.trans g2.symm))
            have n3 : ¬ F3 q2 := fun z => by
              rw [hF3] at z
              rcases z with z | z | z
              · exact qb q2 hq2m z
              · exact nmq (by rw [← z]; exact hq2m)
              · exact nqq z
            refine ⟨t2, s2, c2, h1, h2, h3, by rw [upd_ne (qbl q2 hq2m)]; exact eHM _ _ (eH (qdf q2 hq2m) (gF.k _ _ n3 h4)), fun B' hB' => ?_⟩
            by_cases hlt : k2 < Gs.length
            · rw [List.getElem?_append_left hlt] at hB'
              exact h5 B' hB'
            · rw [List.getElem?_eq_none (by rw [List.length_append, List.length_singleton]; omega)] at hB'
              cases hB'
    · rintro σ' H' ⟨⟨o6, o7, o8, o9, o10, o11, o12, o13, o14, o15, o16, o17, o18, o19, o20, rfl⟩, fr, Gs, dfv, blv, u, hGl, bk, hnmv, hdfv, hblv, pdf, pbl, cells⟩
      have hGn : Gs.length = S.length := by rw [hGl, List.length_map, hql]; exact Int.toNat_natCast _
      have hbx := hB.x fr.x
      have aV : H' a = some (.lst (qs.map V.ref)) := fr.k _ _ Ma a6
      have dV : H' d = some (.lst dvs) := fr.k _ _ Md d6
      have nb : ∀ {p : Addr}, H' p = none → p ≠ b := fun {p} hp => bx_b hbx hp
      have hLb : ∀ L ∈ Gs.map pbdefs, L.length ≤ 100 := fun L hL => by
        obtain ⟨B, hB2, rfl⟩ := List.mem_map.mp hL
        obtain ⟨k2, hk2, rfl⟩ := List.getElem_of_mem hB2
        obtain ⟨_, h1, h2, _⟩ := bk.nm k2 _ (List.getElem?_eq_getElem hk2)
        have h3 := List.length_filterMap_le dby Gs[k2].ins
        unfold pbdefs
        rw [List.length_append]
        omega
      have knH : ∀ {p : Addr}, H' p = none → H p = none := fun {p} hp => by
        cases z : H p with
        | none => rfl
        | some o =>
          have := fr.x.1 p o (nb hp) z
          rw [hp] at this
          cases this
      have dfb : df ≠ b := bx_b hB hdf0
      have blb : bl ≠ b := bx_b hB hbl0
      have ab : a ≠ b := fun z => Ma (by rw [z]; exact Mb)
      have db : d ≠ b := fun z => Md (by rw [z]; exact Mb)
      -- a block's name and how many parameters it has
      have evBN : ∀ {σ : L2.St} {H2 : Hp} {te : TE} {t0 : Nat}, KF (fun p => p = b) H' H2 → σ[5]? = some (some (.ref bl)) → Ev te σ H2 (intV t0) → t0 < S.length → Ev (tOp (rIxL K) (tOp (rIxL K) (tVar 5) te) (tC (.int 0))) σ H2 (.str (bname t0)) := fun {σ H2 te t0} g h5 he ht0 => by
        have hG0 : Gs[t0]? = some Gs[t0] := List.getElem?_eq_getElem (by omega)
        obtain ⟨x, hx, p, vp, vi, rfl, hMp, hp, _⟩ := pd_get' pbl hG0
        rw [(bk.nm t0 _ hG0).1] at hp
        exact ev_ixL (ev_ixL (ev_var h5) (g _ _ blb hblv) he (atI_nat (j := t0) hx)) (g _ _ (fun z => hMp (by rw [z]; exact Mb)) hp) ev_c at0
      have evSC : ∀ {σ : L2.St} {H2 : Hp} {te : TE} {t0 : Nat}, KF (fun p => p = b) H' H2 → σ[1]? = some (some (.ref a)) → Ev te σ H2 (intV t0) → t0 < S.length → ∃ c, c ≤ 16 ∧ Ev (tOp (rIxL K) (tOp (rIxL K) (tVar 1) te) (tC (.int 1))) σ H2 (intV c) := fun {σ H2 te t0} g h1 he ht0 => by
        have hG0 : Gs[t0]? = some Gs[t0] := List.getElem?_eq_getElem (by omega)
        have hq0 : qs[t0]? = some qs[t0] := List.getElem?_eq_getElem (by omega)
        obtain ⟨t, s, c, _, _, _, h4, h5⟩ := cells t0 _ hq0
        refine ⟨c, by rw [h5 _ hG0]; exact (bk.nm t0 _ hG0).2.1, ?_⟩
        exact ev_ixL (ev_ixL (ev_var h1) (g _ _ ab aV) he (atI_nat (j := t0) (by rw [List.getElem?_map, hq0]; rfl))) (g _ _ (fun z => qb _ (List.mem_of_getElem? hq0) z) h4) ev_c (atI_nat (j := 1) rfl)
      refine q_asgL (xs := []) (el_lst ea_nil (by decide)) fun fo H8 hfo' e8 hfo => ?_
      have hfob := nb hfo'
      refine q_forR1 (ea1 (ev_lenL (ev_var rfl) (e8 _ _ aV))) (by rw [List.length_map]; omega) (fun i σ' H'' => (∃ o6 o7 o8 o9 o10 o11 o12 o13 o15 o16 o17 o18 o19 o20, σ' = [some (.ref b), some (.ref a), some (.ref d), some (.ref nm), some (.ref df), some (.ref bl), o6, o7, o8, o9, o10, o11, o12, o13, some (.ref fo), o15, o16, o17, o18, o19, o20]) ∧ Fr b H (fun p => p = b) H' H'' ∧
          ∃ (fov : List V) (Fs : List PB), H'' fo = some (.lst fov) ∧ Paired (BlkAt H'') fov Fs ∧ Fs.length = i ∧ ∀ j B, Fs[j]? = some B → ∃ B0, Gs[j]? = some B0 ∧ B.name = B0.name ∧ B.params = B0.params ∧ B.ins = B0.ins ∧ ∀ s, S[j]? = some s → FinOk s.1 (scopeOf (Gs.map pbdefs) (domsOf (sucS S) S.length j)) B.fin)
        (fun H9 e9 => ⟨⟨_, _, _, _, _, _, _, _, _, _, _, _, _, _, rfl⟩, (Fr.refl fr.x).e (e8.trans e9), [], [], e9 _ _ hfo, .nil, rfl, fun j B (h : ([] : List PB)[j]? = some B) => by simp at h⟩) ?_ ?_
      · rintro i σ' H'' hi ⟨⟨o6, o7, o8, o9, o10, o11, o12, o13, o15, o16, o17, o18, o19, o20, rfl⟩, g, fov, Fs, foV, pfo, hFl, hFs⟩
        have hin : i < S.length := by rw [List.length_map, hql] at hi; omega
        have hqi : qs[i]? = some qs[i] := List.getElem?_eq_getElem (by omega)
        obtain ⟨t, s, c0, hs, Mt, ht6, hqv, _⟩ := cells i _ hqi
        have htV : H' t = some (.lst (s.1.map intV)) := fr.k _ _ Mt ht6
        have tb : t ≠ b := fun z => Mt (by rw [z]; exact Mb)
        obtain ⟨dp, hdp, Mdp, hdp6⟩ := doms6 i hin
        have dpV := fr.k _ _ Mdp hdp6
        have dpb : dp ≠ b := fun z => Mdp (by rw [z]; exact Mb)
        have hs2 := (O.tg s (List.mem_of_getElem? hs)).1
        have hst := (O.tg s (List.mem_of_getElem? hs)).2
        obtain ⟨ks, hks⟩ : ∃ ks, ks = domsOf (sucS S) S.length i := ⟨_, rfl⟩
        have hkl : ks.length ≤ 20 := by rw [hks]; exact dl5 i
        rw [← hks] at hdp6 dpV
        obtain ⟨sc, hsc⟩ : ∃ sc, sc = scopeOf (Gs.map pbdefs) ks := ⟨_, rfl⟩
        have hscn : sc ≠ [] := fun z => by
          have hG0 : Gs[0]? = some Gs[0] := List.getElem?_eq_getElem (by omega)
          have h0 := bk.z _ hG0
          obtain ⟨y, hy⟩ := List.exists_mem_of_ne_nil _ h0
          have : y ∈ sc := by
            rw [hsc]
            exact mem_scopeOf.mpr ⟨0, by rw [hks]; exact SF.mem_doms.mpr ⟨by omega, Dom.zero i⟩, _, by rw [List.getElem?_map, hG0]; rfl, hy⟩
          rw [z] at this
          cases this
        refine q_asgL (xs := []) (el_lst ea_nil (by decide)) fun l0 H9 hl0 e9 hl9 => ?_
        have kn2 : ∀ {p : Addr} {Hc : Hp}, Fr b H (fun p => p = b) H' Hc → Hc p = none → H' p = none := fun {p Hc} g hp => by
          cases z : H' p with
          | none => rfl
          | some o =>
            have := g.k _ _ (bx_b (hB.x g.x) hp) z
            rw [hp] at this
            cases this
        refine q_forL (ev_ixL (ev_var rfl) (e9 _ _ (g.k _ _ db dV)) (ev_var rfl) (atI_nat (j := i) hdp)) (sq_of (e9 _ _ (g.k _ _ dpb dpV))) (fun i2 σ2 H2 => ∃ (l : Addr) (o15 : Option V), σ2 = [some (.ref b), some (.ref a), some (.ref d), some (.ref nm), some (.ref df), some (.ref bl), some (intV i), o7, o8, o9, o10, o11, o12, some (.ref l), some (.ref fo), o15, o16, o17, o18, o19, o20] ∧ Ex H'' H2 ∧ H'' l = none ∧ H2 l = some (.lst ((scopeOf (Gs.map pbdefs) (ks.take i2)).map V.str)))
          (fun HA eA => ⟨l0, _, rfl, e9.trans eA, hl0, eA _ _ hl9⟩) (fun i2 σ2 H2 _ ⟨_, _, _, e, _⟩ => sq_of (e _ _ (g.k _ _ dpb dpV))) ?_ ?_
        · rintro i2 x σ2 H2 hx ⟨l, o15, rfl, e2, hl, hlv⟩
          rw [List.getElem?_map] at hx
          cases hk2 : ks[i2]? with
          | none => rw [hk2] at hx; cases hx
          | some n =>
            rw [hk2] at hx
            cases hx
            rw [take_succ hk2, scopeOf_snoc]
            have hn : n < S.length := by
              have := List.mem_of_getElem? hk2
              rw [hks] at this
              exact (SF.mem_doms.mp this).1
            obtain ⟨Lx, hL⟩ : ∃ Lx, (Gs.map pbdefs)[n]? = some Lx := ⟨_, List.getElem?_eq_getElem (by rw [List.length_map]; omega)⟩
            obtain ⟨y, hy, p, rfl, hMp, hp⟩ := pd_get' pdf hL
            have g2 := g.e e2
            have b1 := scopeOf_len hLb (ks.take i2)
            have b2 : (ks.take i2).length ≤ 20 := by rw [List.length_take]; omega
            have b3 : (ks.take i2).length * 100 ≤ 20 * 100 := Nat.mul_le_mul_right _ b2
            have b4 := hLb _ (List.mem_of_getElem? hL)
            refine s_asgL (D := { nx := _, rt := _, bk := _, ct := _ }) (el_cat2 (ev_var rfl) hlv (ev_ixL (ev_var rfl) (g2.k _ _ dfb hdfv) (ev_var rfl) (atI_nat (j := n) hy)) (g2.k _ _ (fun z => hMp (by rw [z]; exact Mb)) hp) (by rw [List.length_map, List.length_map]; omega)) fun p2 HA hp2 eA hA => ?_
            refine ⟨p2, _, rfl, e2.trans eA, fresh_back e2 hp2, ?_⟩
            rw [hA, hL, ← List.map_append]
            rfl
        · rintro σ2 HA ⟨scl, o15, rfl, eA, hscl, hscv⟩
          rw [List.length_map, List.take_length, ← hsc] at hscv
          have gA := g.e eA
          have hsclb : scl ≠ b := bx_b (hB.x g.x) hscl
          have foA := eA _ _ foV
          have tA := gA.k _ _ tb htV
          refine q_asg (v := .ref t) (ev_ixL (ev_ixL (ev_var rfl) (gA.k _ _ ab aV) (ev_var rfl) (atI_nat (j := i) (by rw [List.getElem?_map, hqi]; rfl))) (gA.k _ _ (fun z => qb _ (List.mem_of_getElem? hqi) z) hqv) ev_c at0) fun HB eB => ?_
          have gB := gA.e eB
          -- the append at the turn's end
          have fin : ∀ (DD : Ends), (∀ σ' H'', ((∃ o6 o7 o8 o9 o10 o11 o12 o13 o15 o16 o17 o18 o19 o20, σ' = [some (.ref b), some (.ref a), some (.ref d), some (.ref nm), some (.ref df), some (.ref bl), o6, o7, o8, o9, o10, o11, o12, o13, some (.ref fo), o15, o16, o17, o18, o19, o20]) ∧ Fr b H (fun p => p = b) H' H'' ∧
              ∃ (fov : List V) (Fs : List PB), H'' fo = some (.lst fov) ∧ Paired (BlkAt H'') fov Fs ∧ Fs.length = i + 1 ∧ ∀ j B, Fs[j]? = some B → ∃ B0, Gs[j]? = some B0 ∧ B.name = B0.name ∧ B.params = B0.params ∧ B.ins = B0.ins ∧ ∀ s, S[j]? = some s → FinOk s.1 (scopeOf (Gs.map pbdefs) (domsOf (sucS S) S.length j)) B.fin) → DD.nx σ' H'') →
              ∀ (o18 o19 : Option V) (v : V) (r : Row) (HC : Hp), Fr b H (fun p => p = b) HB HC → RowAt HC v r → FinOk s.1 sc r →
              tDrop (tBM K "list" rAppend (tVar 14) (tCons (tCB (rTupS K) (tCons (tOp rCat (tOp (rIxL K) (tVar 5) (tVar 6)) (tLst (tCons (tVar 17) tNil))) tNil)) tNil)) DD [some (.ref b), some (.ref a), some (.ref d), some (.ref nm), some (.ref df), some (.ref bl), some (intV i), o7, o8, o9, o10, o11, o12, some (.ref scl), some (.ref fo), o15, some (.ref t), some v, o18, o19, o20] HC := by
            intro DD hDD o18 o19 v r HC gBC hR hF
            have gC := gB.trans gBC
            have foC := gBC.k _ _ hfob (eB _ _ foA)
            have hfl := pd_len pfo
            obtain ⟨Bi, hG0⟩ : ∃ Bi, Gs[i]? = some Bi := ⟨_, List.getElem?_eq_getElem (by omega)⟩
            obtain ⟨x, hx, p, vp, vi, rfl, hMp, hp, hvp, hvi⟩ := pd_get' pbl hG0
            refine s_appU (D := DD) foC (ev_var rfl) (eu_tupleN (el_catL (ev_ixL (ev_var rfl) (gC.k _ _ blb hblv) (ev_var rfl) (atI_nat (j := i) hx)) (gC.k _ _ (fun z => hMp (by rw [z]; exact Mb)) hp) (el_lst (ea1 (ev_var rfl)) (by show 1 ≤ 100000; decide)) (by show 3 + 1 ≤ 100000; decide))) (by omega) fun p2 HD hp2 eD hD => ?_
            have tZ : TX HC (L2.upd HD fo (.lst (fov ++ [.ref p2]))) := (tx eD).trans (tx_of (eD _ _ foC) fun xs z => by cases z)
            have tD : TX HD (L2.upd HD fo (.lst (fov ++ [.ref p2]))) := tx_of (eD _ _ foC) fun xs z => by cases z
            have gZ := (gC.e eD).upd (ys := fov ++ [.ref p2]) hB (knH hfo') (.inr hfo') (eD _ _ foC)
            have tg2 : TX H'' HC := ((tx eA).trans (tx eB)).trans gBC.t
            refine hDD _ _ ⟨⟨_, _, _, _, _, _, _, _, _, _, _, _, _, _, rfl⟩, gZ, fov ++ [.ref p2], Fs ++ [⟨Bi.name, Bi.params, Bi.ins, r⟩], upd_same, ?_, by rw [List.length_append, hFl]; rfl, ?_⟩
            · exact pd_snoc (Paired.mapP pfo fun v B h => h.mono (tg2.trans tZ)) ⟨vp, vi, v, ⟨p2, rfl, tD _ _ hD⟩, hvp.mono gZ.t, hvi.mono (fun _ _ => RowAt.mono gZ.t) gZ.t, hR.mono tZ⟩
            · intro j B hj
              by_cases q : j < Fs.length
              · rw [List.getElem?_append_left q] at hj
                exact hFs j B hj
              · have hk : j = Fs.length := by
                  have := (List.getElem?_eq_some_iff.mp hj).1
                  rw [List.length_append, List.length_singleton] at this
                  omega
                subst hk
                rw [List.getElem?_append_right (Nat.le_refl _), Nat.sub_self] at hj
                cases hj
                refine ⟨Bi, by rw [hFl]; exact hG0, rfl, rfl, rfl, fun s2 hs2 => ?_⟩
                rw [hFl] at hs2 ⊢
                rw [hs] at hs2
                cases hs2
                rw [← hks, ← hsc]
                exact hF
          have scB := eB _ _ hscv
          have tB := eB _ _ tA
          have hbB := hB.x gB.x
          have kB : ∀ {Hc : Hp}, Fr b H (fun p => p = b) HB Hc → KF (fun p => p = b) H' Hc := fun {Hc} g => gB.k.trans g.k
          clear hFs pfo
          obtain ⟨ts, c1⟩ := s
          have hs2 : ts.length ≤ 2 := hs2
          have hst : ∀ t ∈ ts, t < S.length := hst
          have tB : HB t = some (.lst (ts.map intV)) := tB
          refine r_ifq (r_evT (et_T (ev_op (ev_lenL (ev_var rfl) tB) ev_c (rv_eq rfl))) fun HC eC => ?_)
          have gC : Fr b H (fun p => p = b) HB HC := (Fr.refl gB.x).e eC
          rcases ts with _ | ⟨t1, _ | ⟨t2, _ | ⟨t3, rest⟩⟩⟩
          · rw [show decide (V.int (((List.map intV ([] : List Nat)).length : Nat) : Int) = V.int 0) = true from rfl, if_pos rfl]
            refine s_raw (r_tup (r_cons (r_ev ev_c fun HD eD => r_cons (r_pick (xs := sc) (ev_var rfl) (ev_var rfl) hscn ((eC.trans eD) _ _ scB) (hB.x (gC.e eD).x) fun x HE hx xE => r_nil ⟨(by show 2 ≤ sizeLine; decide), fun p hp => ?_⟩))))
            refine fin _ ?_ o18 o19 (.ref p) (.ret x) _ (((gC.e eD).xb hB rfl xE).e (Ex.new hp)) ⟨p, rfl, upd_same⟩ ⟨rfl, fun y hy => ?_, rfl, (by show 1 ≤ 50; decide)⟩
            · exact fun _ _ h => h
            · rw [List.mem_singleton.mp hy]
              exact hx
          · rw [show decide (V.int (((List.map intV ([t1])).length : Nat) : Int) = V.int 0) = false from rfl, if_neg Bool.false_ne_true]
            refine r_if (r_evT (et_T (ev_op (ev_lenL (ev_var rfl) (eC _ _ tB)) ev_c (rv_eq rfl))) fun HD eD => ?_)
            rw [show decide (V.int (((List.map intV ([t1])).length : Nat) : Int) = V.int 1) = true from rfl, if_pos rfl]
            have gD := gC.e eD
            have ht1 := hst t1 (List.mem_cons_self ..)
            refine s_raw (r_tup (r_cons (r_ev ev_c fun HE eE => ?_)))
            have gE := gD.e eE
            have tE := (eC.trans (eD.trans eE)) _ _ tB
            refine r_cons (r_ev (evBN (kB gE) rfl (ev_ixL (ev_var rfl) tE ev_c at0) ht1) fun HF eF => ?_)
            have gF := gE.e eF
            obtain ⟨c, hc, ec⟩ := evSC (σ := [some (.ref b), some (.ref a), some (.ref d), some (.ref nm), some (.ref df), some (.ref bl), some (intV i), o7, o8, o9, o10, o11, o12, some (.ref scl), some (.ref fo), o15, some (.ref t), o17, o18, o19, o20]) (te := tOp (rIxL K) (tVar 16) (tC (.int 0))) (kB gF) rfl (ev_ixL (ev_var rfl) (eF _ _ tE) ev_c at0) ht1
            refine r_cons (r_args (xs := sc) (n := c) (ev_var rfl) (ev_var rfl) ec (by omega) (fun _ => hscn) ((eC.trans (eD.trans (eE.trans eF))) _ _ scB) (hB.x gF.x) fun va ys HG hys hyl hst xG => r_nil ⟨(by show 3 ≤ sizeLine; decide), fun p hp => ?_⟩)
            refine fin _ ?_ o18 o19 (.ref p) (.jmp (bname t1) ys) _ ((gF.xb hB rfl xG).e (Ex.new hp)) ⟨va, ⟨p, rfl, upd_same⟩, hst.mono (tx (Ex.new hp))⟩ ⟨rfl, hys, rfl, (by show ys.length ≤ 50; omega)⟩
            exact fun _ _ h => h
          · rw [show decide (V.int (((List.map intV ([t1, t2])).length : Nat) : Int) = V.int 0) = false from rfl, if_neg Bool.false_ne_true]
            refine r_if (r_evT (et_T (ev_op (ev_lenL (ev_var rfl) (eC _ _ tB)) ev_c (rv_eq rfl))) fun HD eD => ?_)
            rw [show decide (V.int (((List.map intV ([t1, t2])).length : Nat) : Int) = V.int 1) = false from rfl, if_neg Bool.false_ne_true]
            have gD := gC.e eD
            have ht1 := hst t1 (List.mem_cons_self ..)
            have ht2 := hst t2 (List.mem_cons_of_mem _ (List.mem_cons_self ..))
            have tD := (eC.trans eD) _ _ tB
            have scD := (eC.trans eD) _ _ scB
            obtain ⟨c, hc, ec⟩ := evSC (σ := [some (.ref b), some (.ref a), some (.ref d), some (.ref nm), some (.ref df), some (.ref bl), some (intV i), o7, o8, o9, o10, o11, o12, some (.ref scl), some (.ref fo), o15, some (.ref t), o17, o18, o19, o20]) (te := tOp (rIxL K) (tVar 16) (tC (.int 0))) (kB gD) rfl (ev_ixL (ev_var rfl) tD ev_c at0) ht1
            refine q_raw (r_args (xs := sc) (n := c) (ev_var rfl) (ev_var rfl) ec (by omega) (fun _ => hscn) scD (hB.x gD.x) fun va ys HE hys hyl hst1 xE => ?_)
            have gE := gD.xb hB rfl xE
            have tE := xE.lst tb tD
            have scE := xE.lst hsclb scD
            obtain ⟨c2, hc2, ec2⟩ := evSC (σ := [some (.ref b), some (.ref a), some (.ref d), some (.ref nm), some (.ref df), some (.ref bl), some (intV i), o7, o8, o9, o10, o11, o12, some (.ref scl), some (.ref fo), o15, some (.ref t), o17, some va, o19, o20]) (te := tOp (rIxL K) (tVar 16) (tC (.int 1))) (kB gE) rfl (ev_ixL (ev_var rfl) tE ev_c (atI_nat (j := 1) rfl)) ht2
            refine q_raw (r_args (xs := sc) (n := c2) (ev_var rfl) (ev_var rfl) ec2 (by omega) (fun _ => hscn) scE (hB.x gE.x) fun va2 ys2 HF hys2 hyl2 hst2 xF => ?_)
            have gF := gE.xb hB rfl xF
            have tF := xF.lst tb tE
            have scF := xF.lst hsclb scE
            refine s_raw (r_tup (r_cons (r_ev ev_c fun HG eG => r_cons (r_pick (xs := sc) (ev_var rfl) (ev_var rfl) hscn (eG _ _ scF) (hB.x (gF.e eG).x) fun x HH hx xH => ?_))))
            have gH := (gF.e eG).xb hB rfl xH
            have tH := xH.lst tb (eG _ _ tF)
            refine r_cons (r_ev (evBN (kB gH) rfl (ev_ixL (ev_var rfl) tH ev_c at0) ht1) fun HI eI => r_cons (r_ev (ev_var rfl) fun HJ eJ => ?_))
            have eHJ := eI.trans eJ
            refine r_cons (r_ev (evBN (kB (gH.e eHJ)) rfl (ev_ixL (ev_var rfl) (eHJ _ _ tH) ev_c (atI_nat (j := 1) rfl)) ht2) fun HK eK => r_cons (r_ev (ev_var rfl) fun HL eL => r_nil ⟨(by show 6 ≤ sizeLine; decide), fun p hp => ?_⟩))
            have eHM := eHJ.trans (eK.trans (eL.trans (Ex.new (o := .tup [.str "branch", .str x, .str (bname t1), va, .str (bname t2), va2]) hp)))
            have tFH : TX HF HH := (tx eG).trans (xH.tx (hB.x (gF.e eG).x))
            refine fin _ ?_ (some va) (some va2) (.ref p) (.br x (bname t1) ys (bname t2) ys2) _ (gH.e eHM) ⟨va, va2, ⟨p, rfl, upd_same⟩, hst1.mono ((xF.tx (hB.x gE.x)).trans (tFH.trans (tx eHM))), hst2.mono (tFH.trans (tx eHM))⟩ ⟨rfl, fun y hy => ?_, rfl, ?_⟩
            · exact fun _ _ h => h
            · rcases List.mem_cons.mp hy with z | z
              · rw [z]; exact hx
              · rcases List.mem_append.mp z with z | z
                · exact hys y z
                · exact hys2 y z
            · show (x :: (ys ++ ys2)).length ≤ 50
              rw [List.length_cons, List.length_append]
              omega
          · simp at hs2
      · rintro σ' H'' ⟨⟨o6, o7, o8, o9, o10, o11, o12, o13, o15, o16, o17, o18, o19, o20, rfl⟩, g, fov, Fs, foV, pfo, hFl, hFs⟩
        have hFn : Fs.length = S.length := by rw [hFl, List.length_map, hql]; exact Int.toNat_natCast _
        have hpd : Fs.map pbdefs = Gs.map pbdefs := by
          refine List.ext_getElem? fun j => ?_
          rw [List.getElem?_map, List.getElem?_map]
          by_cases q : j < Fs.length
          · obtain ⟨B0, h1, h2, h3, h4, _⟩ := hFs j _ (List.getElem?_eq_getElem q)
            rw [List.getElem?_eq_getElem q, h1]
            show some (pbdefs Fs[j]) = some (pbdefs B0)
            unfold pbdefs
            rw [h3, h4]
          · rw [List.getElem?_eq_none (by omega), List.getElem?_eq_none (by omega)]
        have built : Built S Fs := by
          refine ⟨O, hFn, ⟨u, ?_⟩, fun k2 B hB2 => ?_, fun B hB2 => ?_, fun B hB2 => ?_, fun k2 B hB2 => ?_, fun k2 B s hB2 hs => ?_⟩
          · have := bk.nd
            unfold defsP at this ⊢
            rw [hpd]
            exact this
          · obtain ⟨B0, h1, h2, _⟩ := hFs k2 B hB2
            rw [h2]
            exact (bk.nm k2 B0 h1).1
          · obtain ⟨k2, hk2, rfl⟩ := List.getElem_of_mem hB2
            obtain ⟨B0, h1, h2, h3, h4, _⟩ := hFs k2 _ (List.getElem?_eq_getElem hk2)
            rw [h3]
            exact (bk.nm k2 B0 h1).2.1
          · obtain ⟨k2, hk2, rfl⟩ := List.getElem_of_mem hB2
            obtain ⟨B0, h1, h2, h3, h4, _⟩ := hFs k2 _ (List.getElem?_eq_getElem hk2)
            rw [h4]
            exact (bk.nm k2 B0 h1).2.2.1
          · obtain ⟨B0, h1, h2, h3, h4, _⟩ := hFs k2 B hB2
            rw [hpd, h3, h4]
            exact (bk.nm k2 B0 h1).2.2.2
          · obtain ⟨B0, h1, h2, h3, h4, h5⟩ := hFs k2 B hB2
            rw [hpd]
            exact h5 s hs
        exact r_ret (eu_tuple (ev_var rfl) foV H'' (Ex.refl H'') _ fun p HZ hp eZ hZ => k _ HZ Fs ⟨fov, ⟨p, rfl, hZ⟩, Paired.mapP pfo fun v B h => h.mono (tx eZ)⟩ built.small built.wf (by obtain ⟨u, hu⟩ := built.nd; rw [hu, List.length_take]; exact Nat.min_le_right _ _) (g.x.e eZ))
end
end Sh
end

section
set_option Elab.async false
set_option linter.all false
set_option maxRecDepth 100000
set_option maxHeartbeats 8000000
/-! Walk: law. -/
namespace Sh
open PySem PySem.Spec PyProof.Rows L2 Evl Classical
open SF (WF InSet)
theorem merge_lockT (L : Str → Str) : ∀ (xs ks : List Str), (ks ++ xs).Nodup → mergeK (locK ks L) (locK xs L) = locK (ks ++ xs) L
  | [], ks, _ => by rw [List.append_nil]; rfl
  | x :: xs, ks, h => by
    have hx : x ∉ ks := fun z => (List.nodup_append.mp h).2.2 x z x (List.mem_cons_self ..) rfl
    have e : mergeK (locK ks L) (locK (x :: xs) L) = mergeK (putK (locK ks L) (Sum.inr x) (.str (L x))) (locK xs L) := rfl
    rw [e, putK_new _ (by rw [locK_val, if_neg hx])]
    have e2 : locK ks L ++ [(Sum.inr x, V.str (L x))] = locK (ks ++ [x]) L := by unfold locK; rw [List.map_append]; rfl
    rw [e2, merge_lockT L xs (ks ++ [x]) (by rw [List.append_assoc]; exact h), List.append_assoc]
    rfl
theorem merge_lock {L : Str → Str} {xs : List Str} (h : xs.Nodup) : mergeK [] (locK xs L) = locK xs L := merge_lockT L xs [] h
/-- the first letter of a place, and its number -/
theorem loc_c {G : List PB} {R : Nat} {out : List Str} {L : Str → Str} (A : AOk G R out L) {x : Str} (hx : x ∈ defsP G) : ∃ n, n ≤ 400 ∧ (x ∉ out → n < R) ∧ L x = pf out x ++ numS n := by
  obtain ⟨ks, hC, hk⟩ := A.col
  obtain ⟨n, h1, h2, h3⟩ := hC.loc x (hk x hx)
  exact ⟨n, h2, h3, h1⟩
theorem cps_app (x y : Str) : (x ++ y).cps.toList = x.cps.toList ++ y.cps.toList := by
  show (x.cps ++ y.cps).toList = _
  rw [Array.toList_append]
theorem pf_at {out : List Str} {x : Str} (y : Str) : (pf out x ++ y).cps.toList[0]? = some (if x ∈ out then 115 else 114) := by
  rw [cps_app]
  unfold pf
  by_cases h : x ∈ out
  · rw [if_pos h, if_pos h]
    rfl
  · rw [if_neg h, if_neg h]
    rfl
theorem pf_cut {out : List Str} {x : Str} (y : Str) : cutS (pf out x ++ y) (some 1) none = y := by
  have e : (pf out x ++ y).cps.toList = (if x ∈ out then 115 else 114) :: y.cps.toList := by
    rw [cps_app]
    unfold pf
    by_cases h : x ∈ out
    · rw [if_pos h, if_pos h]
      rfl
    · rw [if_neg h, if_neg h]
      rfl
  have hl : (pf out x ++ y).length = y.cps.toList.length + 1 := by
    show (pf out x ++ y).cps.size = _
    rw [← Array.length_toList, e]
    rfl
  unfold cutS
  rw [hl, e]
  have h1 : HT.sIx (y.cps.toList.length + 1) 0 (some 1) = 1 := by
    show (if (1 : Int) < 0 then ((1 : Int) + ((y.cps.toList.length + 1 : Nat) : Int)).toNat else min (1 : Int).toNat (y.cps.toList.length + 1)) = 1
    rw [if_neg (by decide)]
    show min 1 _ = 1
    omega
  have h2 : HT.sIx (y.cps.toList.length + 1) (y.cps.toList.length + 1) none = y.cps.toList.length + 1 := rfl
  rw [h1, h2]
  show (⟨((y.cps.toList).take (y.cps.toList.length + 1 - 1)).toArray⟩ : Str) = y
  rw [Nat.add_sub_cancel, List.take_length]
theorem isR {c : Nat} : decide (V.str ⟨#[c]⟩ = V.str "r") = decide (c = 114) := by
  refine decide_eq_decide.mpr ⟨fun z => ?_, fun z => by rw [z]; rfl⟩
  have z := V.str.inj z
  have e : (Str.ofString "r") = ⟨#[114]⟩ := by decide +kernel
  rw [e] at z
  have z := congrArg (fun s : Str => s.cps.toList) z
  simpa using z
theorem A_most {G : List PB} {R : Nat} {out : List Str} {L : Str → Str} (A : AOk G R out L) {m : Int} (hm : ∀ ns ∈ dsets G, ((ns.length : Nat) : Int) ≤ m) (h : m ≤ (R : Int)) : out = [] := by
  cases out with
  | nil => rfl
  | cons x r =>
    exfalso
    obtain ⟨S, hS, hx, hR⟩ := A.most x (List.mem_cons_self ..)
    have h1 := hm S hS
    have h2 : (stl (x :: r) S).length < S.length := by
      unfold stl
      refine Nat.lt_of_le_of_ne (List.length_filter_le ..) fun e => ?_
      have := List.length_filter_eq_length_iff.mp e x hx
      simp at this
    omega
theorem A_nodup {G : List PB} {R : Nat} {out : List Str} {L : Str → Str} (SG : Small G) (W : WF (toPg G)) (A : AOk G R out L) {S : List Str} (hS : S ∈ dsets G) : (S.map L).Nodup := by
  obtain ⟨ks, hC, hk⟩ := A.col
  obtain ⟨b, B, p, hB, hp, rfl⟩ := mem_dsets hS
  have nd := (dsets_ok SG W).nd _ hS
  have sub := (dsets_ok SG W).sub _ hS
  have : ∀ l : List Str, l.Nodup → (∀ x ∈ l, x ∈ pset G b p) → (l.map L).Nodup := by
    intro l
    induction l with
    | nil => intros; exact List.nodup_nil
    | cons x l ih =>
      intro h1 h2
      rw [List.nodup_cons] at h1
      rw [List.map_cons, List.nodup_cons]
      refine ⟨fun z => ?_, ih h1.2 fun y hy => h2 y (List.mem_cons_of_mem _ hy)⟩
      obtain ⟨y, hy, e⟩ := List.mem_map.mp z
      have hx := mem_pset.mp (h2 x (List.mem_cons_self ..))
      have hy2 := mem_pset.mp (h2 y (List.mem_cons_of_mem _ hy))
      exact hC.dif b p x y hx.2 hy2.2 (hk x hx.1) (hk y hy2.1) (fun q => h1.1 (by rw [q]; exact hy)) e.symm
  exact this _ nd fun x h => h
theorem stay_filter {G : List PB} {out S : List Str} (hS : ∀ x ∈ S, x ∈ defsP G) : S.filter (fun x => decide (x ∈ stl out (defsP G))) = stl out S := by
  unfold stl
  refine List.filter_congr fun x hx => ?_
  by_cases h : x ∈ out
  · rw [decide_eq_true h, decide_eq_false]
    · rfl
    · rw [List.mem_filter]
      intro z
      rw [decide_eq_true h] at z
      cases z.2
  · rw [decide_eq_false h, decide_eq_true]
    · rfl
    · rw [List.mem_filter]
      exact ⟨hS x hx, by rw [decide_eq_false h]; rfl⟩
/-- a comprehension's names as they stand in a def of the scope sc0 -/
def relS (scope sc0 : Scope) : Scope := { scope with names := scope.names.map fun (n, k) => if (k == .free && sc0.kind == .function && sc0.names.lookup n == some .cell) then (n, .cell) else (n, k) }
theorem blkOk_in {N : List Str} {scope0 scope sc0 : Scope} {own : List (Str × Nat)} {env : Env} (hs : env.scope = sc0) (h : blkC N (relS scope0 sc0) scope own = true) : BlkOk N (relabel scope0 env) scope own := by
  subst hs
  exact blkOk_by h
def spLaw (T : Addr) (K : PySem.W.Frag) : Sp := fun vs H Q _ => ∃ (a : Addr) (ns : List Int), vs = [.ref a] ∧ SqL K H a (ns.map V.int) ∧ TabQ H T lpos lq ∧ ∀ H', Q (.bl true) H'
theorem TabQ.xb {b T : Addr} {H H' : Hp} {p : Pos} {q : Str} (t : TabQ H T p q) (hB : Bx H b) (x : XB b H H') : TabQ H' T p q := by
  obtain ⟨ps, h1, h2, h3⟩ := t
  obtain ⟨_, _, _, n, hb⟩ := hB
  refine ⟨ps, x.1 _ _ (fun z => by rw [z, hb] at h1; cases h1) h1, h2, fun cv hc => ?_⟩
  obtain ⟨c, e1, e2⟩ := h3 cv hc
  exact ⟨c, e1, x.1 _ _ (fun z => by rw [z, hb] at e2; cases e2) e2⟩
section
variable {P : Program} {w : World} {K : PySem.W.Frag} {mg : Str → Option Value} {base : Heap} {f C : Addr} {fd : FuncData} {σ : L2.St} {H : Hp} {g : TG} {tu tw tz : TS} {D : Ends} {ta tb tc te tl td tv ty : TE} {tr : TA} {tt t2 : TT} {Q : VK} {r : R2} {QT : Bool → Hp → Prop} {wi : TI} {n : Nat} {Y : Nat → Hp → V → Hp → Prop}
theorem s_forI (hi : EvI wi σ H n Y) (k : ∀ H2, Ex H H2 → ∃ Pv : Nat → L2.St → Hp → Prop, Pv 0 σ H2 ∧ (∀ i σ' H', Pv i σ' H' → Ex H2 H') ∧
    (∀ i x σ' H' H'', i < n → Pv i σ' H' → Y i H' x H'' → g x σ' H'' fun σ2 H3 => tu { D with nx := Pv (i + 1), ct := Pv (i + 1), bk := D.nx } σ2 H3) ∧ ∀ σ' H', Pv n σ' H' → D.nx σ' H') : tFor wi g tu D σ H :=
  hi H (Ex.refl H) _ fun J G H2 e2 w hG => by
    obtain ⟨Pv, h0, h1, h2, h3⟩ := k H2 e2
    exact for_it w Pv h0 (fun i σ' H' _ p => hG H' (h1 i σ' H' p)) h2 h3
theorem q_asgLE {d : Addr} {u : HO} {i : Nat} {xs : List V} (hd : H d = some u) (mu : Mut (some u)) (h : ∀ od, EvL te σ (upd H d (.frz od u)) xs) (k : ∀ p H1, H p = none → Ex H H1 → H1 p = some (.lst xs) → tz D (σ.set i (some (.ref p))) H1) : tSeq (tAsg (tLockE te) (gName i)) tz D σ H :=
  ⟨d, u, hd, mu, fun od => h od _ (Ex.refl _) _ fun p H1 hp e hk => ⟨e d _ upd_same, by
    have npd : p ≠ d := fun z => by rw [z, upd_same] at hp; cases hp
    rw [upd_ne npd] at hp
    exact k p _ hp (ex_unlock hd e) (by rw [upd_ne npd]; exact hk)⟩⟩
theorem ev_dgetF {a : Addr} {od : Obj} {kvs : List (Key × V)} {k : Key} {v : V} (hd : Ev td σ H (.ref a)) (hy : Ev ty σ H (kV k)) (ha : H a = some (.frz od (.dK kvs))) (hv : valV kvs k = some v) : Ev (tDGet td ty) σ H v := fun H1 e Q q =>
  hd H1 e _ fun H2 e2 => hy H2 (e.trans e2) _ fun H3 e3 => ⟨a, v, rfl, hv ▸ .inl ⟨kvs, k, .inr ⟨od, ((e.trans e2).trans e3) _ _ ha⟩, rfl, rfl⟩, q H3 (e2.trans e3)⟩
theorem loc_len {G : List PB} {R : Nat} {out : List Str} {L : Str → Str} (A : AOk G R out L) {x : Str} (hx : x ∈ defsP G) : (L x).length ≤ 600 := by
  obtain ⟨n, h1, _, h2⟩ := loc_c A hx
  rw [h2]
  have h3 := numS_len (n := n) (by omega)
  have h4 : (pf out x ++ numS n).length = (pf out x).length + (numS n).length := by
    show (pf out x ++ numS n).cps.size = (pf out x).cps.size + (numS n).cps.size
    rw [← Array.length_toList, cps_app, List.length_append, Array.length_toList, Array.length_toList]
  have h5 : (pf out x).length = 1 := by
    unfold pf
    split <;> rfl
  omega
theorem locK_at {L : Str → Str} {ks : List Str} {x : Str} (h : x ∈ ks) : valV (locK ks L) (Sum.inr x) = some (.str (L x)) := by rw [locK_val, if_pos h]
/-- the places of a row's names -/
theorem el_places {d pr : Addr} {ks S : List Str} {L : Str → Str} (hσ : σ.length = 12) (hd : σ[5]? = some (some (.ref d))) (h8 : σ[8]? = some (some (.ref pr))) (hdv : H d = some (.dK (locK ks L))) (hpr : H pr = some (.tup (S.map V.str))) (hS : ∀ x ∈ S, x ∈ ks) (hn : S.length ≤ 1000) :
    EvL (tLc (iTup K (tVar 8)) (gName 6) tYes (tDGet (tVar 5) (tVar 6)) [6]) σ H ((S.map L).map V.str) := by
  have q := elp_lcn (R := fun _ v b => v = V.str b) (σ := σ) (H := H) (t := tYes) (te := tDGet (tVar 5) (tVar 6)) (vs := [6]) (j := 6) mono_eq (ei_tup (K := K) (ev_var h8) hpr) (by rw [List.length_map]; omega) (fun i => S[i]?.bind fun x => some (L x)) (fun x => by simp [wipe]) (fun i H' x H'' y => y.1) (fun i x H' hi e y => ?_) (fun i x b H' hi e y hb => ?_)
  · rw [List.length_map, fm_list] at q
    have e : S.filterMap (fun x => some (L x)) = S.map L := by rw [List.filterMap_eq_map']
    rw [e] at q
    exact el_of q
  · rw [List.length_map] at hi
    rw [List.getElem?_eq_getElem hi]
    exact et_yes
  · have y2 := y.2
    rw [List.getElem?_map] at y2
    cases hs : S[i]? with
    | none => rw [hs] at y2; cases y2
    | some z =>
      rw [hs] at y2 hb
      cases y2
      cases hb
      have h5 : ((wipe σ [6]).set 6 (some (V.str z)))[5]? = some (some (.ref d)) := by
        rw [List.getElem?_set_ne (by decide)]
        show (σ.set 6 none)[5]? = _
        rw [List.getElem?_set_ne (by decide)]
        exact hd
      have h6 : ((wipe σ [6]).set 6 (some (V.str z)))[6]? = some (some (V.str z)) := by simp [wipe, hσ]
      exact evr_eq (ev_dget (k := Sum.inr z) (ev_var h5) (ev_var h6) (e _ _ hdv) (locK_at (hS z (List.mem_of_getElem? hs))))
theorem ev_lenSet {l : Addr} {xs : List Str} (h : Ev ta σ H (.ref l)) (hl : H l = some (.lst (xs.map V.str))) (h6 : xs.length < 64) (nd : xs.Nodup) : Ev (tLenSetS K ta) σ H (.int (xs.length : Int)) := fun H1 e Q q =>
  h H1 e _ fun H2 e2 => ⟨l, xs, rfl, sq_of (e2 _ _ (e _ _ hl)), h6, nd, q H2 e2⟩
theorem ev_lenN2 {xs : List Str} (h : EvL ta σ H (xs.map V.str)) : Ev (tCB (rLenS K) (tCons ta tNil)) σ H (.int (xs.length : Int)) := by
  have := ev_lenN (K := K) h
  rw [List.length_map] at this
  exact this
def rLenDk : List V → Hp → VK → Prop := fun xs H Q => ∃ a kvs, xs = [V.ref a] ∧ H a = some (.dK kvs) ∧ Q (.int kvs.length) H
theorem ev_lenDk {d : Addr} {kvs : List (Key × V)} (h : Ev ta σ H (.ref d)) (hd : H d = some (.dK kvs)) : Ev (tCB rLenDk (tCons ta tNil)) σ H (.int (kvs.length : Int)) := fun H1 e Q q =>
  h H1 e _ fun H2 e2 => ⟨d, kvs, rfl, e2 _ _ (e _ _ hd), q H2 e2⟩
def rIntS : List V → Hp → VK → Prop := fun xs H Q => ∃ a n, xs = [V.str a] ∧ PySem.intText? a = some n ∧ a.length ≤ 640 ∧ Q (.int n) H
theorem ev_intS {z : Str} {n : Int} (h : Ev ta σ H (.str z)) (hz : PySem.intText? z = some n) (hl : z.length ≤ 640) : Ev (tCB rIntS (tCons ta tNil)) σ H (.int n) := fun H1 e Q q =>
  h H1 e _ fun H2 e2 => ⟨z, n, rfl, hz, hl, q H2 e2⟩
theorem ev_cut1 {z : Str} (h : Ev ta σ H (.str z)) (hl : z.length ≤ 100000) : Ev (tSl rSlS ta (tPart (tC (.int 1))) tNoPart) σ H (.str (cutS z (some 1) none)) := fun H1 e Q q =>
  h H1 e _ fun H2 e2 => ⟨1, rfl, z, rfl, sz_of hl, q H2 e2⟩
def ForLC (K : PySem.W.Frag) (g : TG) (tu : TS) (D : Ends) (σ : L2.St) : VK := fun x H1 => ∃ a, x = .ref a ∧ (∃ xs, SqL K H1 a xs) ∧ ∃ W : Nat → Nat → L2.St → Hp → Prop, (∃ m, W 0 m σ H1) ∧ ∀ i m σ H, W i m σ H →
  ((Itl K a).stop i H ∧ D.nx σ H) ∨ ((Itl K a).go i H ∧ ∃ N : L2.St → Hp → Prop, (∀ σ' H', N σ' H' → ∃ m', m' < m ∧ W (i + 1) m' σ' H') ∧ ∀ x H', (Itl K a).yld i H x H' → g x σ H' fun σ2 H2 => tu { D with nx := N, ct := N, bk := D.nx } σ2 H2)
theorem q_forLr (h : tl σ H (ForLC K g tu { D with nx := tz D } σ)) : tSeq (tFor (iList K tl) g tu) tz D σ H := h
abbrev s_law : Stmt := top 38
abbrev n_law : List Str := ["_law_script", "_law_box", "_law_program_here", "_law_sets", "_law_registers", "_law_given", "_law_name", "_law_staying", "_law_row", "_law_places", "_law_full", "_law_other"]
theorem sc_law : FnScope ["_law_script", "_law_box", "_law_program_here", "_law_sets", "_law_registers", "_law_given", "_law_name", "_law_staying", "_law_row", "_law_places", "_law_full", "_law_other"] ["_law_script"] (defScope s_law) := ⟨rfl, rfl, rfl, by decide +kernel, rfl, by decide +kernel, by decide +kernel⟩
theorem ok_law {T : Addr} (F : FnP K "law" "law" s_law f fd) (B : Blt mg) (C__law_digits : Cal P w K mg base "_law_digits" 2 ["_law_script", "_law_first", "_law_last"] (spDigits K)) (C__law_draw : Cal P w K mg base "_law_draw" 1 ["_law_box", "_law_many"] spDraw)
    (C__law_program : Cal P w K mg base "_law_program" 4 ["_law_box"] spProg) (C_definition_sets : Cal P w K mg base "definition_sets" 7 ["program"] spDsets) (C_assign : Cal P w K mg base "assign" 7 ["program", "registers"] (spAssign T))
    (C_pressure : Cal P w K mg base "pressure" 8 ["program"] spPress) : FnOk P w K mg base CX0 9 f fd ["_law_script"] (spLaw T K) := by
  refine F.ok sc_law (fun vs H Q E h => ?_) (fun cdv A outer s H vs Q E hr h => ⟨_, PSs.nox ((pss_cons (ps_set (i := 1) sc_law.nd rfl (Or.inl rfl) (pe_lst (pa_cons (pe_cal C__law_digits (hr.mono (by decide)) (by rfl) (pa_cons (pv 0) (pa_cons pe_int (pa_cons pe_int pa_nil)))) (pa_cons pe_int pa_nil)))) (pss_cons (ps_set (i := 2) sc_law.nd rfl (Or.inl rfl) (pe_cal C__law_program (hr.mono (by decide)) (by rfl) (pa_cons (pv 1) pa_nil))) (pss_cons (ps_set (i := 3) sc_law.nd rfl (Or.inl rfl) (pe_cal C_definition_sets (hr.mono (by decide)) (by rfl) (pa_cons (pv 2) pa_nil))) (pss_cons (ps_for PassesOwn.never rfl (pi_list (pe_lst (pa_cons (pe_cal C__law_draw (hr.mono (by decide)) (by rfl) (pa_cons (pv 1) (pa_cons pe_int pa_nil))) (pa_cons (pe_op op_add pe_int (pe_cal C__law_draw (hr.mono (by decide)) (by rfl) (pa_cons (pv 1) (pa_cons pe_int pa_nil)))) pa_nil)))) (pg_name (i := 4) sc_law.nd rfl (Or.inr rfl)) (pss_cons (ps_set (i := 5) sc_law.nd rfl (Or.inr rfl) (pe_callTy (call_dictT rfl) (by rfl) B.dict (by decide +kernel) (pa_cons (pe_cal C_assign (hr.mono (by decide)) (by rfl) (pa_cons (pv 2) (pa_cons (pv 4) pa_nil))) pa_nil))) (pss_cons (ps_set (i := 7) sc_law.nd rfl (Or.inr rfl) (pe_lock (pe_lc (own := [("_law_name", 6)]) (g := (gName 6)) rfl sc_law.nd (pi_keys (pv 5)) (blkOk_by (own := [("_law_name", 6)]) (N := ["_law_script", "_law_box", "_law_program_here", "_law_sets", "_law_registers", "_law_given", "_law_name", "_law_staying", "_law_row", "_law_places", "_law_full", "_law_other"]) (sc := (defScope s_law)) (by decide +kernel)) (fun _ _ _ _ _ => (pg_name (i := 6) sc_law.nd rfl (Or.inl rfl))) (fun _ _ _ _ _ => pts_one (pt_cmpR op_eq (pe_ix ix_str (pe_dget (hu_of hr) (pv 5) (pv 6) (fun _ _ => rfl)) pe_int (fun _ _ => rfl)) pe_str (nomark _))) (fun _ _ _ _ _ => (pv 6))))) (pss_cons (ps_for PassesOwn.never rfl (pi_tup (pv 3)) (pg_name (i := 8) sc_law.nd rfl (Or.inl rfl)) (pss_cons (ps_setLc (i := 9) (own := [("_law_name", 6)]) (g := (gName 6)) rfl sc_law.nd rfl rfl (sw_true rfl rfl rfl (by decide +kernel)) (pi_tup (pv 8)) (blkOk_by (own := [("_law_name", 6)]) (N := ["_law_script", "_law_box", "_law_program_here", "_law_sets", "_law_registers", "_law_given", "_law_name", "_law_staying", "_law_row", "_law_places", "_law_full", "_law_other"]) (sc := (defScope s_law)) (by decide +kernel)) (fun _ _ _ _ _ => (pg_name (i := 6) sc_law.nd rfl (Or.inl rfl))) (fun _ _ _ _ _ => pts_nil) (fun _ _ _ _ _ => (pe_dget (hu_of hr) (pv 5) (pv 6) (fun _ _ => rfl)))) (pss_one (ps_if (PW.pt (pw_or (pt_cmpR op_ne (pe_lenSetS rfl (by rfl) B.len (by rfl) B.set (pv 9)) (pe_callB call_len_seq (by rfl) B.len PySem.boot_len (pa_cons (pv 9) pa_nil)) (nomark _)) (pw_or1 (pt_cmpR op_gt (pe_callB call_len_seq (by rfl) B.len PySem.boot_len (pa_cons (pe_lc (own := [("_law_name", 6)]) (g := (gName 6)) rfl sc_law.nd (pi_tup (pv 8)) (blkOk_by (own := [("_law_name", 6)]) (N := ["_law_script", "_law_box", "_law_program_here", "_law_sets", "_law_registers", "_law_given", "_law_name", "_law_staying", "_law_row", "_law_places", "_law_full", "_law_other"]) (sc := (defScope s_law)) (by decide +kernel)) (fun _ _ _ _ _ => (pg_name (i := 6) sc_law.nd rfl (Or.inl rfl))) (fun _ _ _ _ _ => pts_one (pt_cmpR (op_inK (K := K) rfl) (pv 6) (pv 7) (by rfl))) (fun _ _ _ _ _ => (pv 6))) pa_nil)) (pv 4) (nomark _))))) (pss_one (ps_ret pe_bl)) pss_nil)))) (pss_cons (ps_lock (ps_for PassesOwn.never rfl (pi_keys (pv 5)) (pg_name (i := 6) sc_law.nd rfl (Or.inr rfl)) (pss_one (ps_if (pt_cmpR op_notIn_seq (pv 6) (pv 7) (by rfl)) (pss_cons (ps_setLc (i := 10) (own := [("_law_row", 8)]) (g := (gName 8)) rfl sc_law.nd rfl rfl (sw_true rfl rfl rfl (by decide +kernel)) (pi_tup (pv 3)) (blkOk_by (own := [("_law_row", 8)]) (N := ["_law_script", "_law_box", "_law_program_here", "_law_sets", "_law_registers", "_law_given", "_law_name", "_law_staying", "_law_row", "_law_places", "_law_full", "_law_other"]) (sc := (defScope s_law)) (by decide +kernel)) (fun _ _ _ _ _ => (pg_name (i := 8) sc_law.nd rfl (Or.inl rfl))) (fun _ _ _ _ _ => pts_one (PW.pt (pw_and (pt_cmpR (op_inK (K := K) rfl) (pv 6) (pv 8) (by rfl)) (pw_and1 (pt_cmpR op_ge (pe_callB (call_lenK (K := K) rfl) (by rfl) B.len PySem.boot_len (pa_cons (pe_lc (own := [("_law_other", 11)]) (g := (gName 11)) rfl sc_law.nd (pi_tupK (K := K) rfl (pv 8)) (blkOk_in (own := [("_law_other", 11)]) (N := ["_law_script", "_law_box", "_law_program_here", "_law_sets", "_law_registers", "_law_given", "_law_name", "_law_staying", "_law_row", "_law_places", "_law_full", "_law_other"]) (sc0 := (defScope s_law)) rfl (by decide +kernel)) (fun _ _ _ _ _ => (pg_name (i := 11) sc_law.nd rfl (Or.inl rfl))) (fun _ _ _ _ _ => pts_one (pt_cmpR (op_inK (K := K) rfl) (pv 11) (pv 7) (by rfl))) (fun _ _ _ _ _ => (pv 11))) pa_nil)) (pv 4) (nomark _)))))) (fun _ _ _ _ _ => (pv 8))) (pss_one (ps_if (pt_cmpR op_eq (pe_callB call_len_seq (by rfl) B.len PySem.boot_len (pa_cons (pv 10) pa_nil)) pe_int (nomark _)) (pss_one (ps_ret pe_bl)) pss_nil))) pss_nil)))) (pss_cons (ps_if (PW.pt (pw_and (pt_cmpR op_ge (pv 4) (pe_cal C_pressure (hr.mono (by decide)) (by rfl) (pa_cons (pv 2) pa_nil)) (nomark _)) (pw_and1 (pt_cmpR op_ne (pe_callB call_len_seq (by rfl) B.len PySem.boot_len (pa_cons (pv 7) pa_nil)) (pe_callB call_lenD (by rfl) B.len PySem.boot_len (pa_cons (pv 5) pa_nil)) (nomark _))))) (pss_one (ps_ret pe_bl)) pss_nil) (pss_one (ps_if (pt_cmpR op_gt (pe_callB call_len_seq (by rfl) B.len PySem.boot_len (pa_cons (pe_lc (own := [("_law_name", 6)]) (g := (gName 6)) rfl sc_law.nd (pi_list (pv 7)) (blkOk_by (own := [("_law_name", 6)]) (N := ["_law_script", "_law_box", "_law_program_here", "_law_sets", "_law_registers", "_law_given", "_law_name", "_law_staying", "_law_row", "_law_places", "_law_full", "_law_other"]) (sc := (defScope s_law)) (by decide +kernel)) (fun _ _ _ _ _ => (pg_name (i := 6) sc_law.nd rfl (Or.inl rfl))) (fun _ _ _ _ _ => pts_one (pt_cmpR op_ge (pe_callTy call_int_str (by rfl) B.int (by decide +kernel) (pa_cons (pe_slice sl_str (pe_dget (hu_of hr) (pv 5) (pv 6) (fun _ _ => rfl)) (po_some pe_int) po_none) pa_nil)) (pe_callB (call_max2 rfl) (by rfl) B.max (by decide +kernel) (pa_cons pe_int (pa_cons (pv 4) pa_nil))) (nomark _))) (fun _ _ _ _ _ => (pv 6))) pa_nil)) pe_int (nomark _)) (pss_one (ps_ret pe_bl)) pss_nil)))))))) (pss_one (ps_ret pe_bl))))))), ?_⟩)
  · obtain ⟨a, ns, rfl, _⟩ := h
    rfl
  · obtain ⟨a, ns, rfl, hS, hT, k⟩ := h
    refine q_raw (r_lst (r_cons (r_call3 (r_ev (ev_var rfl) fun H1 e1 => r_ev ev_c fun H2 e2 => r_ev ev_c fun H3 e3 => ⟨a, ns, rfl, ex_l (e1.trans (e2.trans e3)) hS, fun p H4 ds hp4 e4 hd => r_cons (r_ev ev_c fun H5 e5 => r_nil ⟨(by show 2 ≤ sizeLine; decide), fun b hb5 => ?_⟩)⟩))))
    have e05 := e1.trans (e2.trans (e3.trans (e4.trans e5)))
    have hB : Bx (upd H5 b (.lst [.ref p, intV 0])) b := ⟨p, ds, by rw [upd_ne (ne_of_none (e5 _ _ hd) hb5)]; exact e5 _ _ hd, 0, upd_same⟩
    have hT6 : TabQ (upd H5 b (.lst [.ref p, intV 0])) T lpos lq := hT.ext fun a o h => (e05.trans (Ex.new hb5)) a o h
    show tSeq _ _ _ _ (upd H5 b (.lst [.ref p, intV 0]))
    generalize upd H5 b (.lst [.ref p, intV 0]) = H6 at hB hT6
    refine q_raw (r_call1 (r_ev (ev_var rfl) fun H7 e7 => ⟨b, rfl, hB.e e7, fun v H8 G hP SG W h16 x8 => ?_⟩))
    have hT8 := (hT6.ext fun a o h => e7 a o h).xb (hB.e e7) x8
    have hB8 := (hB.e e7).x x8
    refine q_raw (r_call1 (r_ev (ev_var rfl) fun H9 e9 => ⟨v, G, rfl, hP.mono (tx e9), SG, W, fun ps HA ws hps eA hws hwp => ?_⟩))
    have e9A := e9.trans eA
    refine q_forLr (r_lst (r_cons (r_draw (m := 3) (ev_var rfl) ev_c (by decide) (hB8.e e9A) fun r1 HB hr1 xB => r_cons (r_op (r_ev ev_c fun HC eC => r_draw (m := 4) (ev_var rfl) ev_c (by decide) (((hB8.e e9A).x xB).e eC) fun r2 HD hr2 xD => r_I0 (r_nil ⟨(by show 2 ≤ sizeLine; decide), fun lr hlr => ?_⟩))))))
    have h2r : V.int (2 + (r2 : Int)) = intV (2 + r2) := by show V.int _ = V.int ((2 + r2 : Nat) : Int); congr 1
    show ForLC K _ _ _ _ (V.ref lr) (upd HD lr (.lst [intV r1, V.int (2 + (r2 : Int))]))
    rw [h2r]
    have xAD : XB b HA HD := (xB.e eC).trans xD
    have hBA := hB8.e e9A
    have tAE : TX HA (upd HD lr (.lst [intV r1, intV (2 + r2)])) := (xAD.tx hBA).trans (tx (Ex.new hlr))
    have hTE : TabQ (upd HD lr (.lst [intV r1, intV (2 + r2)])) T lpos lq := ((hT8.ext fun a o h => e9A a o h).xb hBA xAD).ext fun a o h => (Ex.new hlr) a o h
    have hlrE : upd HD lr (.lst [intV r1, intV (2 + r2)]) lr = some (.lst [intV r1, intV (2 + r2)]) := upd_same
    generalize upd HD lr (.lst [intV r1, intV (2 + r2)]) = HE at tAE hTE hlrE
    have hPE := hP.mono ((tx e9A).trans tAE)
    have hpsE := tAE _ _ hws
    have hwpE : Paired (StrsAt HE) ws (dsets G) := Paired.mapP hwp fun v b q => q.mono tAE
    have ndG : (defsP G).Nodup := by rw [defsP_eq]; exact W.nd
    have dok := dsets_ok SG W
    refine ⟨lr, rfl, ⟨_, sq_of hlrE⟩, for_list (xs := [intV r1, intV (2 + r2)]) (fun i σ' H' => (∃ o4 o5 o6 o7 o8 o9 o10 o11, σ' = [some (.ref a), some (.ref b), some v, some (.ref ps), o4, o5, o6, o7, o8, o9, o10, o11]) ∧ TX HE H' ∧ TabQ H' T lpos lq ∧ H' lr = some (.lst [intV r1, intV (2 + r2)]))
      ⟨⟨none, none, none, none, none, none, none, none, rfl⟩, TX.refl _, hTE, hlrE⟩ (fun i σ' H' _ ⟨_, _, _, e⟩ => sq_of e) ?_ ?_⟩
    · rintro i x σ' H' hx ⟨⟨o4, o5, o6, o7, o8, o9, o10, o11, rfl⟩, tE, hTq, hlrv⟩
      obtain ⟨R, rfl⟩ : ∃ R, x = intV R := by
        have := List.mem_of_getElem? hx
        rcases List.mem_cons.mp this with z | z
        · exact ⟨_, z⟩
        · exact ⟨_, List.mem_singleton.mp z⟩
      show tSeq _ _ _ _ H'
      refine q_raw (r_cb1 (r_call2 (r_ev (ev_var rfl) fun F1 f1 => r_ev (ev_var rfl) fun F2 f2 => ⟨v, G, R, rfl, hPE.mono (tE.trans (tx (f1.trans f2))), SG, W, hTq.ext fun a o h => (f1.trans f2) a o h, fun pq F3 oq pa out L f3 hT3 hpq hcls hdict hpa A => ⟨pq, oq, pa, locK (defsP G) L, rfl, hpq, hcls, hdict, pd_map (fun x => (Sum.inr x, V.str (L x))) (fun p x h => st_of h) hpa, fun dg hdg => ?_⟩⟩)))
      rw [merge_lock ndG]
      have t3 : TX HE F3 := tE.trans ((tx (f1.trans f2)).trans (tx_n f3))
      have t4 : TX HE (upd F3 dg (.dK (locK (defsP G) L))) := t3.trans (tx (Ex.new hdg))
      have hT4 : TabQ (upd F3 dg (.dK (locK (defsP G) L))) T lpos lq := hT3.ext fun a o h => (Ex.new hdg) a o h
      have hlr4 : upd F3 dg (.dK (locK (defsP G) L)) lr = some (.lst [intV r1, intV (2 + r2)]) := (Ex.new hdg) _ _ (f3 _ _ ((f1.trans f2) _ _ hlrv) fun _ z => by cases z)
      have hdg4 : upd F3 dg (.dK (locK (defsP G) L)) dg = some (.dK (locK (defsP G) L)) := upd_same
      generalize upd F3 dg (.dK (locK (defsP G) L)) = F4 at t4 hT4 hlr4 hdg4
      have hkk : (locK (defsP G) L).map (·.1) = (defsP G).map Sum.inr := by unfold locK; rw [List.map_map]; rfl
      refine q_asgLE (d := dg) (u := .dK (locK (defsP G) L)) (xs := (stl out (defsP G)).map V.str) hdg4 trivial (fun od => el_filter (fun y => !decide (y ∈ out)) (ei_keysV (ev_var rfl) upd_same hkk) (by omega) (fun _ => rfl) (fun _ => rfl) fun j y Hy hy ey => ?_) fun st F5 hst f5 hstv => ?_
      · have hyd := List.mem_of_getElem? hy
        obtain ⟨n, hn1, hn2, hn3⟩ := loc_c A hyd
        have hlen := loc_len A hyd
        refine et_is (et_T (ev_op (ev_op (ev_dgetF (k := Sum.inr y) (ev_var rfl) (ev_var rfl) (ey _ _ upd_same) (locK_at hyd)) ev_c (rv_ixS (c := if y ∈ out then 115 else 114) (by omega) (atI_nat (j := 0) (by rw [hn3]; exact pf_at _)))) ev_c (rv_eq rfl))) ?_
        rw [isR]
        by_cases z : y ∈ out <;> simp [z]
      have t5 : TX HE F5 := t4.trans (tx f5)
      have hdg5 := f5 _ _ hdg4
      refine q_forT (ev_var rfl) (st_of (t5 _ _ hpsE)) (fun i σ2 H2 => (∃ o6 o8 o9 o10 o11, σ2 = [some (.ref a), some (.ref b), some v, some (.ref ps), some (intV R), some (.ref dg), o6, some (.ref st), o8, o9, o10, o11]) ∧ Ex F5 H2)
        (fun H2 e2 => ⟨⟨_, _, _, _, _, rfl⟩, e2⟩) (fun i σ2 H2 _ ⟨_, e2⟩ => st_of (tx e2 _ _ (t5 _ _ hpsE))) ?_ ?_
      · rintro i2 x σ2 H2 hx ⟨⟨o6, o8, o9, o10, o11, rfl⟩, e2⟩
        obtain ⟨S, hS2, pr, rfl, hpr⟩ := pd_get hwpE hx
        have hSd := List.mem_of_getElem? hS2
        have hSnd := dok.nd S hSd
        have hSsub := dok.sub S hSd
        have hS16 : S.length ≤ 16 := Nat.le_trans (SF.nd_sub hSnd hSsub) h16
        have hpr2 := (t5.trans (tx e2)) _ _ hpr
        refine q_asgL (el_places rfl rfl rfl (e2 _ _ hdg5) hpr2 hSsub (by omega)) fun pl F6 hpl f6 hplv => ?_
        refine s_when (D := { nx := _, rt := _, bk := _, ct := _ }) (b := false) (et_is (et_or (et_T (ev_op (ev_lenSet (ev_var rfl) hplv (by rw [List.length_map]; omega) (A_nodup SG W A hSd)) (ev_lenL (ev_var rfl) hplv) (rv_ne rfl))) fun _ => et_T (ev_op (ev_lenN2 (xs := stl out S) (by
          rw [← stay_filter hSsub]
          exact el_filter (fun x => decide (x ∈ stl out (defsP G))) (ei_map (ei_tup (K := K) (ev_var rfl) (f6 _ _ hpr2))) (by omega) (fun _ => rfl) (fun _ => rfl) fun j y Hy hy ey => et_is (et_T (ev_op (ev_var rfl) (ev_var rfl) (rv_isL (sq_of (ey _ _ (f6 _ _ (e2 _ _ hstv)))) rfl (flat_strs _)))) (inV_eq y _))) (ev_var rfl) rv_I0)) (by
            simp only [List.length_map]
            have := A.fit S hSd
            have hn : ¬ (R : Int) < ((stl out S).length : Int) := by omega
            rw [decide_eq_false hn]
            simp)) (fun hb => nomatch hb) (fun _ F7 f7 => ⟨⟨_, _, _, _, _, rfl⟩, e2.trans (f6.trans f7)⟩)
      · rintro σ2 F6 ⟨⟨o6, o8, o9, o10, o11, rfl⟩, e2⟩
        have hdg6 := e2 _ _ hdg5
        have t6 : TX HE F6 := t5.trans (tx e2)
        refine ⟨dg, .dK (locK (defsP G) L), hdg6, trivial, fun od => s_forI (ei_keysV (ev_var rfl) upd_same hkk) fun Ha ea => ⟨fun i3 σ3 H3 => (∃ o6 o8 o9 o10 o11, σ3 = [some (.ref a), some (.ref b), some v, some (.ref ps), some (intV R), some (.ref dg), o6, some (.ref st), o8, o9, o10, o11]) ∧ Ex Ha H3,
          ⟨⟨_, _, _, _, _, rfl⟩, Ex.refl _⟩, fun i3 σ3 H3 p => p.2, ?_, ?_⟩⟩
        · rintro i3 x σ3 H3 H3' hi3 ⟨⟨o6, o8, o9, o10, o11, rfl⟩, e3b⟩ ⟨rfl, hx⟩
          rw [List.getElem?_map] at hx
          obtain ⟨y, hy⟩ : ∃ y, (defsP G)[i3]? = some y := ⟨_, List.getElem?_eq_getElem hi3⟩
          rw [hy] at hx
          cases hx
          have hyd := List.mem_of_getElem? hy
          have keep : ∀ {p : Addr} {o : HO}, p ≠ dg → F6 p = some o → H3' p = some o := fun {p o} n h => e3b _ _ (ea _ _ (by rw [upd_ne n]; exact h))
          have nst : st ≠ dg := (ne_of_none hdg4 hst).symm
          have hst3 := keep nst (e2 _ _ hstv)
          have tF : TX F6 H3' := (tx_of hdg6 fun xs z => by cases z).trans ((tx ea).trans (tx e3b))
          have hps3 := (t6.trans tF) _ _ hpsE
          refine s_when (D := ⟨_, _, _, _⟩) (b := decide (y ∈ out)) (et_is (et_T (ev_op (ev_var rfl) (ev_var rfl) (rv_niL (sq_of hst3) rfl (flat_strs _)))) (by
            show (!inV (V.str y) ((stl out (defsP G)).map V.str)) = _
            rw [inV_eq]
            by_cases z : y ∈ out
            · rw [decide_eq_true z, decide_eq_false (fun q => (mem_stl.mp q).2 z)]
              rfl
            · rw [decide_eq_false z, decide_eq_true (mem_stl.mpr ⟨hyd, z⟩)]
              rfl)) (fun hb H5 e5 => ?_) (fun hb H5 e5 => ⟨⟨_, _, _, _, _, rfl⟩, e3b.trans e5⟩)
          obtain ⟨S0, hS0, hyS0, hR0⟩ := A.most y (of_decide_eq_true hb)
          have hwl := pd_len hwpE
          have tE5 : TX HE H5 := t6.trans (tF.trans (tx e5))
          have q := elp_lcn (R := StrsAt) (wi := iTup K (tVar 3)) (σ := [some (.ref a), some (.ref b), some v, some (.ref ps), some (intV R), some (.ref dg), some (.str y), some (.ref st), o8, o9, o10, o11]) (H := H5) (t := tAnd (tTest (tOp (rIn K false) (tVar 6) (tVar 8))) (tTest (tOp (rI0 fun i j => .bl (decide (j ≤ i))) (tCB (rLenS K) (tCons (tLc (iTup K (tVar 8)) (gName 11) (tTest (tOp (rIn K false) (tVar 11) (tVar 7))) (tVar 11) [11]) tNil)) (tVar 4)))) (te := tVar 8) (vs := [8]) (j := 8) mono_strs (ei_tup (K := K) (ev_var rfl) (tE5 _ _ hpsE)) (by have := dok.len; omega)
            (fun i => (dsets G)[i]?.bind fun S => if y ∈ S ∧ R ≤ (stl out S).length then some S else none) (fun x => rfl) (fun i H' x H'' y => y.1) (fun i x H' hi e yv => ?_) (fun i x b H' hi e yv hb2 => ?_)
          · rw [hwl, fm_list] at q
            refine q_asgLP q fun pf F9 vs9 hpf f9 h9 hp9 => ?_
            have hlen9 : 0 < vs9.length := by
              rw [pd_len hp9]
              exact List.length_pos_of_mem (List.mem_filterMap.mpr ⟨S0, hS0, if_pos ⟨hyS0, hR0⟩⟩)
            exact s_when (D := ⟨_, _, _, _⟩) (b := false) (et_is (et_T (ev_op (ev_lenL (ev_var rfl) h9) ev_c (rv_eq rfl))) (decide_eq_false fun z => by have := V.int.inj z; omega)) (fun hb => nomatch hb) fun _ FA fA => ⟨⟨_, _, _, _, _, rfl⟩, e3b.trans (e5.trans (f9.trans fA))⟩
          · obtain ⟨S, hS2, pr, rfl, hpr⟩ := pd_get hwpE yv.2
            have hSd := List.mem_of_getElem? hS2
            have hSsub := dok.sub S hSd
            have hSnd := dok.nd S hSd
            have hS16 : S.length ≤ 16 := Nat.le_trans (SF.nd_sub hSnd hSsub) h16
            have hpr2 := (tE5.trans (tx e)) _ _ hpr
            rw [hS2]
            refine et_is (et_and (et_T (ev_op (ev_var rfl) (ev_var rfl) (rv_isT (st_of hpr2) rfl (flat_strs _)))) fun _ => et_T (ev_op (ev_lenN2 (xs := stl out S) (by
              rw [← stay_filter hSsub]
              exact el_filter (fun x => decide (x ∈ stl out (defsP G))) (ei_map (ei_tup (K := K) (ev_var rfl) hpr2)) (by omega) (fun _ => rfl) (fun _ => rfl) fun j y Hy hy ey => et_is (et_T (ev_op (ev_var rfl) (ev_var rfl) (rv_isL (sq_of (ey _ _ (e _ _ (e5 _ _ hst3)))) rfl (flat_strs _)))) (inV_eq y _))) (ev_var rfl) rv_I0)) ?_
            rw [inV_eq]
            show (decide (y ∈ S) && decide ((R : Int) ≤ ((stl out S).length : Int))) = Option.isSome (if y ∈ S ∧ R ≤ (stl out S).length then some S else none)
            by_cases z1 : y ∈ S
            · by_cases z2 : R ≤ (stl out S).length
              · rw [if_pos ⟨z1, z2⟩, decide_eq_true z1, decide_eq_true (by omega)]
                rfl
              · rw [if_neg (fun z => z2 z.2), decide_eq_true z1, decide_eq_false (by omega)]
                rfl
            · rw [if_neg (fun z => z1 z.1), decide_eq_false z1]
              rfl
          · obtain ⟨S, hS2, pr, rfl, hpr⟩ := pd_get hwpE yv.2
            rw [hS2] at hb2
            have hb2 : (if y ∈ S ∧ R ≤ (stl out S).length then some S else none) = some b := hb2
            split at hb2
            · cases hb2
              exact evr (ev_var rfl) fun H2 e2 => ⟨pr, rfl, (tE5.trans (tx (e.trans e2))) _ _ hpr⟩
            · cases hb2
        · rintro σ3 H3 ⟨⟨o6, o8, o9, o10, o11, rfl⟩, e3b⟩
          refine ⟨e3b _ _ (ea _ _ upd_same), ?_⟩
          have e67 : Ex F6 (upd H3 dg (.dK (locK (defsP G) L))) := ex_unlock hdg6 (ea.trans e3b)
          show tSeq _ _ _ _ (upd H3 dg (.dK (locK (defsP G) L)))
          have hdg7 : upd H3 dg (.dK (locK (defsP G) L)) dg = some (.dK (locK (defsP G) L)) := upd_same
          generalize upd H3 dg (.dK (locK (defsP G) L)) = F7 at e67 hdg7
          have hst7 := e67 _ _ (e2 _ _ hstv)
          have t7 : TX HE F7 := t6.trans (tx e67)
          have last : ∀ (DD : Ends) (F8 : Hp), Ex F7 F8 → (∀ F9, Ex F8 F9 → DD.nx [some (.ref a), some (.ref b), some v, some (.ref ps), some (intV R), some (.ref dg), o6, some (.ref st), o8, o9, o10, o11] F9) →
              tIfS (tTest (tOp (rI0 fun i j => .bl (decide (j < i))) (tCB (rLenS K) (tCons (tLc (iList K (tVar 7)) (gName 6) (tTest (tOp (rI0 fun i j => .bl (decide (j ≤ i))) (tCB rIntS (tCons (tSl rSlS (tDGet (tVar 5) (tVar 6)) (tPart (tC (.int 1))) tNoPart) tNil)) (tCB rMax2 (tCons (tC (.int 1)) (tCons (tVar 4) tNil))))) (tVar 6) [6]) tNil)) (tC (.int 0)))) (tRet (tC (.bl false))) tNext DD [some (.ref a), some (.ref b), some v, some (.ref ps), some (intV R), some (.ref dg), o6, some (.ref st), o8, o9, o10, o11] F8 := by
            intro DD F8 e78 hDD
            have hsl : (stl out (defsP G)).length ≤ 16 := Nat.le_trans (List.length_filter_le ..) h16
            have hf := el_filter (σ := [some (.ref a), some (.ref b), some v, some (.ref ps), some (intV R), some (.ref dg), o6, some (.ref st), o8, o9, o10, o11]) (H := F8) (F := V.str) (l := stl out (defsP G)) (vs := [6]) (j := 6) (wi := iList K (tVar 7)) (t := tTest (tOp (rI0 fun i j => .bl (decide (j ≤ i))) (tCB rIntS (tCons (tSl rSlS (tDGet (tVar 5) (tVar 6)) (tPart (tC (.int 1))) tNoPart) tNil)) (tCB rMax2 (tCons (tC (.int 1)) (tCons (tVar 4) tNil))))) (fun _ => false) (ei_map (ei_lst (K := K) (ev_var rfl) (e78 _ _ hst7))) (by omega) (fun _ => rfl) (fun _ => rfl) fun j y Hy hy ey => (by
              obtain ⟨hyd, hyo⟩ := mem_stl.mp (List.mem_of_getElem? hy)
              obtain ⟨n, hn1, hn2, hn3⟩ := loc_c A hyd
              have hlen := loc_len A hyd
              have hnR := hn2 hyo
              have hcut : cutS (L y) (some 1) none = numS n := by rw [hn3]; exact pf_cut _
              have hnl := numS_len (n := n) (by omega)
              refine et_is (et_T (ev_op (ev_intS (n := (n : Int)) (ev_cut1 (ev_dget (k := Sum.inr y) (ev_var rfl) (ev_var rfl) (ey _ _ (e78 _ _ hdg7)) (locK_at hyd)) (by omega)) (by rw [hcut]; exact num_read (by omega)) (by rw [hcut]; omega)) (ev_max2 ev_c (ev_var rfl)) rv_I0)) ?_
              refine decide_eq_false ?_
              split <;> omega)
            have hnil : (stl out (defsP G)).filter (fun _ => false) = [] := by simp
            rw [hnil] at hf
            exact s_when (D := DD) (b := false) (et_is (et_T (ev_op (ev_lenN hf) ev_c rv_I0)) (by rfl)) (fun hb => nomatch hb) fun _ F9 f9 => hDD F9 f9
          refine r_ifq (r_and (r_test (r_op (r_ev (ev_var rfl) fun G1 g1 => r_call1 (r_ev (ev_var rfl) fun G2 g2 => ⟨v, G, rfl, hPE.mono (t7.trans (tx (g1.trans g2))), SG, W, fun G3 m g3 hm => ⟨_, _, rfl, rfl, _, rfl, ?_⟩⟩)))))
          have g13 := g1.trans (g2.trans g3)
          by_cases hmR : m ≤ (R : Int)
          · rw [decide_eq_true hmR, if_pos rfl]
            have ho := A_most A hm hmR
            refine r_evT (b := false) (et_is (et_T (ev_op (ev_lenL (ev_var rfl) (g13 _ _ hst7)) (ev_lenDk (ev_var rfl) (g13 _ _ hdg7)) (rv_ne rfl))) ?_) fun G4 g4 => ?_
            · have e1 : stl out (defsP G) = defsP G := by rw [ho]; unfold stl; simp
              rw [e1]
              have e2 : (locK (defsP G) L).length = ((defsP G).map V.str).length := by unfold locK; rw [List.length_map, List.length_map]
              rw [e2, decide_eq_true rfl]
              rfl
            · exact last _ G4 (g13.trans g4) fun F9 f9 => ⟨⟨_, _, _, _, _, _, _, _, rfl⟩, t7.trans (tx (g13.trans (g4.trans f9))), hT4.ext fun a o h => (f5.trans (e2.trans (e67.trans (g13.trans (g4.trans f9))))) a o h, (f5.trans (e2.trans (e67.trans (g13.trans (g4.trans f9))))) _ _ hlr4⟩
          · rw [decide_eq_false hmR, if_neg Bool.false_ne_true]
            exact last _ G3 g13 fun F9 f9 => ⟨⟨_, _, _, _, _, _, _, _, rfl⟩, t7.trans (tx (g13.trans f9)), hT4.ext fun a o h => (f5.trans (e2.trans (e67.trans (g13.trans f9)))) a o h, (f5.trans (e2.trans (e67.trans (g13.trans f9)))) _ _ hlr4⟩
    · rintro σ' H' ⟨⟨o4, o5, o6, o7, o8, o9, o10, o11, rfl⟩, tE, hTq, hlrv⟩
      show tRet (tC (.bl true)) { nx := fun x H' => Q V.non H', rt := Q } [some (.ref a), some (.ref b), some v, some (.ref ps), o4, o5, o6, o7, o8, o9, o10, o11] H'
      exact s_ret ev_c fun H'' _ => k H''
end
end Sh
end

section
set_option Elab.async false
set_option linter.all false
set_option maxRecDepth 100000
set_option maxHeartbeats 8000000
/-! The head: what it tells. -/
namespace Sh
open PySem PySem.Spec PyProof.Rows L2
def dd (x : Str) (st : Stmt) : He.DefD := ⟨(x, none), x, x, defArgs st, defBody st, defScope st, [], []⟩
def dm (m q : Str) (st : Stmt) : He.DefD := ⟨("Living", some m), m, q, defArgs st, defBody st, defScope st, [], []⟩
def tops : List (Str × Stmt) := [("defined_by", s_defined_by), ("uses_of", s_uses_of), ("definitions", s_definitions), ("targets_of", s_targets_of), ("edges", s_edges), ("reached", s_reached), ("dominators", s_dominators), ("immediate", s_immediate), ("before_rows", s_before_rows), ("definition_sets", s_definition_sets),
  ("pressure", s_pressure), ("weights", s_weights), ("least_weight", s_least_weight), ("spill_some", s_spill_some), ("spilled", s_spilled), ("tree_order", s_tree_order), ("sets_by_blocks", s_sets_by_blocks), ("free_location", s_free_location), ("assign", s_assign),
  ("_law_cell", s_law_cell), ("_law_digits", s_law_digits), ("_law_draw", s_law_draw), ("_law_pick", s_law_pick), ("_law_shape", s_law_shape), ("_law_dominators_of", s_law_dominators_of), ("_law_reached", s_law_reached), ("_law_instruction", s_law_instruction), ("_law_arguments", s_law_arguments), ("_law_scope", s_law_scope), ("_law_program", s_law_program), ("law", s_law)]
def hfn : List He.DefD := tops.map (fun p => dd p.1 p.2) ++ [dm "__init__" "Living.__init__" s_init, dm "behind" "Living.behind" s_behind, dm "renew" "Living.renew" s_renew, dm "told" "Living.told" s_told, dm "sets" "Living.sets" s_sets]
def hfree : List Str := ["len", "range", "tuple", "list", "dict", "enumerate", "max", "min", "set", "str", "int", "all", "sorted"]
def hfa : List He.Fa := tops.map (fun p => .glo p.1) ++ hfree.map .free ++ [.glo "Living", .cls "Living", .noat "Living" "program", .noat "Living" "order", .noat "Living" "into", .noat "Living" "rows", .meth "Living" "behind", .meth "Living" "renew", .meth "Living" "told", .meth "Living" "sets", .mkr "Living"]
section
variable {P : Program} {w : World} {K : PySem.W.Frag} {mg : Str → Option Value} {h base : Heap}
theorem calOf {x : Str} {st : Stmt} {ps : List Str} {k : Nat} {sp : Sp} (X : K.In h) (G : h.Ns mainGlobals mg) (c : He.SaysD hfa hfn K) (i : Nat) (hi : tops[i]? = some (x, st))
    (bn : ∀ (kV doc pm : Value) (an : Option Addr) (cdv ct : Value) (us : List Value), us.length = ps.length → bindArgs (PySem.W.fnOf x x (defArgs st) (defBody st) (defScope st) .none kV doc pm an cdv ct) ⟨us, []⟩ = pure (ps.zip us))
    (ok : ∀ f fd, FnP K x x st f fd → (f = He.fAd K (x, none)) → FnOk P w K mg base CX0 k f fd ps sp) : Cal P w K mg base x k ps sp := by
  have hl := (List.getElem?_eq_some_iff.mp hi).1
  obtain ⟨fd, F⟩ := c.def_ i (d := dd x st) (by unfold hfn; rw [List.getElem?_append_left (by rw [List.length_map]; exact hl), List.getElem?_map, hi]; rfl)
  have hg : hfa[i]? = some (.glo x) := by
    unfold hfa
    rw [List.append_assoc, List.getElem?_append_left (by rw [List.length_map]; exact hl), List.getElem?_map, hi]
    rfl
  exact ⟨⟨_, fd, ok _ _ F rfl, He.glo_ok X G (c.fact i hg), F.kp, FunD.bindsN F bn⟩⟩
end
end Sh
end

section
set_option Elab.async false
set_option linter.all false
set_option maxRecDepth 100000
set_option maxHeartbeats 8000000
/-! The head: every def keeps its promise. -/
namespace Sh
open PySem PySem.Spec PyProof.Rows L2
theorem fnC_of {K : PySem.W.Frag} {x : Str} {st : Stmt} {f : Addr} {fd : FuncData} (F : FnP K x x st f fd) (e : f = He.fAd K (x, none)) : FnC K x x st f fd (He.codeOf K (x, none)) := by
  obtain ⟨oc, od, dV, kV, doc, pm, an, cdv, ct, osl, e1, lk, hcd, _, _⟩ := F.ex
  obtain ⟨cc, e2⟩ := He.codeIn_ref hcd
  subst e2
  have e3 : He.codeOf K (x, none) = cc := He.codeOf_eq (by rw [← e]; exact lk) (by rw [e1])
  rw [e3]
  exact ⟨oc, od, dV, kV, doc, pm, an, ct, osl, e1, lk, hcd⟩
section
variable {P : Program} {w : World} {K : PySem.W.Frag} {mg : Str → Option Value} {h base : Heap}
theorem all_ok {T f : Addr} {fd : FuncData} (X : K.In h) (G : h.Ns mainGlobals mg) (c : He.SaysD hfa hfn K) (TB : GxR.TabB base mg (He.codeOf K ("spilled", none)) T) (F : FnP K "law" "law" s_law f fd) :
    FnOk P w K mg base CX0 9 f fd ["_law_script"] (spLaw T K) := by
  have B : Blt mg := ⟨He.free_ok X G (c.fact 31), He.free_ok X G (c.fact 32), He.free_ok X G (c.fact 33), He.free_ok X G (c.fact 34), He.free_ok X G (c.fact 35), He.free_ok X G (c.fact 36), He.free_ok X G (c.fact 37), He.free_ok X G (c.fact 38), He.free_ok X G (c.fact 39), He.free_ok X G (c.fact 40), He.free_ok X G (c.fact 41), He.free_ok X G (c.fact 42), He.free_ok X G (c.fact 43)⟩
  have MGL : mg "Living" = some (.ref (He.ga K "Living")) := He.glo_ok X G (c.fact 44)
  have TL : TxL K (He.ga K "Living") := ⟨He.cls_ok (c.fact 45), He.noat_ok (c.fact 46), He.noat_ok (c.fact 47), He.noat_ok (c.fact 48), He.noat_ok (c.fact 49)⟩
  have M_behind : Meth K (He.ga K "Living") "behind" (He.ma K (He.ga K "Living") "behind") := He.meth_ok (c.fact 50)
  have M_renew : Meth K (He.ga K "Living") "renew" (He.ma K (He.ga K "Living") "renew") := He.meth_ok (c.fact 51)
  have M_told : Meth K (He.ga K "Living") "told" (He.ma K (He.ga K "Living") "told") := He.meth_ok (c.fact 52)
  have M_sets : Meth K (He.ga K "Living") "sets" (He.ma K (He.ga K "Living") "sets") := He.meth_ok (c.fact 53)
  have MLiving : Mk K (He.ga K "Living") (He.ma K (He.ga K "Living") "__init__") := He.mkr_ok (c.fact 54)
  have C__law_cell : Cal P w K mg base "_law_cell" 1 ["_law_script", "_law_k"] (spCellI K) := calOf X G c 19 rfl (fun _ _ _ _ _ _ us hl => match us, hl with | [_, _], _ => rfl) fun f fd F _ => ok__law_cell F B
  have C__law_digits : Cal P w K mg base "_law_digits" 2 ["_law_script", "_law_first", "_law_last"] (spDigits K) := calOf X G c 20 rfl (fun _ _ _ _ _ _ us hl => match us, hl with | [_, _, _], _ => rfl) fun f fd F _ => ok__law_digits F B C__law_cell
  have C__law_draw : Cal P w K mg base "_law_draw" 1 ["_law_box", "_law_many"] spDraw := calOf X G c 21 rfl (fun _ _ _ _ _ _ us hl => match us, hl with | [_, _], _ => rfl) fun f fd F _ => ok__law_draw F B
  have C__law_pick : Cal P w K mg base "_law_pick" 2 ["_law_box", "_law_rows"] spPick := calOf X G c 22 rfl (fun _ _ _ _ _ _ us hl => match us, hl with | [_, _], _ => rfl) fun f fd F _ => ok__law_pick F B C__law_draw
  have C__law_shape : Cal P w K mg base "_law_shape" 2 ["_law_box"] spShape := calOf X G c 23 rfl (fun _ _ _ _ _ _ us hl => match us, hl with | [_], _ => rfl) fun f fd F _ => ok__law_shape F B C__law_draw
  have C__law_reached : Cal P w K mg base "_law_reached" 1 ["_law_shape_here", "_law_without"] spLReached := calOf X G c 25 rfl (fun _ _ _ _ _ _ us hl => match us, hl with | [_, _], _ => rfl) fun f fd F _ => ok__law_reached F B
  have C__law_dominators_of : Cal P w K mg base "_law_dominators_of" 2 ["_law_shape_here"] spLDoms := calOf X G c 24 rfl (fun _ _ _ _ _ _ us hl => match us, hl with | [_], _ => rfl) fun f fd F _ => ok__law_dominators_of F B C__law_reached
  have C__law_instruction : Cal P w K mg base "_law_instruction" 3 ["_law_box", "_law_name", "_law_scope_here"] spInstr := calOf X G c 26 rfl (fun _ _ _ _ _ _ us hl => match us, hl with | [_, _, _], _ => rfl) fun f fd F _ => ok__law_instruction F B C__law_draw C__law_pick
  have C__law_arguments : Cal P w K mg base "_law_arguments" 3 ["_law_box", "_law_scope_here", "_law_count"] spArgs := calOf X G c 27 rfl (fun _ _ _ _ _ _ us hl => match us, hl with | [_, _, _], _ => rfl) fun f fd F _ => ok__law_arguments F B C__law_pick
  have C__law_scope : Cal P w K mg base "_law_scope" 1 ["_law_numbers", "_law_defined"] spScope := calOf X G c 28 rfl (fun _ _ _ _ _ _ us hl => match us, hl with | [_, _], _ => rfl) fun f fd F _ => ok__law_scope F B
  have C__law_program : Cal P w K mg base "_law_program" 4 ["_law_box"] spProg := calOf X G c 29 rfl (fun _ _ _ _ _ _ us hl => match us, hl with | [_], _ => rfl) fun f fd F _ => ok__law_program F B C__law_draw C__law_pick C__law_shape C__law_dominators_of C__law_instruction C__law_arguments C__law_scope
  have C_defined_by : Cal P w K mg base "defined_by" 1 ["instruction"] spDby := calOf X G c 0 rfl (fun _ _ _ _ _ _ us hl => match us, hl with | [_], _ => rfl) fun f fd F _ => ok_defined_by F 
  have C_definitions : Cal P w K mg base "definitions" 2 ["program"] spDefs := calOf X G c 2 rfl (fun _ _ _ _ _ _ us hl => match us, hl with | [_], _ => rfl) fun f fd F _ => ok_definitions F B C_defined_by
  have C_uses_of : Cal P w K mg base "uses_of" 1 ["row"] spUses := calOf X G c 1 rfl (fun _ _ _ _ _ _ us hl => match us, hl with | [_], _ => rfl) fun f fd F _ => ok_uses_of F 
  have C_before_rows : Cal P w K mg base "before_rows" 2 ["rows", "live"] spBefore := calOf X G c 8 rfl (fun _ _ _ _ _ _ us hl => match us, hl with | [_, _], _ => rfl) fun f fd F _ => ok_before_rows F B C_defined_by C_uses_of
  have C_targets_of : Cal P w K mg base "targets_of" 1 ["end"] spTg := calOf X G c 3 rfl (fun _ _ _ _ _ _ us hl => match us, hl with | [_], _ => rfl) fun f fd F _ => ok_targets_of F 
  have C_edges : Cal P w K mg base "edges" 2 ["program"] spEdges := calOf X G c 4 rfl (fun _ _ _ _ _ _ us hl => match us, hl with | [_], _ => rfl) fun f fd F _ => ok_edges F B C_targets_of
  obtain ⟨fd_behind, F_behind⟩ := c.def_ 32 (d := dm "behind" "Living.behind" s_behind) rfl
  have B_behind : Binds K fd_behind ["self", "number"] [] := FunD.bindsN F_behind fun _ _ _ _ _ _ us hl => match us, hl with | [_, _], _ => rfl
  have G_behind : FnOk P w K mg base CX0 3 (He.ma K (He.ga K "Living") "behind") fd_behind ["self", "number"] (spBehind (He.ga K "Living")) := ok_behind F_behind B TL C_edges
  obtain ⟨fd_renew, F_renew⟩ := c.def_ 33 (d := dm "renew" "Living.renew" s_renew) rfl
  have B_renew : Binds K fd_renew ["self", "number"] [] := FunD.bindsN F_renew fun _ _ _ _ _ _ us hl => match us, hl with | [_, _], _ => rfl
  have G_renew : FnOk P w K mg base CX0 4 (He.ma K (He.ga K "Living") "renew") fd_renew ["self", "number"] (spRenew (He.ga K "Living")) := ok_renew F_renew B TL C_before_rows M_behind G_behind B_behind
  obtain ⟨fd_init, F_init⟩ := c.def_ 31 (d := dm "__init__" "Living.__init__" s_init) rfl
  have BL : Binds K fd_init ["self", "program"] [] := FunD.bindsN F_init fun _ _ _ _ _ _ us hl => match us, hl with | [_, _], _ => rfl
  have GLiving : FnOk P w K mg base CX0 5 (He.ma K (He.ga K "Living") "__init__") fd_init ["self", "program"] (spInit (He.ga K "Living")) := ok_init F_init B TL C_definitions M_renew G_renew B_renew
  obtain ⟨fd_told, F_told⟩ := c.def_ 34 (d := dm "told" "Living.told" s_told) rfl
  have B_told : Binds K fd_told ["self", "known"] [] := FunD.bindsN F_told fun _ _ _ _ _ _ us hl => match us, hl with | [_, _], _ => rfl
  have G_told : FnOk P w K mg base CX0 1 (He.ma K (He.ga K "Living") "told") fd_told ["self", "known"] (spTold (He.ga K "Living")) := ok_told F_told B TL
  obtain ⟨fd_sets, F_sets⟩ := c.def_ 35 (d := dm "sets" "Living.sets" s_sets) rfl
  have B_sets : Binds K fd_sets ["self"] [] := FunD.bindsN F_sets fun _ _ _ _ _ _ us hl => match us, hl with | [_], _ => rfl
  have G_sets : FnOk P w K mg base CX0 2 (He.ma K (He.ga K "Living") "sets") fd_sets ["self"] (spSets (He.ga K "Living")) := ok_sets F_sets B TL C_defined_by M_told G_told B_told
  have C_definition_sets : Cal P w K mg base "definition_sets" 7 ["program"] spDsets := calOf X G c 9 rfl (fun _ _ _ _ _ _ us hl => match us, hl with | [_], _ => rfl) fun f fd F _ => ok_definition_sets F B TL MLiving GLiving MGL BL M_sets G_sets B_sets
  have C_weights : Cal P w K mg base "weights" 3 ["program"] spWeights := calOf X G c 11 rfl (fun _ _ _ _ _ _ us hl => match us, hl with | [_], _ => rfl) fun f fd F _ => ok_weights F B C_definitions C_defined_by C_uses_of
  have C_least_weight : Cal P w K mg base "least_weight" 1 ["names", "weight"] spLeast := calOf X G c 12 rfl (fun _ _ _ _ _ _ us hl => match us, hl with | [_, _], _ => rfl) fun f fd F _ => ok_least_weight F B
  have C_spill_some : Cal P w K mg base "spill_some" 2 ["sets", "weight", "registers"] spSome := calOf X G c 13 rfl (fun _ _ _ _ _ _ us hl => match us, hl with | [_, _, _], _ => rfl) fun f fd F _ => ok_spill_some F B C_least_weight
  have C_spilled : Cal P w K mg base "spilled" 4 ["program", "sets", "registers"] (spSpilled T) := calOf X G c 14 rfl (fun _ _ _ _ _ _ us hl => match us, hl with | [_, _, _], _ => rfl) fun f fd F ef => ok_spilled (cA := He.codeOf K ("spilled", none)) (fnC_of F ef) B TB C_weights C_spill_some C_definitions
  have C_sets_by_blocks : Cal P w K mg base "sets_by_blocks" 2 ["program", "rows"] spByBlocks := calOf X G c 16 rfl (fun _ _ _ _ _ _ us hl => match us, hl with | [_, _], _ => rfl) fun f fd F _ => ok_sets_by_blocks F B C_defined_by
  have C_reached : Cal P w K mg base "reached" 1 ["arrows", "without"] spReached := calOf X G c 5 rfl (fun _ _ _ _ _ _ us hl => match us, hl with | [_, _], _ => rfl) fun f fd F _ => ok_reached F B
  have C_dominators : Cal P w K mg base "dominators" 3 ["program"] spDoms := calOf X G c 6 rfl (fun _ _ _ _ _ _ us hl => match us, hl with | [_], _ => rfl) fun f fd F _ => ok_dominators F B C_edges C_reached
  have C_immediate : Cal P w K mg base "immediate" 4 ["program"] spImm := calOf X G c 7 rfl (fun _ _ _ _ _ _ us hl => match us, hl with | [_], _ => rfl) fun f fd F _ => ok_immediate F B C_dominators
  have C_tree_order : Cal P w K mg base "tree_order" 5 ["program"] spTree := calOf X G c 15 rfl (fun _ _ _ _ _ _ us hl => match us, hl with | [_], _ => rfl) fun f fd F _ => ok_tree_order F B C_immediate
  have C_free_location : Cal P w K mg base "free_location" 1 ["name", "names", "known", "prefix"] spFree := calOf X G c 17 rfl (fun _ _ _ _ _ _ us hl => match us, hl with | [_, _, _, _], _ => rfl) fun f fd F _ => ok_free_location F B
  have C_assign : Cal P w K mg base "assign" 7 ["program", "registers"] (spAssign T) := calOf X G c 18 rfl (fun _ _ _ _ _ _ us hl => match us, hl with | [_, _], _ => rfl) fun f fd F _ => ok_assign F B TL MLiving GLiving MGL BL M_sets G_sets B_sets C_spilled C_sets_by_blocks C_tree_order C_free_location C_definitions
  have C_pressure : Cal P w K mg base "pressure" 8 ["program"] spPress := calOf X G c 10 rfl (fun _ _ _ _ _ _ us hl => match us, hl with | [_], _ => rfl) fun f fd F _ => ok_pressure F B C_definition_sets
  exact ok_law F B C__law_digits C__law_draw C__law_program C_definition_sets C_assign C_pressure
end
end Sh
end

section
set_option Elab.async false
set_option linter.all false
set_option maxRecDepth 100000
set_option maxHeartbeats 0
/-! The head's run; the law. -/
namespace Sh
open PySem PySem.Spec PyProof.Rows L2
abbrev Rw : PySem.W.OpenRow := PySem.W.OpenLaw.row PySem.Challenge.rw_stopsheld_k10_spilled_fit
def htf : List He.Defn := [("spilled", none)]
abbrev hk : PySem.W.Hook := He.hookX 4 hfa hfn [] htf (fun _ => true)
def hob (s : PySem.W.SharedT) : He.AlX := He.obsX 4 hfa hfn [] htf (fun _ => true) (HandSHeadRun.getT s)
theorem hob_eq (s : PySem.W.SharedT) : hob s = hk.obs s.abs := He.obsX_eq (HandSHeadRun.getT_eq s)
theorem lawAt {w : World} {h : Heap} {mg : Str → Option Value} {fa : Addr} {K : PySem.W.Frag} (X : K.In h) (G : h.Ns mainGlobals mg) (hfa1 : mg ("law" : Str) = some (.ref fa)) (c : He.SaysX hfa hfn [] htf (fun _ => true) w h K) :
    LamX.LawAtS PySem.Challenge.rw_stopsheld_k10_spilled_fit w K CX0 9 63 "_law_script" mg fa h := by
  have cd := c.t.d
  obtain ⟨fd, F⟩ := cd.def_ 30 (d := dd "law" s_law) rfl
  have e := hfa1.symm.trans (He.glo_ok X G (cd.fact 30 (f := .glo "law") rfl))
  cases e
  have b := FunD.bindsA (ps := ["_law_script"]) F fun _ _ _ _ _ _ us hl => match us, hl with | [_], _ => rfl
  refine ⟨fd, [He.cT K ("spilled", none)], spLaw (He.cT K ("spilled", none)).2 K, fun p hp => ?_, fun p hp => ?_, fun p hp => ?_, fun s u => b s [u] rfl, fun H a ns hl _ hH hS => ⟨a, ns, rfl, hS, TabQ.nil (hH _ (List.mem_singleton.mpr rfl)), fun _ => rfl⟩, fun base hX hG hT => ?_⟩
  · rw [List.mem_singleton.mp hp]
    exact c.empty _ (List.mem_singleton.mpr rfl)
  · rw [List.mem_singleton.mp hp]
    exact c.out _ (List.mem_singleton.mpr rfl)
  · rw [List.mem_singleton.mp hp]
    exact PySem.W.codeHd_of_K X (c.hd _ (List.mem_singleton.mpr rfl))
  · have t := hT _ (List.mem_singleton.mpr rfl)
    exact all_ok X G cd ⟨t.code, t.bm, t.gP⟩ F
end Sh
end

section
set_option Elab.async false
set_option linter.all false
set_option maxRecDepth 100000
set_option maxHeartbeats 0
/-! The head's run: every other name of the top is loose. -/
namespace Sh
open PySem PySem.Spec PyProof.Rows L2
abbrev lo0 : List PySem.Str := ["defined_by", "uses_of", "definitions", "targets_of", "edges", "reached", "dominators", "immediate", "before_rows", "Living", "definition_sets"]
abbrev lo1 : List PySem.Str := ["pressure", "weights", "least_weight", "spill_some", "spilled", "tree_order", "sets_by_blocks", "free_location", "assign", "_law_is_integer", "_law_cell"]
abbrev lo2 : List PySem.Str := ["_law_list_is", "_law_same", "_law_digits", "_law_draw", "_law_pick", "_law_shape", "_law_dominators_of", "_law_reached", "_law_instruction", "_law_arguments", "_law_scope", "_law_program"]
abbrev loosen : List PySem.Str := lo0 ++ lo1 ++ lo2
theorem run (w : World) : HandSHeadRun.RunEq Rw (PySem.W.view Rw.prog [38]) hk hob 4000 loosen w := by
  intro os
  kernel_rfl
end Sh
end

section
set_option Elab.async false
set_option linter.all false
set_option maxRecDepth 100000
set_option maxHeartbeats 0
open PySem PySem.W PySem.Calls PyProof.Rows
theorem PySem.Challenge.cw_stopsheld_k10_spilled_fit_holds : PySem.Challenge.rw_stopsheld_k10_spilled_fit.Holds := by
  w_on; o_law
  refine HandSHeadRun.head_any (r := OpenLaw.row PySem.Challenge.rw_stopsheld_k10_spilled_fit) (q := view (OpenLaw.row PySem.Challenge.rw_stopsheld_k10_spilled_fit).prog [38]) (H := Sh.hk) (ob := Sh.hob) (M := 4000) (loose := Sh.loosen)
    (d := HandSHeadRun.topDef (OpenLaw.row PySem.Challenge.rw_stopsheld_k10_spilled_fit).prog 38) (kwd := []) Sh.hob_eq
    (by kernel_rfl) (fun s => by kernel_rfl) Sh.run (by kernel_rfl) (by kernel_rfl) (by kernel_rfl) (by rfl) (by first | assumption | decide +kernel) (by decide +kernel) ⟨rfl, rfl, rfl, rfl, rfl, by decide +kernel⟩ ?hw ?hc
  case hw => w_witness2
  case hc =>
    refine LamX.walk_ofTsE (l := PySem.Challenge.rw_stopsheld_k10_spilled_fit) (n := 63) (k := 9) (x := "_law_script") (CX := fun _ => L2.CX0) rfl (by decide) (by kernel_rfl) ⟨rfl, by decide, by decide⟩ ?F (fun _ _ _ _ _ z => z)
    intro w mg fa h Y G hmg0
    obtain ⟨K, KX, c⟩ := Y
    have hmg : mg ("law" : PySem.Str) = some (.ref fa) := by
      have e : (HandSHeadRun.topDef (OpenLaw.row PySem.Challenge.rw_stopsheld_k10_spilled_fit).prog 38).name = ("law" : PySem.Str) := by kernel_rfl
      rw [← e]
      exact hmg0
    exact ⟨K, KX, Sh.lawAt KX G hmg c⟩
end
