import PyProof.Rows.All
import Wide.All
import OpenK.AllK
import Wide.FinOn
import HandS.ForMost
import HandS.Codes
import HandS.IsInst
import HandS.Style
import HandS.TupAny
import KE.SortData
import PyProof.ListStr
import PyProof.Rows.StrRev
import PySem.Challenge.RW_greedycuts_k32_whole_joined_texts
set_option Elab.async false
set_option linter.all false
set_option maxRecDepth 100000
set_option maxHeartbeats 4000000
/-! Greedycuts k32: the plain mathematics. Texts are lists of codes, words are pairs of a list of codes and a cost. -/
namespace GC
abbrev Wd := List Nat × Int

/-- t can be cut into words of ws at the cost k -/
inductive Cut (ws : List Wd) : List Nat → Int → Prop
  | nil : Cut ws [] 0
  | snoc {t : List Nat} {k : Int} {w : List Nat} {c : Int} : Cut ws t k → (w, c) ∈ ws → Cut ws (t ++ w) (k + c)
/-- m is the least cost of t -/
def Least (ws : List Wd) (t : List Nat) (m : Int) : Prop := Cut ws t m ∧ ∀ k, Cut ws t k → m ≤ k

theorem Cut.one {ws : List Wd} {w : List Nat} {c : Int} (h : (w, c) ∈ ws) : Cut ws w c := by
  have q := Cut.snoc (Cut.nil (ws := ws)) h
  rw [List.nil_append, Int.zero_add] at q
  exact q
theorem Cut.append {ws : List Wd} {s : List Nat} {j : Int} (a : Cut ws s j) {t : List Nat} {k : Int} (b : Cut ws t k) : Cut ws (s ++ t) (j + k) := by
  induction b with
  | nil =>
    rw [List.append_nil, Int.add_zero]
    exact a
  | snoc _ hm ih =>
    rw [← List.append_assoc, ← Int.add_assoc]
    exact .snoc ih hm
theorem Cut.mono {ws vs : List Wd} (h : ∀ e ∈ ws, e ∈ vs) {t : List Nat} {k : Int} (a : Cut ws t k) : Cut vs t k := by
  induction a with
  | nil => exact .nil
  | snoc _ hm ih => exact .snoc ih (h _ hm)
theorem Least.eq {ws : List Wd} {t : List Nat} {m n : Int} (a : Least ws t m) (b : Least ws t n) : m = n := by
  have h1 := a.2 _ b.1
  have h2 := b.2 _ a.1
  omega
theorem Least.both {ws : List Wd} {s t : List Nat} {b x y : Int} (h : Least ws (s ++ t) b) (hx : Least ws s x) (hy : Least ws t y) : b ≤ x + y := h.2 _ (hx.1.append hy.1)
theorem Least.more {ws vs : List Wd} (h : ∀ e ∈ ws, e ∈ vs) {t : List Nat} {m n : Int} (a : Least ws t m) (b : Least vs t n) : n ≤ m := b.2 _ (a.1.mono h)

/-! ### reversed -/
def revW (ws : List Wd) : List Wd := ws.map fun e => (e.1.reverse, e.2)
theorem revW_mem {ws : List Wd} {w : List Nat} {c : Int} (h : (w, c) ∈ ws) : (w.reverse, c) ∈ revW ws := List.mem_map.mpr ⟨(w, c), h, rfl⟩
theorem revW_revW (ws : List Wd) : revW (revW ws) = ws := by
  unfold revW
  rw [List.map_map]
  conv => rhs; rw [← List.map_id ws]
  refine List.map_congr_left fun e _ => ?_
  show (e.1.reverse.reverse, e.2) = e
  rw [List.reverse_reverse]
theorem Cut.rev {ws : List Wd} {t : List Nat} {k : Int} (a : Cut ws t k) : Cut (revW ws) t.reverse k := by
  induction a with
  | nil => exact .nil
  | @snoc t k w c _ hm ih =>
    rw [List.reverse_append, Int.add_comm]
    exact (Cut.one (revW_mem hm)).append ih
theorem Least.rev {ws : List Wd} {t : List Nat} {m : Int} (a : Least (revW ws) t.reverse m) : Least ws t m := by
  refine ⟨?_, fun k h => a.2 k h.rev⟩
  have q := a.1.rev
  rw [revW_revW, List.reverse_reverse] at q
  exact q

/-! ### the table of least costs -/
/-- the cost of the cut of the first e letters that ends with the word x, by the costs found so far -/
def rowAt (t : List Nat) (fs : List Int) (e : Nat) (x : Wd) : Option Int := if x.1 <:+ t.take e then some (fs.getD (e - x.1.length) 0 + x.2) else none
def rows (ws : List Wd) (t : List Nat) (fs : List Int) (e : Nat) : List Int := ws.filterMap (rowAt t fs e)
/-- fs are the least costs of the beginnings of t up to e letters -/
structure Ahead (ws : List Wd) (t : List Nat) (fs : List Int) (e : Nat) : Prop where
  len : fs.length = e + 1
  at_ : ∀ j, j ≤ e → ∃ m, fs[j]? = some m ∧ Least ws (t.take j) m
theorem least_nil {ws : List Wd} (hw : ∀ x ∈ ws, x.1 ≠ []) : Least ws [] 0 := by
  refine ⟨.nil, fun k h => ?_⟩
  generalize ht : ([] : List Nat) = t at h
  cases h with
  | nil => exact Int.le_refl _
  | snoc _ hm =>
    have e := (List.append_eq_nil_iff.mp ht.symm).2
    exact absurd e (hw _ hm)
theorem Ahead.start {ws : List Wd} (hw : ∀ x ∈ ws, x.1 ≠ []) (t : List Nat) : Ahead ws t [0] 0 := by
  refine ⟨rfl, fun j hj => ?_⟩
  have e : j = 0 := by omega
  subst e
  exact ⟨0, rfl, by rw [List.take_zero]; exact least_nil hw⟩
theorem suffix_cut {w t : List Nat} (h : w <:+ t) : t = t.take (t.length - w.length) ++ w := by
  obtain ⟨p, rfl⟩ := h
  rw [List.length_append, Nat.add_sub_cancel, List.take_left]
theorem Ahead.get {ws : List Wd} {t : List Nat} {fs : List Int} {e : Nat} (A : Ahead ws t fs e) {j : Nat} (hj : j ≤ e) : Least ws (t.take j) (fs.getD j 0) := by
  obtain ⟨m, h1, h2⟩ := A.at_ j hj
  rw [List.getD_eq_getElem?_getD, h1]
  exact h2
theorem Ahead.step {ws : List Wd} {t : List Nat} {fs : List Int} {e : Nat} {m : Int} (A : Ahead ws t fs e) (he : e < t.length) (hw : ∀ x ∈ ws, x.1 ≠ []) (hm : m ∈ rows ws t fs (e + 1)) (hle : ∀ y ∈ rows ws t fs (e + 1), m ≤ y) : Ahead ws t (fs ++ [m]) (e + 1) := by
  have hlt : (t.take (e + 1)).length = e + 1 := by rw [List.length_take]; omega
  refine ⟨by rw [List.length_append, A.len]; rfl, fun j hj => ?_⟩
  by_cases hj' : j ≤ e
  · obtain ⟨n, h1, h2⟩ := A.at_ j hj'
    exact ⟨n, by rw [List.getElem?_append_left (by rw [A.len]; omega)]; exact h1, h2⟩
  · have ej : j = e + 1 := by omega
    subst ej
    refine ⟨m, by rw [List.getElem?_append_right (by rw [A.len]; exact Nat.le_refl _), A.len, Nat.sub_self]; rfl, ?_, fun k h => ?_⟩
    · obtain ⟨x, hx, hr⟩ := List.mem_filterMap.mp hm
      unfold rowAt at hr
      by_cases hs : x.1 <:+ t.take (e + 1)
      · rw [if_pos hs] at hr
        have em := Option.some.inj hr
        have hc := suffix_cut hs
        have hne : 0 < x.1.length := List.length_pos_iff.mpr (hw x hx)
        rw [hlt, List.take_take, Nat.min_eq_left (by omega)] at hc
        have q := (A.get (j := e + 1 - x.1.length) (by omega)).1
        rw [hc, ← em]
        exact .snoc q hx
      · rw [if_neg hs] at hr
        cases hr
    · generalize ht : t.take (e + 1) = u at h
      cases h with
      | nil =>
        rw [ht] at hlt
        simp at hlt
      | @snoc s k w c hs hx =>
        have hsuf : w <:+ t.take (e + 1) := by rw [ht]; exact List.suffix_append s w
        have hne : 0 < w.length := List.length_pos_iff.mpr (hw _ hx)
        have hc := suffix_cut hsuf
        rw [hlt, List.take_take, Nat.min_eq_left (by omega)] at hc
        have es : s = t.take (e + 1 - w.length) := by
          have q := ht.symm.trans hc
          exact List.append_cancel_right q
        have q := (A.get (j := e + 1 - w.length) (by omega)).2 k (by rw [← es]; exact hs)
        have r := hle (fs.getD (e + 1 - w.length) 0 + c) (List.mem_filterMap.mpr ⟨(w, c), hx, by unfold rowAt; rw [if_pos hsuf]⟩)
        omega
theorem rows_pos {ws : List Wd} {t : List Nat} {fs : List Int} {e : Nat} (he : e < t.length) (hl : ∀ c ∈ t, ∃ k, ([c], k) ∈ ws) : 0 < (rows ws t fs (e + 1)).length := by
  obtain ⟨k, hk⟩ := hl t[e] (List.getElem_mem he)
  refine List.length_pos_of_mem (a := fs.getD (e + 1 - 1) 0 + k) (List.mem_filterMap.mpr ⟨([t[e]], k), hk, ?_⟩)
  unfold rowAt
  rw [if_pos]
  · rfl
  · rw [List.take_succ_eq_append_getElem he]
    exact List.suffix_append _ _

/-! ### word lists -/
def alph : List Nat := List.range' 97 26
/-- ws is a word list over the letters ls -/
structure WL (ls : List Nat) (ws : List Wd) : Prop where
  l1 : 1 ≤ ws.length
  l8 : ws.length ≤ 8
  wd : ∀ e ∈ ws, 1 ≤ e.1.length ∧ e.1.length ≤ 4 ∧ (∀ c ∈ e.1, c ∈ ls) ∧ 1 ≤ e.2 ∧ e.2 ≤ 9
  asc : (ws.map (·.1)).Pairwise (· < ·)
  has : ∀ c ∈ ls, [c] ∈ ws.map (·.1)
  abc : ∀ c ∈ ls, c ∈ alph
theorem WL.ne {ls : List Nat} {ws : List Wd} (W : WL ls ws) : ∀ x ∈ ws, x.1 ≠ [] := fun x hx e => by
  have h := (W.wd x hx).1
  rw [e] at h
  exact absurd h (by decide)
theorem WL.one {ls : List Nat} {ws : List Wd} (W : WL ls ws) {t : List Nat} (ht : ∀ c ∈ t, c ∈ ls) : ∀ c ∈ t, ∃ k, ([c], k) ∈ ws := fun c hc => by
  obtain ⟨e, he, q⟩ := List.mem_map.mp (W.has c (ht c hc))
  obtain ⟨w, k⟩ := e
  exact ⟨k, by rw [← show w = [c] from q]; exact he⟩
theorem revW_ne {ws : List Wd} (h : ∀ x ∈ ws, x.1 ≠ []) : ∀ x ∈ revW ws, x.1 ≠ [] := fun x hx e => by
  obtain ⟨y, hy, rfl⟩ := List.mem_map.mp hx
  exact h y hy (List.reverse_eq_nil_iff.mp e)
theorem revW_one {ws : List Wd} {t : List Nat} (h : ∀ c ∈ t, ∃ k, ([c], k) ∈ ws) : ∀ c ∈ t.reverse, ∃ k, ([c], k) ∈ revW ws := fun c hc => by
  obtain ⟨k, hk⟩ := h c (List.mem_reverse.mp hc)
  exact ⟨k, revW_mem hk⟩

/-! ### a sorted row of words with different names is a word list -/
theorem lt_of_not {a b : List Nat} (h : ¬ b < a) (ne : a ≠ b) : a < b := by
  apply Classical.byContradiction
  intro q
  exact ne (List.le_antisymm (List.not_lt.mp h) (List.not_lt.mp q))
theorem asc_of {ws : List Wd} (nd : (ws.map (·.1)).Nodup) (hs : ws.Pairwise fun x y => ¬ y.1 < x.1) : (ws.map (·.1)).Pairwise (· < ·) := by
  rw [List.pairwise_map]
  have nd' : ws.Pairwise fun x y => x.1 ≠ y.1 := List.pairwise_map.mp nd
  exact (hs.and nd').imp fun h => lt_of_not h.1 h.2

/-! ### rows of words -/
/-- the cost of the first word x of ws -/
def costOf (ws : List Wd) (x : List Nat) : Int := ((ws.filter fun e => decide (e.1 = x)).map (·.2)).headD 0
theorem costOf_mem {ws : List Wd} {x : List Nat} (h : x ∈ ws.map (·.1)) : (x, costOf ws x) ∈ ws := by
  obtain ⟨e, he, hx⟩ := List.mem_map.mp h
  have hm : e ∈ ws.filter fun e => decide (e.1 = x) := List.mem_filter.mpr ⟨he, decide_eq_true hx⟩
  unfold costOf
  cases hf : ws.filter fun e => decide (e.1 = x) with
  | nil =>
    rw [hf] at hm
    cases hm
  | cons d r =>
    have hd : d ∈ ws.filter fun e => decide (e.1 = x) := by rw [hf]; exact List.mem_cons_self ..
    have hd2 := List.mem_filter.mp hd
    have hdx : d.1 = x := of_decide_eq_true hd2.2
    show (x, d.2) ∈ ws
    rw [← hdx]
    exact hd2.1
theorem Cut.row {ws : List Wd} : ∀ {row : List (List Nat)}, (∀ x ∈ row, x ∈ ws.map (·.1)) → Cut ws row.flatten (row.map (costOf ws)).sum
  | [], _ => .nil
  | x :: row, h => by
    rw [List.flatten_cons, List.map_cons, List.sum_cons]
    exact (Cut.one (costOf_mem (h x (List.mem_cons_self ..)))).append (Cut.row fun y hy => h y (List.mem_cons_of_mem _ hy))
/-! ### the words that begin at a place -/
/-- the parts of t from i on, of 1 to m letters -/
def partsAt (t : List Nat) (i m : Nat) : List (List Nat) := (List.range m).map fun s => (t.drop i).take (s + 1)
def wordsAt (ws : List Wd) (t : List Nat) (i m : Nat) : List (List Nat) := (partsAt t i m).filter fun x => decide (x ∈ ws.map (·.1))
theorem wordsAt_ne {ws : List Wd} {t : List Nat} {i m : Nat} (hi : i < t.length) (hm : 1 ≤ m) (h1 : ∀ c ∈ t, ∃ k, ([c], k) ∈ ws) : wordsAt ws t i m ≠ [] := by
  intro e
  have hmem : [t[i]] ∈ wordsAt ws t i m := by
    refine List.mem_filter.mpr ⟨List.mem_map.mpr ⟨0, List.mem_range.mpr hm, ?_⟩, decide_eq_true ?_⟩
    · rw [List.drop_eq_getElem_cons hi]
      rfl
    · obtain ⟨k, hk⟩ := h1 t[i] (List.getElem_mem hi)
      exact List.mem_map.mpr ⟨_, hk, rfl⟩
  rw [e] at hmem
  cases hmem
theorem wordsAt_ok {ws : List Wd} {t : List Nat} {i m : Nat} (hi : i < t.length) : ∀ x ∈ wordsAt ws t i m, x ∈ ws.map (·.1) ∧ x ≠ [] ∧ x <+: t.drop i := fun x hx => by
  obtain ⟨h1, h2⟩ := List.mem_filter.mp hx
  obtain ⟨s, _, rfl⟩ := List.mem_map.mp h1
  refine ⟨of_decide_eq_true h2, fun e => ?_, List.take_prefix _ _⟩
  have z := congrArg List.length e
  rw [List.length_take, List.length_drop] at z
  simp at z
  omega

/-! ### the least costs of the rests -/
structure Behind (ws : List Wd) (t : List Nat) (gs : List Int) : Prop where
  len : gs.length = t.length + 1
  at_ : ∀ i, i ≤ t.length → ∃ m, gs[i]? = some m ∧ Least ws (t.drop i) m
theorem Behind.of {ws : List Wd} {t : List Nat} {fs : List Int} (A : Ahead (revW ws) t.reverse fs t.reverse.length) : Behind ws t fs.reverse := by
  have hl := A.len
  rw [List.length_reverse] at hl
  refine ⟨by rw [List.length_reverse, hl], fun i hi => ?_⟩
  obtain ⟨m, h1, h2⟩ := A.at_ (t.length - i) (by rw [List.length_reverse]; omega)
  refine ⟨m, ?_, ?_⟩
  · rw [List.getElem?_reverse (by omega), hl, show t.length + 1 - 1 - i = t.length - i by omega]
    exact h1
  · rw [List.take_reverse, show t.length - (t.length - i) = i by omega] at h2
    exact h2.rev

/-! ### word lists by their making -/
theorem WL.of_perm {ls : List Nat} {vs ws : List Wd} (l1 : 1 ≤ vs.length) (l8 : vs.length ≤ 8) (wd : ∀ e ∈ vs, 1 ≤ e.1.length ∧ e.1.length ≤ 4 ∧ (∀ c ∈ e.1, c ∈ ls) ∧ 1 ≤ e.2 ∧ e.2 ≤ 9) (nd : (vs.map (·.1)).Nodup)
    (has : ∀ c ∈ ls, [c] ∈ vs.map (·.1)) (abc : ∀ c ∈ ls, c ∈ alph) (p : ws.Perm vs) (s : ws.Pairwise fun x y => ¬ y.1 < x.1) : WL ls ws := by
  have pm : (ws.map (·.1)).Perm (vs.map (·.1)) := p.map _
  refine ⟨by rw [p.length_eq]; exact l1, by rw [p.length_eq]; exact l8, fun e he => wd e (p.mem_iff.mp he), asc_of (pm.nodup_iff.mpr nd) s, fun c hc => pm.mem_iff.mpr (has c hc), abc⟩
/-- names: different words over ls, all letters of ls among them -/
structure Nm (ls : List Nat) (nm : List (List Nat)) : Prop where
  nd : nm.Nodup
  has : ∀ c ∈ ls, [c] ∈ nm
  each : ∀ x ∈ nm, 1 ≤ x.length ∧ x.length ≤ 4 ∧ ∀ c ∈ x, c ∈ ls
theorem Nm.start {ls : List Nat} (h : ls.Nodup) : Nm ls (ls.map fun c => [c]) := by
  refine ⟨?_, fun c hc => List.mem_map.mpr ⟨c, hc, rfl⟩, fun x hx => ?_⟩
  · unfold List.Nodup
    rw [List.pairwise_map]
    refine List.Pairwise.imp ?_ h
    intro a b hab e
    exact hab (List.cons.inj e).1
  · obtain ⟨c, hc, rfl⟩ := List.mem_map.mp hx
    exact ⟨Nat.le_refl _, by show 1 ≤ 4; decide, fun d hd => by rw [List.mem_singleton.mp hd]; exact hc⟩
theorem Nm.snoc {ls : List Nat} {nm : List (List Nat)} {u : List Nat} (N : Nm ls nm) (hu : u ∉ nm) (h1 : 1 ≤ u.length) (h4 : u.length ≤ 4) (hl : ∀ c ∈ u, c ∈ ls) : Nm ls (nm ++ [u]) := by
  refine ⟨?_, fun c hc => List.mem_append_left _ (N.has c hc), fun x hx => ?_⟩
  · rw [List.nodup_append]
    refine ⟨N.nd, by simp, fun a ha b hb e => ?_⟩
    rw [List.mem_singleton.mp hb] at e
    exact hu (e ▸ ha)
  · rcases List.mem_append.mp hx with hx | hx
    · exact N.each x hx
    · rw [List.mem_singleton.mp hx]
      exact ⟨h1, h4, hl⟩
theorem Nm.wl {ls : List Nat} {nm : List (List Nat)} {cs : List Int} {ws : List Wd} (N : Nm ls nm) (l1 : 1 ≤ ls.length) (h8 : nm.length ≤ 8) (hc : cs.length = nm.length) (h9 : ∀ c ∈ cs, 1 ≤ c ∧ c ≤ 9) (abc : ∀ c ∈ ls, c ∈ alph)
    (p : ws.Perm (nm.zip cs)) (s : ws.Pairwise fun x y => ¬ y.1 < x.1) : WL ls ws := by
  have hz : (nm.zip cs).length = nm.length := by rw [List.length_zip, hc, Nat.min_self]
  have hf : (nm.zip cs).map (·.1) = nm := List.map_fst_zip (by omega)
  have hne : 1 ≤ nm.length := by
    cases ls with
    | nil => exact absurd l1 (by decide)
    | cons c r => exact List.length_pos_of_mem (N.has c (List.mem_cons_self ..))
  refine WL.of_perm (by omega) (by omega) (fun e he => ?_) (by rw [hf]; exact N.nd) (by rw [hf]; exact N.has) abc p s
  obtain ⟨x, c⟩ := e
  obtain ⟨hx, hcm⟩ := List.of_mem_zip he
  obtain ⟨a1, a4, al⟩ := N.each x hx
  exact ⟨a1, a4, al, (h9 c hcm).1, (h9 c hcm).2⟩
theorem WL.put {ls : List Nat} {vs ws : List Wd} {u : List Nat} {c : Int} (W : WL ls vs) (h7 : vs.length ≤ 7) (hu : u ∉ vs.map (·.1)) (h1 : 1 ≤ u.length) (h4 : u.length ≤ 4) (hl : ∀ c ∈ u, c ∈ ls) (c1 : 1 ≤ c) (c9 : c ≤ 9)
    (p : ws.Perm (vs ++ [(u, c)])) (s : ws.Pairwise fun x y => ¬ y.1 < x.1) : WL ls ws := by
  refine WL.of_perm ?_ ?_ (fun e he => ?_) ?_ (fun d hd => ?_) W.abc p s
  · rw [List.length_append]
    have := W.l1
    omega
  · rw [List.length_append]
    show vs.length + 1 ≤ 8
    omega
  · rcases List.mem_append.mp he with he | he
    · exact W.wd e he
    · rw [List.mem_singleton.mp he]
      exact ⟨h1, h4, hl, c1, c9⟩
  · rw [List.map_append, List.nodup_append]
    refine ⟨W.asc.imp fun {a b} h e => ?_, by simp, fun a ha b hb e => ?_⟩
    · rw [e] at h
      exact List.lt_irrefl _ h
    · rw [show b = u from List.mem_singleton.mp hb] at e
      exact hu (e ▸ ha)
  · rw [List.map_append]
    exact List.mem_append_left _ (W.has d hd)
end GC

/-! Rules that the layer lacks: list(text), text[::-1], sorted of a list or tuple of pairs (text, int). -/
namespace GC
open PySem PySem.Spec PyProof.Rows L2 SX
abbrev Wd' := List Nat × Int
/-- the object of a word with its cost -/
abbrev entO (e : Wd') : HO := .tup [.str (S e.1), .int e.2]

section
variable {X : Cx}
/-! ### list(text) -/
theorem call_list_txt (hc : X.calm = true) : CallR X (.type "list") (fun xs H Q => ∃ t : List Nat, xs = [.str (S t)] ∧ t.length ≤ 1000 ∧ ∀ p, H p = none → Q (.ref p) (upd H p (.lst (t.map fun c => V.str (S [c]))))) := by
  intro pins s σ H xs us Q I r h
  obtain ⟨t, rfl, hz, q⟩ := h
  obtain ⟨u, rfl, rx⟩ := vals1 r
  obtain ⟨tk, rfl⟩ := rx
  have hsz : (S t).cps.size ≤ sizeLine := by
    show t.toArray.size ≤ sizeLine
    rw [List.size_toArray]
    exact Nat.le_of_lt (small1000 hz)
  refine call_list_str (hn := hsz) (I.ok.hd hc) (S t) tk fun h' tk' acc c' kp e hacc => ?_
  have hlen : acc.toList.length = t.length := by
    rw [Array.length_toList, hacc.1]
    show t.toArray.size = t.length
    rw [List.size_toArray]
  have hv : Vals (t.map fun c => V.str (S [c])) acc.toList := by
    have key : ∀ (t : List Nat) (vs : List Value), vs.length = t.length → (∀ (j : Nat) v, vs[j]? = some v → ∃ c u, t[j]? = some c ∧ v = .str (S [c]) u) → Vals (t.map fun c => V.str (S [c])) vs := by
      intro t
      induction t with
      | nil =>
        intro vs hl _
        rw [List.length_eq_zero_iff.mp hl]
        exact .nil
      | cons c t ih =>
        intro vs hl hg
        cases vs with
        | nil => cases hl
        | cons v vs =>
          obtain ⟨d, u, e1, e2⟩ := hg 0 v rfl
          have ed : c = d := Option.some.inj e1
          subst ed
          refine .cons ⟨u, e2⟩ (ih vs (Nat.succ.inj hl) fun j w hj => ?_)
          exact hg (j + 1) w hj
    refine key t acc.toList hlen fun j v hj => ?_
    rw [Array.getElem?_toList] at hj
    obtain ⟨c, u, h1, h2⟩ := hacc.2 j v hj
    have h1' : t.toArray[j]? = some c := h1
    rw [List.getElem?_toArray] at h1'
    exact ⟨c, u, h1', h2⟩
  refine ⟨.ref s.heap.objs.size, _, I.laid (t' := tk') (o := .lst (t.map fun c => V.str (S [c]))) kp (Nat.le_refl _) ⟨?_, acc.toList, c', hv, ?_⟩, rfl, q _ (I.hok.fresh (Nat.le_refl _))⟩
  · rw [List.length_map]
    exact Nat.le_of_lt (small1000 hz)
  · rw [e, Array.toArray_toList]

/-! ### text[::-1] -/
theorem rev_text (t : List Nat) (u : Tok) : Txt.sliceBy (S t) none none (-1, u) = S t.reverse := by
  refine TL.ext_tl ?_
  show (Txt.sliceBy (S t) none none (-1, u)).cps.toList = t.reverse
  rw [step_rev_list]
  refine List.ext_getElem ?_ fun i h1 h2 => ?_
  · rw [List.length_map, List.length_range, S_len, List.length_reverse]
  · rw [List.length_reverse] at h2
    rw [List.getElem_map, List.getElem_range, List.getElem_reverse]
    show t.toArray.getD ((S t).length - 1 - i) 0 = _
    rw [S_len]
    simp [Array.getD, show t.length - 1 - i < t.length by omega]
def tRevS (te : TE) : TE := fun σ H Q => te σ H fun x H1 => ∃ t : List Nat, x = .str (S t) ∧ t.length ≤ 1000 ∧ Q (.str (S t.reverse)) H1
theorem pe_revS {e : Expr} {te : TE} {k : Nat} {p1 p2 p3 pos : Pos} (he : PE X e te) : PE X (.Subscript e (.Slice none none (some (.UnaryOp .USub (.Constant (.int 1) k p1) p2)) p3) pos) (tRevS te) := by
  refine ⟨fun pins s σ H Q I h => ?_⟩
  refine Subscript_ (thn (he.run pins s σ H _ I h) fun v s1 ⟨x, H1, I1, r1, q1⟩ => ?_)
  obtain ⟨t, ex, hz, q⟩ := q1
  subst ex
  obtain ⟨tk, rfl⟩ := r1
  have hst : PO X (some (.UnaryOp .USub (.Constant (.int 1) k p1) p2)) (tPart (tUn (rU fun i => .int (-i)) (tC (.int 1)))) := po_some (pe_un un_neg pe_int)
  refine wpAny_Slice (thn (po_none.run pins s1 σ H1 (fun o G => o = none ∧ G = H1) I1 ⟨rfl, rfl⟩) fun vl s2 ⟨l, H2, I2, pl, el, e2⟩ => ?_)
  subst el e2
  refine thn (po_none.run pins s2 σ H2 (fun o G => o = none ∧ G = H2) I2 ⟨rfl, rfl⟩) fun vu s3 ⟨u, H3, I3, pu, eu, e3⟩ => ?_
  subst eu e3
  refine thn (hst.run pins s3 σ H3 (fun o G => o = some (-1) ∧ G = H3) I3 ⟨1, rfl, -1, rfl, rfl, rfl⟩) fun vs s4 ⟨o, H4, I4, ps, eo, e4⟩ => ?_
  subst eo e4
  have I5 : Inv X pins σ H4 { s4 with heap := s4.heap.push { cls := .type "slice", data := .fields #[vl, vu, vs] } } := I4.kept (t' := s4.toks) fun b ob z => Heap.get?_push_of_some _ z
  obtain ⟨a1, rfl, f1⟩ := IsPart.raw pl
  obtain ⟨a2, rfl, f2⟩ := IsPart.raw pu
  obtain ⟨a3, rfl, f3⟩ := IsPart.raw ps
  cases a1 with
  | some _ => cases f1
  | none =>
  cases a2 with
  | some _ => cases f2
  | none =>
  cases a3 with
  | none => cases f3
  | some a3 =>
  obtain ⟨i3, u3⟩ := a3
  have e3 : i3 = -1 := Option.some.inj f3
  subst e3
  show wpAny (model X.prog X.w) X.A (subscriptTail e (.Slice none none (some (.UnaryOp .USub (.Constant (.int 1) k p1) p2)) p3) (.str (S t) tk) (.ref s4.heap.objs.size)) (EP X pins σ Q) X.xe { s4 with heap := s4.heap.push { cls := .type "slice", data := .fields #[partValue none, partValue none, partValue (some (-1, u3))] } }
  refine tail_any (ops := [.ref s4.heap.objs.size, .str (S t) tk]) (typeIs_str _ _ _) F.slot_str_getitem.lookup ?_ (by with_unfolding_all rfl)
  refine wpAny_getItem_str_slice (l := none) (u := none) (st := some (-1, u3)) ⟨_, Heap.get?_push_size _ rfl, rfl, rfl⟩ rfl ?_
  refine post_val_or_str ⟨?_, fun t' k' => ?_⟩
  · show (Txt.sliceBy (S t) none none (-1, u3)).length ≤ sizeLine
    rw [rev_text, S_len, List.length_reverse]
    exact Nat.le_of_lt (small1000 hz)
  · show EP X pins σ Q (.str (Txt.sliceBy (S t) none none (-1, u3)) t') _
    rw [rev_text]
    exact ⟨.str (S t.reverse), _, I5.tok k', ⟨t', rfl⟩, q⟩
end

/-! ### sorted of a list or a tuple -/
section
variable {prog : Program} {w : World} {A : Around} {E : Value → Shared → Prop} {s : Shared}
theorem collectS {l : Addr} {T : String} {o : Obj} {n : Nat} {vs : List Value} {Q : List Value → Shared → Prop} (hT : T = "list" ∨ T = "tuple") (ho : s.heap.get? l = some o) (hc : o.cls = .type T) (hd : o.data = .seq vs.toArray n) (hsz : vs.length ≤ sizeLine)
    (h : Q vs { s with heap := (s.heap.push (seqObj "list" #[] 0)).update s.heap.objs.size (Obj.mapSeq (· ++ vs.toArray)) }) : wpAny (model prog w) A (collect (.ref l)) Q E s := by
  have hl : (s.heap.push (seqObj "list" #[] 0)).get? l = some o := Heap.get?_push_of_some _ ho
  have hn : (s.heap.push (seqObj "list" #[] 0)).get? s.heap.objs.size = some (seqObj "list" #[] 0) := Heap.get?_push_size _ rfl
  have ht : (Builtin.List.listSameRef (.ref s.heap.objs.size) (.ref l) || Value.type T == .type "list" || Value.type T == .type "tuple") = true := by
    rcases hT with rfl | rfl
    · rw [show (Value.type "list" == Value.type "list") = true by rfl, Bool.or_true, Bool.true_or]
    · rw [show (Value.type "tuple" == Value.type "tuple") = true by rfl, Bool.or_true]
  have hzz : ((#[] : Array Value) ++ vs.toArray).size ≤ sizeLine + 1 := by
    simp only [Array.size_append, List.size_toArray, List.length_nil]
    omega
  -- a new list, then the items of l behind its own
  refine wpAny_bind (wpAny_runValue (codeAny_builtin entry_proto_collect' (wpAny_bind (wpAny_newList (wpAny_pure ⟨Code.quiet_builtin _ (by decide +kernel), codeAny_builtin entry_list_iadd' ?_⟩)))))
  change wpAny _ _ (Builtin.List.listExtendWith _ _ _) _ _ _
  unfold Builtin.List.listExtendWith
  refine wpAny_bind (wpAny_typeOf (T := T) ⟨o, hl, hc⟩ ?_)
  rw [if_pos ht]
  refine wpAny_bind (listItems_at hl hd (wpAny_bind (listItems_at hn rfl ?_)))
  rw [if_neg (by simp)]
  refine wpAny_bind (listUpdate_at hn rfl (wpAny_pure ?_) (Nat.zero_le _) hzz)
  -- what it holds is given back
  refine wpAny_bind (wpAny_load (get?_update_seq hn _) (wpAny_pure ?_))
  simpa using h
open PySem.W in
theorem sortedS_data {β : Type} {bs : List β} {enc : β → PyData} {R : Value → β → Prop} {l : Addr} {T : String} {o : Obj} {n : Nat} {vs : List Value} {Q : Value → Shared → Prop} (hT : T = "list" ∨ T = "tuple") (ho : s.heap.get? l = some o) (hc : o.cls = .type T) (hd : o.data = .seq vs.toArray n)
    (e : EachIs R vs bs) (er : EachIs (fun v b => ∃ as, Reads s.heap v (enc b) as) vs bs) (hal : AllAlike (bs.map enc)) (hk : Sortable (bs.map enc)) (hL : bs.length ≤ sizeLine)
    (hu : ∀ b, b ∈ bs → A.units + 2 + (enc b).depth < cLine) (h : ∀ out, out.length = bs.length → EachIs R out (bs.mergeSort (dataLe false enc)) → Q (.ref (s.heap.objs.size + 1)) { s with heap := sortedAll s.heap vs (List.toArray out) }) :
    wpAny (model prog w) A (call (.builtin "sorted") [.ref l]) Q E s := by
  have hV : vs.length ≤ sizeLine := by rw [e.length]; exact hL
  have er' : EachIs (fun v b => ∃ as, Reads (sortingHeap (copyHeap s.heap vs) (s.heap.objs.size + 1) vs) v (enc b) as) vs bs := er.mono fun _ _ ⟨as, r⟩ => ⟨as, PyProof.Rows.Reads.keeps (fun _ _ => sorting_copy_old) r⟩
  have SA := SortsAt.data (prog := prog) (w := w) (A := A.in1.in1) (s := { s with heap := sortingHeap (copyHeap s.heap vs) (s.heap.objs.size + 1) vs }) (each_map (R := fun v d => ∃ as, Reads (sortingHeap (copyHeap s.heap vs) (s.heap.objs.size + 1) vs) v d as) enc er') hal hk (bound_map hu)
  refine Calls.call_function_entry kind_sorted plain_sorted entry_sorted (args_sorted1 _) ?_
  unfold Builtin.«sorted»
  refine wpAny_bind (m := checkCount "sorted" 1 1 _) (wpAny_pure ?_)
  refine wpAny_bind (collectS hT ho hc hd hV ?_)
  refine wpAny_bind (wpAny_newList ?_ hV)
  have hsz : ((s.heap.push (seqObj "list" #[] 0)).update s.heap.objs.size (Obj.mapSeq (· ++ vs.toArray))).objs.size = s.heap.objs.size + 1 := by
    rw [Heap.size_update, size_push']
  show wpAny _ _ _ _ _ { s with heap := copyHeap s.heap vs }
  rw [hsz]
  refine wpAny_bind (wpAny_holding (wpAny_call_entry slot_list_sort ⟨_, copyHeap_at s.heap vs, rfl⟩ entry_list_sort ?body (args_list_sort _)))
  case body =>
    refine wpAny_mono (list_sort_vals (s := { s with heap := copyHeap s.heap vs }) (P := fun f s' => f = .done (.ret .none) ∧ Q (.ref (s.heap.objs.size + 1)) s') (copyHeap_at s.heap vs) SA hV ⟨rfl, ?_⟩) (fun f s' hf => ?_) fun _ _ e => e
    · exact h _ (by rw [sortVals_length false rfl]; exact e.length) (sortVals_data false e er' hal)
    · obtain ⟨rfl, hq⟩ := hf
      exact ⟨_, rfl, wpAny_pure ⟨_, rfl, hq⟩⟩
end

/-! ### sorted of pairs (text, int) -/
abbrev encW (b : Addr × Wd') : PyData := .tuple [.str (S b.2.1), .int b.2.2]
def rSortW (K : PySem.W.Frag) : List V → Hp → VK → Prop := fun xs H Q => ∃ (a : Addr) (bs : List (Addr × Wd')), xs = [.ref a] ∧ (SqL K H a (bs.map fun b => V.ref b.1) ∨ SqT K H a (bs.map fun b => V.ref b.1)) ∧ (∀ b ∈ bs, H b.1 = some (entO b.2)) ∧
  ∀ (cs : List (Addr × Wd')) (p : Addr), cs.Perm bs → cs.Pairwise (fun x y => ¬ y.2.1 < x.2.1) → H p = none → Q (.ref p) (upd H p (.lst (cs.map fun b => V.ref b.1)))
theorem each_refs : ∀ {bs : List (Addr × Wd')} {its : List Value}, Vals (bs.map fun b => V.ref b.1) its → PySem.W.EachIs (fun v (b : Addr × Wd') => v = Value.ref b.1) its bs
  | [], _, r => by
    cases r
    exact .nil
  | b :: bs, _, r => by
    cases r with
    | cons r1 r2 => exact .cons r1 (each_refs r2)
theorem vals_each : ∀ {bs : List (Addr × Wd')} {its : List Value}, PySem.W.EachIs (fun v (b : Addr × Wd') => v = Value.ref b.1) its bs → Vals (bs.map fun b => V.ref b.1) its
  | [], _, r => by
    cases r
    exact .nil
  | b :: bs, _, r => by
    cases r with
    | cons r1 r2 => exact .cons r1 (vals_each r2)
theorem reads_each {h : Heap} : ∀ {bs : List (Addr × Wd')} {its : List Value}, PySem.W.EachIs (fun v (b : Addr × Wd') => v = Value.ref b.1) its bs → (∀ b ∈ bs, ∃ as, Reads h (.ref b.1) (encW b) as) → PySem.W.EachIs (fun v b => ∃ as, Reads h v (encW b) as) its bs
  | [], _, r, _ => by
    cases r
    exact .nil
  | b :: bs, _, r, hr => by
    cases r with
    | cons r1 r2 =>
      subst r1
      exact .cons (hr b (List.mem_cons_self ..)) (reads_each r2 fun c hc => hr c (List.mem_cons_of_mem _ hc))
theorem lt_enc {x y : Addr × Wd'} (h : PySem.W.dataLt (encW y) (encW x) = false) : ¬ y.2.1 < x.2.1 := by
  intro hlt
  rw [PySem.W.dataLt_pair (by simp [PySem.W.alike]) (by simp [PySem.W.alike])] at h
  have e : PyData.eqv (.str (S y.2.1)) (.str (S x.2.1)) = false := by
    simp only [PyData.eqv]
    rw [S_beq_eq, decide_eq_false]
    intro e
    rw [e] at hlt
    exact List.lt_irrefl _ hlt
  rw [e, if_neg Bool.false_ne_true, PySem.W.dataLt_str] at h
  exact of_decide_eq_false h hlt
section
variable {X : Cx}
theorem cr_sortW (hu : X.A.units + 64 < cLine) : CallR X (.builtin "sorted") (rSortW X.K) := by
  intro pins s σ H vs us Q I r h
  obtain ⟨a, bs, rfl, hs, hb, q⟩ := h
  have hseq : ∃ (its : List Value) (T : String) (o : Obj) (n : Nat), Vals (bs.map fun b => V.ref b.1) its ∧ (T = "list" ∨ T = "tuple") ∧ s.heap.get? a = some o ∧ o.cls = .type T ∧ o.data = .seq its.toArray n ∧ bs.length ≤ sizeLine := by
    rcases hs with hs | hs
    · obtain ⟨its, rv, ⟨o, n, ho, hc, _, hd⟩, hz⟩ := I.list hs
      exact ⟨its, "list", o, n, rv, .inl rfl, ho, hc, hd, by rw [List.length_map] at hz; exact hz⟩
    · obtain ⟨its, rv, ⟨o, ho, hc, n, hd⟩, hz⟩ := I.tuple hs
      exact ⟨its, "tuple", o, n, rv, .inr rfl, ho, hc, hd, by rw [List.length_map] at hz; exact hz⟩
  obtain ⟨its, T, o, n, rv, hT, ho, hc, hd, hz⟩ := hseq
  rw [Vals.ref1 r]
  have e := each_refs rv
  have hrd : ∀ b ∈ bs, ∃ as, Reads s.heap (.ref b.1) (encW b) as := fun b hm => by
    obtain ⟨_, its2, rv2, o2, ho2, hc2, n2, hd2⟩ := I.hok b.1 _ (hb b hm)
    cases rv2 with
    | cons r1 r2 =>
      cases r2 with
      | cons r3 r4 =>
        cases r4
        obtain ⟨t1, rfl⟩ := r1
        obtain ⟨t2, rfl⟩ := r3
        exact ⟨_, .tuple ho2 hc2 hd2 (.cons (.str _ t1) (.cons (.int _ t2) .nil))⟩
  refine sortedS_data (R := fun v (b : Addr × Wd') => v = Value.ref b.1) (enc := encW) (bs := bs) hT ho hc hd e (reads_each e hrd) (PySem.W.AllAlike.of fun b b' => by simp [encW, PySem.W.alike, PySem.W.alikeAll]) (PySem.W.Sortable.tuples fun b => ⟨_, _, rfl⟩) hz (fun b _ => ?_) fun out hlen ho' => ?_
  · have : (encW b).depth ≤ 2 := by simp [encW, PyData.depth, PyData.depthAll]
    omega
  · obtain ⟨ep, he'⟩ := PyProof.Rows.sortedAll_at s.heap its out.toArray
    have hp := List.mergeSort_perm bs (PySem.W.dataLe false encW)
    have hsrt : (bs.mergeSort (PySem.W.dataLe false encW)).Pairwise (fun x y => ¬ y.2.1 < x.2.1) := by
      have tl : PySem.W.TotalLe (PySem.W.dataLe false encW) := PySem.W.sortLe_total _ _ _
      refine (PySem.W.sort_pairwise tl bs).imp fun {x y} hxy => lt_enc ?_
      rw [PySem.W.dataLe_eq] at hxy
      simpa using hxy
    refine ⟨.ref _, upd H (s.heap.objs.size + 1) (.lst ((bs.mergeSort (PySem.W.dataLe false encW)).map fun b => V.ref b.1)), I.laid (t' := s.toks) (fun _ _ => PyProof.Rows.sortedAll_old) (Nat.le_succ _) ⟨?_, out, ep, vals_each ho', ?_⟩, rfl, q _ _ hp hsrt (I.hok.fresh (Nat.le_succ _))⟩
    · rw [List.length_map, hp.length_eq]
      exact hz
    · rw [he']
end
end GC

/-! Readings of comprehensions whose turns only lay new objects; heaps; small facts of texts. -/
namespace GC
open PySem PySem.Spec PyProof.Rows L2 SX
/-! ### heaps -/
theorem sameU {H : Hp} {p : Addr} {o : HO} (h : H p = none) : Same H (upd H p o) := fun b x e => by
  rw [upd_ne (ne_of_none e h)]
  exact e
theorem Same.tupS {K : PySem.W.Frag} {H H' : Hp} {a : Addr} {xs : List V} (e : Same H H') (h : SqT K H a xs) : SqT K H' a xs := by
  rcases h with (h | ⟨o, h⟩) | h
  · exact .inl (.inl (e _ _ h))
  · exact .inl (.inr ⟨o, e _ _ h⟩)
  · exact .inr h
theorem take_snoc {α : Type} {ys : List α} {i : Nat} {y : α} (h : ys[i]? = some y) : ys.take (i + 1) = ys.take i ++ [y] := by
  rw [List.take_add_one, h]
  rfl
/-! ### a comprehension over an iterator that gives out n known items -/
theorem lc_out {J : It} {g : TG} {tt : TT} {te : TE} {vs : List Nat} {σ : L2.St} {H1 : Hp} {D : Addr} {Qd : Hp → Prop} (n : Nat) (xs : Nat → V) (out : Nat → List V) (hn : H1 D = none)
    (hgo : ∀ i H, i < n → Same H1 H → J.go i H) (hyl : ∀ i H x H', i < n → Same H1 H → J.yld i H x H' → H' = H ∧ x = xs i) (hst : ∀ H, Same H1 H → J.stop n H)
    (h0 : out 0 = []) (hsz : ∀ i, i ≤ n → (out i).length < sizeLine)
    (hs : ∀ i H, i < n → Same H1 H → ∀ (Qy : VK) (Qn : Hp → Prop), (∀ y H', out (i + 1) = out i ++ [y] → Same H H' → Qy y H') → (∀ H', out (i + 1) = out i → Same H H' → Qn H') →
      g (xs i) (wipe σ vs) H fun σ2 H2 => wipe σ2 vs = wipe σ vs ∧ tt σ2 H2 fun b H3 => if b = true then te σ2 H3 Qy else Qn H3)
    (hd : ∀ H, Same H1 H → H D = some (.lst (out n)) → Qd H) :
    ∃ W : Nat → Nat → Hp → Prop, (∃ m, W 0 m (upd H1 D (.lst []))) ∧ ∀ i m H, W i m H →
      (J.stop i H ∧ Qd H) ∨ (J.go i H ∧ ∃ Nx : Hp → Prop, (∀ H', Nx H' → ∃ m', m' < m ∧ W (i + 1) m' H') ∧ ∀ x H', J.yld i H x H' → g x (wipe σ vs) H' fun σ2 H2 => wipe σ2 vs = wipe σ vs ∧ tt σ2 H2 fun b H3 =>
        if b = true then te σ2 H3 fun y H4 => ∃ acc, H4 D = some (.lst acc) ∧ acc.length < sizeLine ∧ Nx (upd H4 D (.lst (acc ++ [y]))) else Nx H3) := by
  refine ⟨fun i m H => m = n - i ∧ i ≤ n ∧ Same H1 H ∧ H D = some (.lst (out i)), ⟨n, by simp, Nat.zero_le _, sameU hn, by rw [upd_same, h0]⟩, ?_⟩
  rintro i m H ⟨rfl, hi, sm, eD⟩
  by_cases hlt : i < n
  · refine .inr ⟨hgo i H hlt sm, fun H' => Same H1 H' ∧ H' D = some (.lst (out (i + 1))), fun H' q => ⟨n - (i + 1), by omega, rfl, hlt, q.1, q.2⟩, fun x H' hy => ?_⟩
    obtain ⟨rfl, rfl⟩ := hyl i H x H' hlt sm hy
    refine hs i H' hlt sm _ _ (fun y H4 e s4 => ?_) (fun H4 e s4 => ?_)
    · refine ⟨out i, s4 _ _ eD, hsz i hi, fun b o eb => ?_, by rw [upd_same, e]⟩
      rw [upd_ne (ne_of_none eb hn)]
      exact s4 _ _ (sm _ _ eb)
    · exact ⟨sm.trans s4, by rw [s4 _ _ eD, e]⟩
  · have e : i = n := by omega
    subst e
    exact .inl ⟨hst H sm, hd H sm eD⟩
section
variable {K : PySem.W.Frag} {g : TG} {tt : TT} {te : TE} {vs : List Nat} {σ : L2.St} {H1 : Hp} {D : Addr} {Qd : Hp → Prop}
theorem lc_outT {a : Addr} {xs : List V} (out : Nat → List V) (hn : H1 D = none) (hx : SqT K H1 a xs) (h0 : out 0 = []) (hsz : ∀ i, i ≤ xs.length → (out i).length < sizeLine)
    (hs : ∀ i x H, xs[i]? = some x → Same H1 H → ∀ (Qy : VK) (Qn : Hp → Prop), (∀ y H', out (i + 1) = out i ++ [y] → Same H H' → Qy y H') → (∀ H', out (i + 1) = out i → Same H H' → Qn H') →
      g x (wipe σ vs) H fun σ2 H2 => wipe σ2 vs = wipe σ vs ∧ tt σ2 H2 fun b H3 => if b = true then te σ2 H3 Qy else Qn H3)
    (hd : ∀ H, Same H1 H → H D = some (.lst (out xs.length)) → Qd H) :
    ∃ W : Nat → Nat → Hp → Prop, (∃ m, W 0 m (upd H1 D (.lst []))) ∧ ∀ i m H, W i m H →
      ((Itt K a).stop i H ∧ Qd H) ∨ ((Itt K a).go i H ∧ ∃ Nx : Hp → Prop, (∀ H', Nx H' → ∃ m', m' < m ∧ W (i + 1) m' H') ∧ ∀ x H', (Itt K a).yld i H x H' → g x (wipe σ vs) H' fun σ2 H2 => wipe σ2 vs = wipe σ vs ∧ tt σ2 H2 fun b H3 =>
        if b = true then te σ2 H3 fun y H4 => ∃ acc, H4 D = some (.lst acc) ∧ acc.length < sizeLine ∧ Nx (upd H4 D (.lst (acc ++ [y]))) else Nx H3) := by
  refine lc_out xs.length (fun i => xs.getD i .non) out hn (fun i H hi sm => ⟨xs, xs[i], Same.tupS sm hx, List.getElem?_eq_getElem hi⟩) (fun i H x H' hi sm hy => ?_) (fun H sm => ⟨xs, Same.tupS sm hx, Nat.le_refl _⟩) h0 hsz (fun i H hi sm => ?_) hd
  · obtain ⟨e, q⟩ := hy
    have q' := q xs (Same.tupS sm hx)
    exact ⟨e, by rw [List.getD_eq_getElem?_getD, q']; rfl⟩
  · have e : xs[i]? = some (xs.getD i .non) := by rw [List.getD_eq_getElem?_getD, List.getElem?_eq_getElem hi]; rfl
    exact hs i _ H e sm
theorem lc_outL {a : Addr} {xs : List V} (out : Nat → List V) (hn : H1 D = none) (hx : SqL K H1 a xs) (h0 : out 0 = []) (hsz : ∀ i, i ≤ xs.length → (out i).length < sizeLine)
    (hs : ∀ i x H, xs[i]? = some x → Same H1 H → ∀ (Qy : VK) (Qn : Hp → Prop), (∀ y H', out (i + 1) = out i ++ [y] → Same H H' → Qy y H') → (∀ H', out (i + 1) = out i → Same H H' → Qn H') →
      g x (wipe σ vs) H fun σ2 H2 => wipe σ2 vs = wipe σ vs ∧ tt σ2 H2 fun b H3 => if b = true then te σ2 H3 Qy else Qn H3)
    (hd : ∀ H, Same H1 H → H D = some (.lst (out xs.length)) → Qd H) :
    ∃ W : Nat → Nat → Hp → Prop, (∃ m, W 0 m (upd H1 D (.lst []))) ∧ ∀ i m H, W i m H →
      ((Itl K a).stop i H ∧ Qd H) ∨ ((Itl K a).go i H ∧ ∃ Nx : Hp → Prop, (∀ H', Nx H' → ∃ m', m' < m ∧ W (i + 1) m' H') ∧ ∀ x H', (Itl K a).yld i H x H' → g x (wipe σ vs) H' fun σ2 H2 => wipe σ2 vs = wipe σ vs ∧ tt σ2 H2 fun b H3 =>
        if b = true then te σ2 H3 fun y H4 => ∃ acc, H4 D = some (.lst acc) ∧ acc.length < sizeLine ∧ Nx (upd H4 D (.lst (acc ++ [y]))) else Nx H3) := by
  refine lc_out xs.length (fun i => xs.getD i .non) out hn (fun i H hi sm => ⟨xs, xs[i], sm.seq hx, List.getElem?_eq_getElem hi⟩) (fun i H x H' hi sm hy => ?_) (fun H sm => ⟨xs, sm.seq hx, Nat.le_refl _⟩) h0 hsz (fun i H hi sm => ?_) hd
  · obtain ⟨e, q⟩ := hy
    have q' := q xs (sm.seq hx)
    exact ⟨e, by rw [List.getD_eq_getElem?_getD, q']; rfl⟩
  · have e : xs[i]? = some (xs.getD i .non) := by rw [List.getD_eq_getElem?_getD, List.getElem?_eq_getElem hi]; rfl
    exact hs i _ H e sm
theorem lc_outR {lo : Int} {n : Nat} (out : Nat → List V) (hn : H1 D = none) (h0 : out 0 = []) (hsz : ∀ i, i ≤ n → (out i).length < sizeLine)
    (hs : ∀ i H, i < n → Same H1 H → ∀ (Qy : VK) (Qn : Hp → Prop), (∀ y H', out (i + 1) = out i ++ [y] → Same H H' → Qy y H') → (∀ H', out (i + 1) = out i → Same H H' → Qn H') →
      g (.int (lo + (i : Nat))) (wipe σ vs) H fun σ2 H2 => wipe σ2 vs = wipe σ vs ∧ tt σ2 H2 fun b H3 => if b = true then te σ2 H3 Qy else Qn H3)
    (hd : ∀ H, Same H1 H → H D = some (.lst (out n)) → Qd H) :
    ∃ W : Nat → Nat → Hp → Prop, (∃ m, W 0 m (upd H1 D (.lst []))) ∧ ∀ i m H, W i m H →
      ((Itr lo n).stop i H ∧ Qd H) ∨ ((Itr lo n).go i H ∧ ∃ Nx : Hp → Prop, (∀ H', Nx H' → ∃ m', m' < m ∧ W (i + 1) m' H') ∧ ∀ x H', (Itr lo n).yld i H x H' → g x (wipe σ vs) H' fun σ2 H2 => wipe σ2 vs = wipe σ vs ∧ tt σ2 H2 fun b H3 =>
        if b = true then te σ2 H3 fun y H4 => ∃ acc, H4 D = some (.lst acc) ∧ acc.length < sizeLine ∧ Nx (upd H4 D (.lst (acc ++ [y]))) else Nx H3) :=
  lc_out n (fun i => .int (lo + (i : Nat))) out hn (fun _ _ hi _ => hi) (fun _ _ _ _ _ _ hy => hy) (fun _ _ => Nat.le_refl _) h0 hsz hs hd
theorem lc_outS {t : List Nat} (out : Nat → List V) (hn : H1 D = none) (h0 : out 0 = []) (hsz : ∀ i, i ≤ t.length → (out i).length < sizeLine)
    (hs : ∀ i c H, t[i]? = some c → Same H1 H → ∀ (Qy : VK) (Qn : Hp → Prop), (∀ y H', out (i + 1) = out i ++ [y] → Same H H' → Qy y H') → (∀ H', out (i + 1) = out i → Same H H' → Qn H') →
      g (.str (S [c])) (wipe σ vs) H fun σ2 H2 => wipe σ2 vs = wipe σ vs ∧ tt σ2 H2 fun b H3 => if b = true then te σ2 H3 Qy else Qn H3)
    (hd : ∀ H, Same H1 H → H D = some (.lst (out t.length)) → Qd H) :
    ∃ W : Nat → Nat → Hp → Prop, (∃ m, W 0 m (upd H1 D (.lst []))) ∧ ∀ i m H, W i m H →
      ((Its (S t)).stop i H ∧ Qd H) ∨ ((Its (S t)).go i H ∧ ∃ Nx : Hp → Prop, (∀ H', Nx H' → ∃ m', m' < m ∧ W (i + 1) m' H') ∧ ∀ x H', (Its (S t)).yld i H x H' → g x (wipe σ vs) H' fun σ2 H2 => wipe σ2 vs = wipe σ vs ∧ tt σ2 H2 fun b H3 =>
        if b = true then te σ2 H3 fun y H4 => ∃ acc, H4 D = some (.lst acc) ∧ acc.length < sizeLine ∧ Nx (upd H4 D (.lst (acc ++ [y]))) else Nx H3) := by
  have hz : (S t).cps.size = t.length := by show t.toArray.size = t.length; rw [List.size_toArray]
  refine lc_out t.length (fun i => .str (S [t.getD i 0])) out hn (fun i H hi _ => by show i < (S t).cps.size; rw [hz]; exact hi) (fun i H x H' hi _ hy => ?_) (fun H _ => by show (S t).cps.size ≤ t.length; rw [hz]; exact Nat.le_refl _) h0 hsz (fun i H hi sm => ?_) hd
  · obtain ⟨e, c, hc, hx⟩ := hy
    have hc' : t.toArray[i]? = some c := hc
    rw [List.getElem?_toArray] at hc'
    refine ⟨e, hx.trans ?_⟩
    rw [List.getD_eq_getElem?_getD, hc']
    rfl
  · have e : t[i]? = some (t.getD i 0) := by rw [List.getD_eq_getElem?_getD, List.getElem?_eq_getElem hi]; rfl
    exact hs i _ H e sm
end

/-! ### the layer's rules, the written part told by a name (within a comprehension's block) -/
section
variable {X : Cx} {K : PySem.W.Frag}
theorem inS (e : X.K = K) : OpR X (compareOp .In) (rIn K false) := e ▸ op_in_seq
theorem ixT (e : X.K = K) : IxR X (rIxT K) := e ▸ ix_tup
theorem ixL (e : X.K = K) : IxR X (rIxL K) := e ▸ ix_list
theorem pgT (e : X.K = K) {es : List Expr} {k : Nat} {t : TGs} {n : Nat} {pos : Pos} (hc : X.calm = true) (h : PGs X es t) (hn : (assignEach es X.env).length = n := by rfl) (hst : (assignEach es X.env).findIdx? (·.1) = none := by rfl) : PG X (.Tuple es k pos) (gTup K n t) := e ▸ pg_tup hc h hn hst
theorem lenQ (e : X.K = K) : CallR X (.builtin "len") (fun xs H Q => ∃ p ys, xs = [.ref p] ∧ (SqL K H p ys ∨ SqT K H p ys) ∧ Q (.int ys.length) H) := e ▸ call_len_seq
end
end GC

/-! The text by places, what the walk asks of the module's names, the promises. -/
namespace GC
open PySem PySem.Spec PyProof.Rows L2 SX
def topS (i : Nat) : Stmt := PySem.Challenge.pw_greedycuts_k32_whole_joined_texts.main.body.getD i (.Pass ⟨0, 0, 0, 0⟩)
abbrev sBetween : Stmt := topS 9
abbrev sWord : Stmt := topS 10
abbrev sEntry : Stmt := topS 11
abbrev sList : Stmt := topS 12
abbrev sChkList : Stmt := topS 13
abbrev sLetters : Stmt := topS 14
abbrev sTextOf : Stmt := topS 15
abbrev sIsText : Stmt := topS 16
abbrev sNames : Stmt := topS 17
abbrev sCostIn : Stmt := topS 18
abbrev sFrom : Stmt := topS 20
abbrev sLongest : Stmt := topS 21
abbrev sMatch : Stmt := topS 23
abbrev sRowCost : Stmt := topS 24
abbrev sChkText : Stmt := topS 26
abbrev sAhead : Stmt := topS 27
abbrev sBehind : Stmt := topS 28
abbrev sLeastOf : Stmt := topS 29
abbrev sLeast : Stmt := topS 30
abbrev sWaste : Stmt := topS 31
abbrev sThrough : Stmt := topS 32
abbrev sStream : Stmt := topS 34
abbrev sNext : Stmt := topS 35
abbrev sWords : Stmt := topS 37
abbrev sText : Stmt := topS 38
abbrev sLaw : Stmt := topS 41
/-- what is asked of the module's names -/
structure Txt (mg : Str → Option Value) : Prop where
  isi : mg "isinstance" = none
  int : mg "int" = none
  bool : mg "bool" = none
  str : mg "str" = none
  tuple : mg "tuple" = none
  list : mg "list" = none
  len : mg "len" = none
  all : mg "all" = none
  min : mg "min" = none
  sum : mg "sum" = none
  abs : mg "abs" = none
  range : mg "range" = none
  sorted : mg "sorted" = none
  alp : ∃ u, mg "ALPHABET" = some u ∧ RelV (.str (S alph)) u
  lon : ∃ u, mg "LONGEST" = some u ∧ RelV (.int 4) u
  mw : ∃ u, mg "MOST_WORDS" = some u ∧ RelV (.int 8) u
  mc : ∃ u, mg "MOST_COST" = some u ∧ RelV (.int 9) u
  ml : ∃ u, mg "MOST_LETTERS" = some u ∧ RelV (.int 30) u
/-- the words ws stand at p: a tuple of pairs -/
def WAt (H : Hp) (p : Addr) (ws : List Wd) : Prop := ∃ bs : List (Addr × Wd), H p = some (.tup (bs.map fun b => V.ref b.1)) ∧ bs.map (·.2) = ws ∧ ∀ b ∈ bs, H b.1 = some (entO b.2)
theorem WAt.same {H H' : Hp} {p : Addr} {ws : List Wd} (W : WAt H p ws) (s : Same H H') : WAt H' p ws := by
  obtain ⟨bs, h1, h2, h3⟩ := W
  exact ⟨bs, s _ _ h1, h2, fun b hb => s _ _ (h3 b hb)⟩
def spBetween : Sp := fun vs H Q _ => ∃ v lo hi : Int, vs = [.int v, .int lo, .int hi] ∧ lo ≤ v ∧ v ≤ hi ∧ Q (.bl true) H
section
variable {P : Program} {w : World} {K : PySem.W.Frag} {mg : Str → Option Value} {base : Heap}
theorem scB : FnScope ["value", "low", "high"] ["value", "low", "high"] (C8.fnScope sBetween) := C8.fnScope_by (by decide +kernel)
theorem ok_between {f : Addr} {fd : FuncData} (F : C8.Def K mg "is_between" sBetween f fd) (b : Binds K fd ["value", "low", "high"] []) (T : Txt mg) : C8.Cal P w K mg base 1 "is_between" spBetween [] := by
  refine C8.cal0 F b .nil scB (fun vs H Q E h => ?_) (fun cdv A outer s H vs Q E hr h => ?_)
  · obtain ⟨v, lo, hi, rfl, _⟩ := h
    rfl
  · obtain ⟨v, lo, hi, rfl, h1, h2, q⟩ := h
    refine ⟨_, pss_one (ps_ret (pe_and (pe_callB call_isi (by rfl) T.isi (by decide +kernel) (pa_cons (pv 0) (pa_cons (pe_bltn (v := .ty "int") (by rfl) T.int (by decide +kernel) rfl) pa_nil)))
      (pe_and (pe_not (pe_callB call_isi (by rfl) T.isi (by decide +kernel) (pa_cons (pv 0) (pa_cons (pe_bltn (v := .ty "bool") (by rfl) T.bool (by decide +kernel) rfl) pa_nil))))
        (pe_one (pe_chain op_le op_le (pv 1) (pv 0) (pv 2)))))), ?_⟩
    refine ⟨_, rfl, _, _, _, _, true, rfl, .ty "int", .base (.int v), kit_ty (by decide +kernel), true, rfl, iteT ?_⟩
    refine ⟨_, rfl, _, _, _, _, false, rfl, .ty "bool", .base (.int v), kit_ty (by decide +kernel), false, rfl, true, rfl, iteT ?_⟩
    refine ⟨_, rfl, _, rfl, _, _, rfl, rfl, _, rfl, ?_⟩
    rw [decide_eq_true h1]
    refine iteT ⟨_, rfl, _, _, rfl, rfl, ?_⟩
    show Q (.bl (decide (v ≤ hi))) H
    rw [decide_eq_true h2]
    exact q
end
end GC

/-! The checks of words and lists. -/
namespace GC
open PySem PySem.Spec PyProof.Rows L2 SX
def spWord : Sp := fun vs H Q _ => ∃ t : List Nat, vs = [.str (S t)] ∧ 1 ≤ t.length ∧ t.length ≤ 4 ∧ (∀ c ∈ t, c ∈ alph) ∧ ∀ H', Same H H' → Q (.bl true) H'
theorem reps {α : Type} (y : α) (i : Nat) : List.replicate (i + 1) y = List.replicate i y ++ [y] := List.replicate_succ'
theorem all_reps (n : Nat) : (List.replicate n true).all id = true := by
  rw [List.all_eq_true]
  intro x hx
  exact (List.mem_replicate.mp hx).2
theorem rep_bl (n : Nat) : List.replicate n (V.bl true) = (List.replicate n true).map V.bl := by rw [List.map_replicate]
theorem sLen (t : List Nat) : ((S t).length : Int) = (t.length : Int) := by rw [S_len]
theorem szS {t : List Nat} (h : t.length ≤ 1000) : (S t).length ≤ sizeLine := by rw [S_len]; exact Nat.le_of_lt (small1000 h)
theorem getMap {α β : Type} {f : α → β} {l : List α} {i : Nat} {y : β} (h : (l.map f)[i]? = some y) : ∃ a, l[i]? = some a ∧ y = f a := by
  rw [List.getElem?_map] at h
  cases e : l[i]? with
  | none =>
    rw [e] at h
    cases h
  | some a =>
    rw [e] at h
    exact ⟨a, rfl, (Option.some.inj h).symm⟩
theorem joinL_nil : ∀ ys : List (List Nat), TL.joinL [] ys = ys.flatten
  | [] => rfl
  | [p] => by
    show p = p ++ []
    rw [List.append_nil]
  | p :: q :: r => by
    show p ++ ([] ++ TL.joinL [] (q :: r)) = p ++ (q :: r).flatten
    rw [List.nil_append, joinL_nil (q :: r)]
theorem joinS (ys : List (List Nat)) : Txt.join (S []) (ys.map S) = S ys.flatten := by rw [join_S, joinL_nil]
theorem strs_map (l : List (List Nat)) : (l.map fun e => V.str (S e)) = (l.map S).map V.str := by rw [List.map_map]; rfl
theorem flat_strs (l : List (List Nat)) : (l.map fun e => V.str (S e)).all flatV = true := by
  rw [List.all_map, List.all_eq_true]
  intro x _
  rfl
theorem inV_strs (x : List Nat) (l : List (List Nat)) : inV (.str (S x)) (l.map fun e => V.str (S e)) = decide (x ∈ l) := by
  unfold inV
  rw [List.any_map]
  have key : (List.any l ((fun y => eqV y (V.str (S x))) ∘ fun e => V.str (S e))) = l.any fun e => decide (e = x) := by
    congr 1
    funext e
    show (S e == S x) = decide (e = x)
    exact S_beq_eq
  rw [key]
  by_cases h : x ∈ l
  · rw [decide_eq_true h, List.any_eq_true]
    exact ⟨x, h, decide_eq_true rfl⟩
  · rw [decide_eq_false h, List.any_eq_false]
    intro y hy
    rw [decide_eq_true_eq]
    intro e
    exact h (e ▸ hy)
theorem sum_le {l : List Nat} {k : Nat} (h : ∀ x ∈ l, x ≤ k) : l.sum ≤ l.length * k := by
  induction l with
  | nil => exact Nat.zero_le _
  | cons a l ih =>
    have h1 := h a (List.mem_cons_self ..)
    have h2 := ih fun x hx => h x (List.mem_cons_of_mem _ hx)
    rw [List.sum_cons, List.length_cons, Nat.succ_mul]
    omega
def spEntry : Sp := fun vs H Q _ => ∃ (a : Addr) (e : Wd), vs = [.ref a] ∧ H a = some (entO e) ∧ 1 ≤ e.1.length ∧ e.1.length ≤ 4 ∧ (∀ c ∈ e.1, c ∈ alph) ∧ 1 ≤ e.2 ∧ e.2 ≤ 9 ∧ ∀ H', Same H H' → Q (.bl true) H'
def spList : Sp := fun vs H Q _ => ∃ (p : Addr) (ls : List Nat) (ws : List Wd), vs = [.ref p] ∧ WAt H p ws ∧ WL ls ws ∧ ∀ H', Same H H' → Q (.bl true) H'
section
variable {P : Program} {w : World} {K : PySem.W.Frag} {mg : Str → Option Value} {base : Heap}
theorem scW : FnScope ["value", "letter"] ["value"] (C8.fnScope sWord) := C8.fnScope_by (by decide +kernel)
theorem ok_word {f : Addr} {fd : FuncData} (F : C8.Def K mg "is_word" sWord f fd) (b : Binds K fd ["value"] []) (T : Txt mg) : C8.Cal P w K mg base 1 "is_word" spWord [] := by
  refine C8.cal0 F b .nil scW (fun vs H Q E h => ?_) (fun cdv A outer s H vs Q E hr h => ?_)
  · obtain ⟨t, rfl, _⟩ := h
    rfl
  · obtain ⟨t, rfl, h1, h4, ha, q⟩ := h
    refine ⟨_, pss_cons (ps_if (PW.pt (pw_or (pt_not (pt_val (pe_callB call_isi (by rfl) T.isi (by decide +kernel) (pa_cons (pv 0) (pa_cons (pe_bltn (v := .ty "str") (by rfl) T.str (by decide +kernel) rfl) pa_nil)))))
        (pw_or1 (pt_not (pt_chain op_le op_le pe_int (pe_callB call_len_str (by rfl) T.len (by decide +kernel) (pa_cons (pv 0) pa_nil)) (C8.pe_gc (by rfl) T.lon)))))) (pss_one (ps_ret pe_bl)) pss_nil)
      (pss_one (ps_ret (pe_callB (cr_all rfl) (by rfl) T.all (by decide +kernel) (pa_cons (pe_lc (own := [("letter", 1)]) (by rfl) scW.nd (pi_str (pv 0)) (blkOk_by (own := [("letter", 1)]) (N := ["value", "letter"]) (sc := C8.fnScope sWord) (by decide +kernel))
        (fun _ _ _ _ _ => pg_name (i := 1) scW.nd rfl (Or.inl rfl)) (fun _ _ _ _ _ => pts_nil) (fun _ _ _ _ _ => pe_cmpR op_in_sign (pv 1) (C8.pe_gc (by rfl) T.alp) (by rfl))) pa_nil)))), ?_⟩
    refine ⟨_, rfl, _, _, _, _, true, rfl, .ty "str", .base (.str _), kit_ty (by decide +kernel), true, rfl, iteF ?_⟩
    refine ⟨_, rfl, _, rfl, szS (by omega), _, _, rfl, rfl, _, rfl, ?_⟩
    rw [sLen, decide_eq_true (show (1 : Int) ≤ (t.length : Int) by omega)]
    refine iteT ⟨_, _, rfl, rfl, _, rfl, ?_⟩
    rw [decide_eq_true (show (t.length : Int) ≤ 4 by omega)]
    refine iteF ?_
    refine ⟨_, rfl, _, rfl, fun D hD => lc_outS (t := t) (fun i => List.replicate i (V.bl true)) hD rfl (fun i hi => ?_) (fun i c H1 hi sm Qy Qn hy hq => ⟨rfl, ?_⟩) (fun H1 sm e => ?_)⟩
    · rw [List.length_replicate]
      exact small1000 (by omega)
    · refine ⟨_, rfl, c, S alph, rfl, rfl, ?_⟩
      rw [decide_eq_true (show c ∈ (S alph).cps.toList from ha c (List.mem_of_getElem? hi))]
      exact hy _ _ (reps _ _) (Same.refl _)
    · refine ⟨D, List.replicate t.length true, rfl, .of (by rw [← rep_bl]; exact e), ?_⟩
      rw [all_reps]
      exact q _ sm
theorem scE : FnScope ["value"] ["value"] (C8.fnScope sEntry) := C8.fnScope_by (by decide +kernel)
theorem ok_entry {f : Addr} {fd : FuncData} (F : C8.Def K mg "is_entry" sEntry f fd) (b : Binds K fd ["value"] []) (T : Txt mg) (cW : C8.Cal P w K mg base 1 "is_word" spWord []) (cB : C8.Cal P w K mg base 1 "is_between" spBetween []) : C8.Cal P w K mg base 2 "is_entry" spEntry [] := by
  refine C8.cal0 F b .nil scE (fun vs H Q E h => ?_) (fun cdv A outer s H vs Q E hr h => ?_)
  · obtain ⟨a, e, rfl, _⟩ := h
    rfl
  · obtain ⟨a, e, rfl, ha, h1, h4, hal, hc1, hc9, q⟩ := h
    refine ⟨_, pss_one (ps_ret (pe_and (pe_callB call_isi (by rfl) T.isi (by decide +kernel) (pa_cons (pv 0) (pa_cons (pe_bltn (v := .ty "tuple") (by rfl) T.tuple (by decide +kernel) rfl) pa_nil)))
      (pe_and (pe_cmpR op_eq (pe_callB call_len_seq (by rfl) T.len (by decide +kernel) (pa_cons (pv 0) pa_nil)) pe_int (nomark _))
      (pe_and (C8.pe_c cW hr (Nat.le_refl _) (by rfl) (pa_cons (pe_ix ix_tup (pv 0) pe_int (fun _ _ => rfl)) pa_nil))
      (pe_one (C8.pe_c cB hr (Nat.le_refl _) (by rfl) (pa_cons (pe_ix ix_tup (pv 0) pe_int (fun _ _ => rfl)) (pa_cons pe_int (pa_cons (C8.pe_gc (by rfl) T.mc) pa_nil))))))))), ?_⟩
    refine ⟨_, rfl, _, _, _, _, true, rfl, .ty "tuple", .base (.tup ha), kit_ty (by decide +kernel), true, rfl, iteT ?_⟩
    refine ⟨_, rfl, a, _, rfl, .inr (SqT.of ha), rfl, true, rfl, iteT ?_⟩
    refine ⟨_, rfl, a, _, 0, _, rfl, rfl, SqT.of ha, atI_nat (j := 0) rfl, e.1, rfl, h1, h4, hal, fun H1 s1 => ⟨true, rfl, iteT ?_⟩⟩
    exact ⟨_, rfl, a, _, 1, _, rfl, rfl, SqT.of (s1 _ _ ha), atI_nat (j := 1) rfl, e.2, 1, 9, rfl, hc1, hc9, q _ s1⟩
theorem scL : FnScope ["value", "names", "one", "entry", "at", "letter"] ["value"] (C8.fnScope sList) := C8.fnScope_by (by decide +kernel)
theorem ok_list {f : Addr} {fd : FuncData} (F : C8.Def K mg "is_list" sList f fd) (b : Binds K fd ["value"] []) (T : Txt mg) (cE : C8.Cal P w K mg base 2 "is_entry" spEntry []) : C8.Cal P w K mg base 3 "is_list" spList [] := by
  refine C8.cal0 F b .nil scL (fun vs H Q E h => ?_) (fun cdv A outer s H vs Q E hr h => ?_)
  · obtain ⟨p, ls, ws, rfl, _⟩ := h
    rfl
  · obtain ⟨p, ls, ws, rfl, ⟨bs, hp, hbs, hb⟩, W, q⟩ := h
    refine ⟨_, pss_cons (ps_if (PW.pt (pw_or (pt_not (pt_val (pe_callB call_isi (by rfl) T.isi (by decide +kernel) (pa_cons (pv 0) (pa_cons (pe_bltn (v := .ty "tuple") (by rfl) T.tuple (by decide +kernel) rfl) pa_nil)))))
        (pw_or (pt_not (pt_chain op_le op_le pe_int (pe_callB call_len_seq (by rfl) T.len (by decide +kernel) (pa_cons (pv 0) pa_nil)) (C8.pe_gc (by rfl) T.mw)))
        (pw_or1 (pt_not (pt_val (pe_callB (cr_all rfl) (by rfl) T.all (by decide +kernel) (pa_cons (pe_lc (own := [("one", 2)]) (by rfl) scL.nd (pi_tup (pv 0)) (blkOk_by (own := [("one", 2)]) (N := ["value", "names", "one", "entry", "at", "letter"]) (sc := C8.fnScope sList) (by decide +kernel))
          (fun _ _ _ _ _ => pg_name (i := 2) scL.nd rfl (Or.inl rfl)) (fun _ _ _ _ _ => pts_nil) (fun _ _ _ _ _ => C8.pe_c cE hr (Nat.le_refl _) (by rfl) (pa_cons (pv 2) pa_nil))) pa_nil)))))))) (pss_one (ps_ret pe_bl)) pss_nil)
      (pss_cons (ps_set (i := 1) scL.nd rfl (Or.inr rfl) (pe_lc (own := [("entry", 3)]) (by rfl) scL.nd (pi_tup (pv 0)) (blkOk_by (own := [("entry", 3)]) (N := ["value", "names", "one", "entry", "at", "letter"]) (sc := C8.fnScope sList) (by decide +kernel))
          (fun _ _ _ _ _ => pg_name (i := 3) scL.nd rfl (Or.inl rfl)) (fun _ _ _ _ _ => pts_nil) (fun _ _ _ _ _ => pe_ix (ixT (K := K) rfl) (pv 3) pe_int (fun _ _ => rfl))))
      (pss_cons (ps_if (pt_not (pt_val (pe_callB (cr_all rfl) (by rfl) T.all (by decide +kernel) (pa_cons (pe_lc (own := [("at", 4)]) (by rfl) scL.nd (pi_range1 rfl T.range (pa_cons (pe_op op_sub (pe_callB call_len_seq (by rfl) T.len (by decide +kernel) (pa_cons (pv 1) pa_nil)) pe_int) pa_nil))
          (blkOk_by (own := [("at", 4)]) (N := ["value", "names", "one", "entry", "at", "letter"]) (sc := C8.fnScope sList) (by decide +kernel))
          (fun _ _ _ _ _ => pg_name (i := 4) scL.nd rfl (Or.inl rfl)) (fun _ _ _ _ _ => pts_nil) (fun _ _ _ _ _ => pe_cmpR op_lt_str (pe_ix (ixL (K := K) rfl) (pv 1) (pv 4) (fun _ _ => rfl)) (pe_ix (ixL (K := K) rfl) (pv 1) (pe_op op_add (pv 4) pe_int) (fun _ _ => rfl)) (nomark _))) pa_nil)))) (pss_one (ps_ret pe_bl)) pss_nil)
      (pss_one (ps_ret (pe_callB (cr_all rfl) (by rfl) T.all (by decide +kernel) (pa_cons (pe_lc (own := [("letter", 5)]) (by rfl) scL.nd (pi_str (pe_join pe_str (pv 1)))
          (blkOk_by (own := [("letter", 5)]) (N := ["value", "names", "one", "entry", "at", "letter"]) (sc := C8.fnScope sList) (by decide +kernel))
          (fun _ _ _ _ _ => pg_name (i := 5) scL.nd rfl (Or.inl rfl)) (fun _ _ _ _ _ => pts_nil) (fun _ _ _ _ _ => pe_cmpR (inS (K := K) rfl) (pv 5) (pv 1) (by rfl))) pa_nil)))))), ?_⟩
    have hlen : bs.length = ws.length := by rw [← hbs, List.length_map]
    have w1 := W.l1
    have w8 := W.l8
    -- the first test
    refine ⟨_, rfl, _, _, _, _, true, rfl, .ty "tuple", .base (.tup hp), kit_ty (by decide +kernel), true, rfl, iteF ?_⟩
    refine ⟨_, rfl, p, _, rfl, .inr (SqT.of hp), _, _, rfl, rfl, _, rfl, ?_⟩
    rw [List.length_map, decide_eq_true (show (1 : Int) ≤ (bs.length : Int) by omega)]
    refine iteT ⟨_, _, rfl, rfl, _, rfl, ?_⟩
    rw [decide_eq_true (show (bs.length : Int) ≤ 8 by omega)]
    refine iteF ?_
    refine ⟨_, rfl, p, rfl, ⟨_, SqT.of hp⟩, fun D hD => lc_outT (xs := bs.map fun b => V.ref b.1) (fun i => List.replicate i (V.bl true)) hD (SqT.of hp) rfl (fun i hi => ?_) (fun i x H1 hi sm Qy Qn hy hq => ?_) (fun H1 s1 e1 => ?_)⟩
    · rw [List.length_replicate]
      rw [List.length_map] at hi
      exact small1000 (by omega)
    · obtain ⟨d, hd, rfl⟩ := getMap hi
      have hm : d ∈ bs := List.mem_of_getElem? hd
      have hw : d.2 ∈ ws := by rw [← hbs]; exact List.mem_map.mpr ⟨d, hm, rfl⟩
      obtain ⟨a1, a4, al, c1, c9⟩ := W.wd _ hw
      exact ⟨rfl, _, rfl, d.1, d.2, rfl, sm _ _ (hb d hm), a1, a4, fun c hc => W.abc c (al c hc), c1, c9, fun H' s' => hy _ _ (reps _ _) s'⟩
    · refine ⟨D, List.replicate (bs.map fun b => V.ref b.1).length true, rfl, .of (by rw [← rep_bl]; exact e1), ?_⟩
      rw [all_reps]
      refine ⟨true, rfl, iteF ?_⟩
      -- names
      have hp1 := s1 _ _ hp
      refine ⟨_, rfl, p, rfl, ⟨_, SqT.of hp1⟩, fun D2 hD2 => lc_outT (xs := bs.map fun b => V.ref b.1) (fun i => (ws.map fun e => V.str (S e.1)).take i) hD2 (SqT.of hp1) rfl (fun i hi => ?_) (fun i x H2 hi sm Qy Qn hy hq => ?_) (fun H2 s2 e2 => ?_)⟩
      · rw [List.length_take]
        rw [List.length_map] at hi
        exact small1000 (by omega)
      · obtain ⟨d, hd, rfl⟩ := getMap hi
        have hm : d ∈ bs := List.mem_of_getElem? hd
        have hw : ws[i]? = some d.2 := by rw [← hbs, List.getElem?_map, hd]; rfl
        refine ⟨rfl, _, rfl, d.1, _, 0, _, rfl, rfl, SqT.of (sm _ _ (s1 _ _ (hb d hm))), atI_nat (j := 0) rfl, ?_⟩
        exact hy _ _ (take_snoc (by rw [List.getElem?_map, hw]; rfl)) (Same.refl _)
      · have hn : H2 D2 = some (.lst (ws.map fun e => V.str (S e.1))) := by
          rw [e2, List.length_map, List.take_of_length_le]
          rw [List.length_map]
          omega
        -- ascending
        refine ⟨_, rfl, D2, _, rfl, .inl (SqL.of hn), _, _, rfl, rfl, _, rfl, ?_, ?_, fun D3 hD3 => lc_outR (fun i => List.replicate i (V.bl true)) hD3 rfl (fun i hi => ?_) (fun i H3 hi sm Qy Qn hy hq => ?_) (fun H3 s3 e3 => ?_)⟩
        · rw [List.length_map]
          omega
        · rw [List.length_map]
          omega
        · rw [List.length_replicate]
          rw [List.length_map] at hi
          exact small1000 (by omega)
        · rw [List.length_map] at hi
          have i0 : i < ws.length := by omega
          have i1 : i + 1 < ws.length := by omega
          have g0 : (ws.map fun e => V.str (S e.1))[i]? = some (.str (S ws[i].1)) := by rw [List.getElem?_map, List.getElem?_eq_getElem i0]; rfl
          have g1 : (ws.map fun e => V.str (S e.1))[i + 1]? = some (.str (S ws[i + 1].1)) := by rw [List.getElem?_map, List.getElem?_eq_getElem i1]; rfl
          have hlt : ws[i].1 < ws[i + 1].1 := by
            have z := List.pairwise_iff_getElem.mp W.asc i (i + 1) (by rw [List.length_map]; exact i0) (by rw [List.length_map]; exact i1) (Nat.lt_succ_self i)
            rw [List.getElem_map, List.getElem_map] at z
            exact z
          have hl3 := SqL.of (K := K) (sm _ _ hn)
          refine ⟨rfl, _, rfl, _, rfl, D2, _, _, _, rfl, rfl, hl3, at_of (j := i) (by omega) g0, _, rfl, _, rfl, _, _, rfl, rfl, D2, _, _, _, rfl, rfl, hl3, at_of (j := i + 1) (by omega) g1, _, _, rfl, rfl, ?_⟩
          rw [show decide ((S ws[i].1).cps.toList < (S ws[i + 1].1).cps.toList) = true from decide_eq_true hlt]
          exact hy _ _ (reps _ _) (Same.refl _)
        · refine ⟨D3, List.replicate _ true, rfl, .of (by rw [← rep_bl]; exact e3), ?_⟩
          rw [all_reps]
          refine ⟨true, rfl, iteF ?_⟩
          -- the letters
          have hn3 := s3 _ _ hn
          have hj : Txt.join (S []) ((ws.map (·.1)).map S) = S (ws.map (·.1)).flatten := joinS _
          have hmap : (ws.map fun e => V.str (S e.1)) = ((ws.map (·.1)).map S).map V.str := by rw [List.map_map, List.map_map]; rfl
          have hmap2 : (ws.map fun e => V.str (S e.1)) = (ws.map (·.1)).map fun e => V.str (S e) := by rw [List.map_map]; rfl
          have h4 : ∀ x ∈ (ws.map (·.1)).map List.length, x ≤ 4 := fun x hx => by
            obtain ⟨y, hy, rfl⟩ := List.mem_map.mp hx
            obtain ⟨e, he, rfl⟩ := List.mem_map.mp hy
            exact (W.wd e he).2.1
          have hsum := sum_le h4
          rw [List.length_map, List.length_map] at hsum
          have hsum2 : ((ws.map (·.1)).map (fun x => x.length)).sum ≤ ws.length * 4 := hsum
          refine ⟨⟨_, rfl⟩, _, rfl, S [], D2, (ws.map (·.1)).map S, rfl, rfl, .inl (SqL.of (by rw [← hmap]; exact hn3)), ?_, S (ws.map (·.1)).flatten, congrArg V.str hj, fun D4 hD4 => lc_outS (t := (ws.map (·.1)).flatten) (fun i => List.replicate i (V.bl true)) hD4 rfl (fun i hi => ?_) (fun i c H4 hi sm Qy Qn hy hq => ?_) (fun H4 s4 e4 => ?_)⟩
          · rw [lens, show (S []).length = 0 from rfl]
            omega
          · rw [List.length_replicate]
            rw [List.length_flatten] at hi
            exact small1000 (by omega)
          · have hc : [c] ∈ ws.map (·.1) := by
              obtain ⟨y, hy, hcy⟩ := List.mem_flatten.mp (List.mem_of_getElem? hi)
              obtain ⟨e, he, rfl⟩ := List.mem_map.mp hy
              exact W.has c ((W.wd e he).2.2.1 c hcy)
            refine ⟨rfl, _, rfl, _, rfl, D2, _, rfl, .inl (SqL.of (sm _ _ hn3)), rfl, ?_, ?_⟩
            · rw [hmap2]
              exact flat_strs _
            · rw [hmap2, inV_strs, decide_eq_true hc]
              exact hy _ _ (reps _ _) (Same.refl _)
          · refine ⟨D4, List.replicate _ true, rfl, .of (by rw [← rep_bl]; exact e4), ?_⟩
            rw [all_reps]
            exact q _ (((s1.trans s2).trans s3).trans s4)
end
end GC

/-! Lists and texts: checks, names, costs. -/
namespace GC
open PySem PySem.Spec PyProof.Rows L2 SX
def spChkList : Sp := fun vs H Q _ => ∃ (p : Addr) (ls : List Nat) (ws : List Wd), vs = [.ref p] ∧ WAt H p ws ∧ WL ls ws ∧ ∀ H', Same H H' → Q .non H'
def spLetters : Sp := fun vs H Q _ => ∃ (p : Addr) (ws : List Wd), vs = [.ref p] ∧ WAt H p ws ∧ ws.length ≤ 8 ∧ (∀ e ∈ ws, e.1.length ≤ 4) ∧ ∀ l H', (∀ c, [c] ∈ ws.map (·.1) → c ∈ l) → Same H H' → Q (.str (S l)) H'
def spTextOf : Sp := fun vs H Q _ => ∃ (p : Addr) (ls : List Nat) (ws : List Wd) (t : List Nat), vs = [.ref p, .str (S t)] ∧ WAt H p ws ∧ WL ls ws ∧ t.length ≤ 30 ∧ (∀ c ∈ t, c ∈ ls) ∧ ∀ H', Same H H' → Q (.bl true) H'
def spChkText : Sp := fun vs H Q _ => ∃ (p : Addr) (ls : List Nat) (ws : List Wd) (t : List Nat), vs = [.ref p, .str (S t)] ∧ WAt H p ws ∧ WL ls ws ∧ t.length ≤ 30 ∧ (∀ c ∈ t, c ∈ ls) ∧ ∀ H', Same H H' → Q .non H'
def spNames : Sp := fun vs H Q _ => ∃ (p : Addr) (ws : List Wd), vs = [.ref p] ∧ WAt H p ws ∧ ws.length ≤ 8 ∧ ∀ q H', Same H H' → H' q = some (.lst (ws.map fun e => V.str (S e.1))) → Q (.ref q) H'
def spCostIn : Sp := fun vs H Q _ => ∃ (p : Addr) (ws : List Wd) (x : List Nat), vs = [.ref p, .str (S x)] ∧ WAt H p ws ∧ ws.length ≤ 8 ∧ x ∈ ws.map (·.1) ∧ ∀ H', Same H H' → Q (.int (costOf ws x)) H'
theorem filt_snoc {α β : Type} {ws : List α} {i : Nat} {d : α} (p : α → Bool) (f : α → β) (h : ws[i]? = some d) (hp : p d = true) : ((ws.take (i + 1)).filter p).map f = ((ws.take i).filter p).map f ++ [f d] := by
  rw [take_snoc h, List.filter_append, List.map_append, List.filter_cons, if_pos hp]
  rfl
theorem filt_skip {α β : Type} {ws : List α} {i : Nat} {d : α} (p : α → Bool) (f : α → β) (h : ws[i]? = some d) (hp : ¬ p d = true) : ((ws.take (i + 1)).filter p).map f = ((ws.take i).filter p).map f := by
  rw [take_snoc h, List.filter_append, List.filter_cons, if_neg hp, List.filter_nil, List.append_nil]
theorem filt_len {α β : Type} (ws : List α) (i : Nat) (p : α → Bool) (f : α → β) : (((ws.take i).filter p).map f).length ≤ i := by
  rw [List.length_map]
  refine Nat.le_trans (List.length_filter_le _ _) ?_
  rw [List.length_take]
  exact Nat.min_le_left _ _
section
variable {P : Program} {w : World} {K : PySem.W.Frag} {mg : Str → Option Value} {base : Heap}
theorem scC : FnScope ["words"] ["words"] (C8.fnScope sChkList) := C8.fnScope_by (by decide +kernel)
theorem ok_chkList {f : Addr} {fd : FuncData} (F : C8.Def K mg "check_list" sChkList f fd) (b : Binds K fd ["words"] []) (cL : C8.Cal P w K mg base 3 "is_list" spList []) : C8.Cal P w K mg base 4 "check_list" spChkList [] := by
  refine C8.cal0 F b .nil scC (fun vs H Q E h => ?_) (fun cdv A outer s H vs Q E hr h => ?_)
  · obtain ⟨p, ls, ws, rfl, _⟩ := h
    rfl
  · obtain ⟨p, ls, ws, rfl, hp, W, q⟩ := h
    refine ⟨_, pss_one (ps_if (pt_not (pt_val (C8.pe_c cL hr (Nat.le_refl _) (by rfl) (pa_cons (pv 0) pa_nil)))) pss_never pss_nil), ?_⟩
    exact ⟨_, rfl, p, ls, ws, rfl, hp, W, fun H1 s1 => ⟨true, rfl, iteF (q _ s1)⟩⟩
theorem scLt : FnScope ["words", "entry"] ["words"] (C8.fnScope sLetters) := C8.fnScope_by (by decide +kernel)
theorem ok_letters {f : Addr} {fd : FuncData} (F : C8.Def K mg "letters_in" sLetters f fd) (b : Binds K fd ["words"] []) (T : Txt mg) : C8.Cal P w K mg base 1 "letters_in" spLetters [] := by
  refine C8.cal0 F b .nil scLt (fun vs H Q E h => ?_) (fun cdv A outer s H vs Q E hr h => ?_)
  · obtain ⟨p, ws, rfl, _⟩ := h
    rfl
  · obtain ⟨p, ws, rfl, ⟨bs, hp, hbs, hb⟩, h8, h4, q⟩ := h
    have hlen : bs.length = ws.length := by rw [← hbs, List.length_map]
    refine ⟨_, pss_one (ps_ret (pe_join pe_str (pe_lc (own := [("entry", 1)]) (by rfl) scLt.nd (pi_tup (pv 0)) (blkOk_by (own := [("entry", 1)]) (N := ["words", "entry"]) (sc := C8.fnScope sLetters) (by decide +kernel))
      (fun _ _ _ _ _ => pg_name (i := 1) scLt.nd rfl (Or.inl rfl))
      (fun _ _ _ _ _ => pts_one (pt_cmpR op_eq (pe_callB call_len_str (by rfl) T.len (by decide +kernel) (pa_cons (pe_ix (ixT (K := K) rfl) (pv 1) pe_int (fun _ _ => rfl)) pa_nil)) pe_int (nomark _)))
      (fun _ _ _ _ _ => pe_ix (ixT (K := K) rfl) (pv 1) pe_int (fun _ _ => rfl))))), ?_⟩
    refine ⟨⟨_, rfl⟩, _, rfl, p, rfl, ⟨_, SqT.of hp⟩, fun D hD => lc_outT (xs := bs.map fun b => V.ref b.1) (fun i => ((ws.take i).filter fun e => decide (e.1.length = 1)).map fun e => V.str (S e.1)) hD (SqT.of hp) rfl (fun i hi => ?_) (fun i x H1 hi sm Qy Qn hy hq => ?_) (fun H1 s1 e1 => ?_)⟩
    · rw [List.length_map] at hi
      exact small1000 (Nat.le_trans (filt_len _ _ _ _) (by omega))
    · obtain ⟨d, hd, rfl⟩ := getMap hi
      have hm : d ∈ bs := List.mem_of_getElem? hd
      have hw : ws[i]? = some d.2 := by rw [← hbs, List.getElem?_map, hd]; rfl
      have hdw : d.2 ∈ ws := List.mem_of_getElem? hw
      have ht := SqT.of (K := K) (sm _ _ (hb d hm))
      refine ⟨rfl, _, rfl, d.1, _, 0, _, rfl, rfl, ht, atI_nat (j := 0) rfl, _, rfl, szS (by have := h4 _ hdw; omega), rfl, _, rfl, ite2 (fun e => ?_) (fun e => ?_)⟩
      · have e1 : d.2.1.length = 1 := by
          have z := V.int.inj (of_decide_eq_true e)
          rw [sLen] at z
          omega
        exact ⟨_, rfl, d.1, _, 0, _, rfl, rfl, ht, atI_nat (j := 0) rfl, hy _ _ (filt_snoc _ _ hw (decide_eq_true e1)) (Same.refl _)⟩
      · refine hq _ (filt_skip _ _ hw fun z => e (decide_eq_true ?_)) (Same.refl _)
        rw [sLen, of_decide_eq_true z]
        rfl
    · rw [List.length_map, hlen, List.take_length] at e1
      refine ⟨S [], D, (ws.filter fun e => decide (e.1.length = 1)).map fun e => S e.1, rfl, rfl, .inl (SqL.of (by rw [List.map_map]; exact e1)), ?_, ?_⟩
      · rw [show (S []).length = 0 from rfl, List.map_map]
        have h1 : ∀ x ∈ (ws.filter fun e => decide (e.1.length = 1)).map (Str.length ∘ fun e => S e.1), x ≤ 4 := fun x hx => by
          obtain ⟨e, he, rfl⟩ := List.mem_map.mp hx
          show (S e.1).length ≤ 4
          rw [S_len]
          exact h4 e (List.mem_filter.mp he).1
        have h2 := sum_le h1
        rw [List.length_map] at h2
        have h3 := List.length_filter_le (fun e : Wd => decide (e.1.length = 1)) ws
        have h5 : (List.map ((fun x : Str => x.length) ∘ fun e : Wd => S e.1) (List.filter (fun e => decide (e.1.length = 1)) ws)).sum ≤ (ws.filter fun e => decide (e.1.length = 1)).length * 4 := h2
        omega
      · have e2 : Txt.join (S []) ((ws.filter fun e => decide (e.1.length = 1)).map fun e => S e.1) = S ((ws.filter fun e => decide (e.1.length = 1)).map (·.1)).flatten := by
          rw [← joinS, List.map_map]
          rfl
        show Q (.str (Txt.join (S []) ((ws.filter fun e => decide (e.1.length = 1)).map fun e => S e.1))) H1
        rw [e2]
        refine q _ _ (fun c hc => ?_) s1
        obtain ⟨e, he, ec⟩ := List.mem_map.mp hc
        exact List.mem_flatten.mpr ⟨[c], List.mem_map.mpr ⟨e, List.mem_filter.mpr ⟨he, decide_eq_true (by rw [ec]; rfl)⟩, ec⟩, List.mem_cons_self ..⟩
theorem scTo : FnScope ["words", "value", "letters", "letter"] ["words", "value"] (C8.fnScope sTextOf) := C8.fnScope_by (by decide +kernel)
theorem ok_textOf {f : Addr} {fd : FuncData} (F : C8.Def K mg "is_text_of" sTextOf f fd) (b : Binds K fd ["words", "value"] []) (T : Txt mg) (cLt : C8.Cal P w K mg base 1 "letters_in" spLetters []) : C8.Cal P w K mg base 2 "is_text_of" spTextOf [] := by
  refine C8.cal0 F b .nil scTo (fun vs H Q E h => ?_) (fun cdv A outer s H vs Q E hr h => ?_)
  · obtain ⟨p, ls, ws, t, rfl, _⟩ := h
    rfl
  · obtain ⟨p, ls, ws, t, rfl, hp, W, h30, ht, q⟩ := h
    refine ⟨_, pss_cons (ps_if (PW.pt (pw_or (pt_not (pt_val (pe_callB call_isi (by rfl) T.isi (by decide +kernel) (pa_cons (pv 1) (pa_cons (pe_bltn (v := .ty "str") (by rfl) T.str (by decide +kernel) rfl) pa_nil)))))
        (pw_or1 (pt_cmpR op_gt (pe_callB call_len_str (by rfl) T.len (by decide +kernel) (pa_cons (pv 1) pa_nil)) (C8.pe_gc (by rfl) T.ml) (nomark _))))) (pss_one (ps_ret pe_bl)) pss_nil)
      (pss_cons (ps_set (i := 2) scTo.nd rfl (Or.inr rfl) (C8.pe_c cLt hr (Nat.le_refl _) (by rfl) (pa_cons (pv 0) pa_nil)))
      (pss_one (ps_ret (pe_callB (cr_all rfl) (by rfl) T.all (by decide +kernel) (pa_cons (pe_lc (own := [("letter", 3)]) (by rfl) scTo.nd (pi_str (pv 1)) (blkOk_by (own := [("letter", 3)]) (N := ["words", "value", "letters", "letter"]) (sc := C8.fnScope sTextOf) (by decide +kernel))
        (fun _ _ _ _ _ => pg_name (i := 3) scTo.nd rfl (Or.inl rfl)) (fun _ _ _ _ _ => pts_nil) (fun _ _ _ _ _ => pe_cmpR op_in_sign (pv 3) (pv 2) (by rfl))) pa_nil))))), ?_⟩
    refine ⟨_, rfl, _, _, _, _, true, rfl, .ty "str", .base (.str _), kit_ty (by decide +kernel), true, rfl, iteF ?_⟩
    refine ⟨_, rfl, _, rfl, szS (by omega), _, _, rfl, rfl, _, rfl, ?_⟩
    rw [sLen, decide_eq_false (show ¬ (30 : Int) < (t.length : Int) by omega)]
    refine iteF ?_
    refine ⟨_, rfl, p, ws, rfl, hp, W.l8, fun e he => (W.wd e he).2.1, fun l H1 hl s1 => ?_⟩
    refine ⟨_, rfl, _, rfl, fun D hD => lc_outS (t := t) (fun i => List.replicate i (V.bl true)) hD rfl (fun i hi => ?_) (fun i c H2 hi sm Qy Qn hy hq => ?_) (fun H2 s2 e2 => ?_)⟩
    · rw [List.length_replicate]
      exact small1000 (by omega)
    · refine ⟨rfl, _, rfl, _, rfl, c, S l, rfl, rfl, ?_⟩
      rw [decide_eq_true (show c ∈ (S l).cps.toList from hl c (W.has c (ht c (List.mem_of_getElem? hi))))]
      exact hy _ _ (reps _ _) (Same.refl _)
    · refine ⟨D, List.replicate t.length true, rfl, .of (by rw [← rep_bl]; exact e2), ?_⟩
      rw [all_reps]
      exact q _ (s1.trans s2)
theorem scIt : FnScope ["words", "value"] ["words", "value"] (C8.fnScope sIsText) := C8.fnScope_by (by decide +kernel)
theorem ok_isText {f : Addr} {fd : FuncData} (F : C8.Def K mg "is_text" sIsText f fd) (b : Binds K fd ["words", "value"] []) (cC : C8.Cal P w K mg base 4 "check_list" spChkList []) (cT : C8.Cal P w K mg base 2 "is_text_of" spTextOf []) : C8.Cal P w K mg base 5 "is_text" spTextOf [] := by
  refine C8.cal0 F b .nil scIt (fun vs H Q E h => ?_) (fun cdv A outer s H vs Q E hr h => ?_)
  · obtain ⟨p, ls, ws, t, rfl, _⟩ := h
    rfl
  · obtain ⟨p, ls, ws, t, rfl, hp, W, h30, ht, q⟩ := h
    refine ⟨_, pss_cons (ps_expr (C8.pe_c cC hr (Nat.le_refl _) (by rfl) (pa_cons (pv 0) pa_nil))) (pss_one (ps_ret (C8.pe_c cT hr (by decide) (by rfl) (pa_cons (pv 0) (pa_cons (pv 1) pa_nil))))), ?_⟩
    exact ⟨_, rfl, p, ls, ws, rfl, hp, W, fun H1 s1 => ⟨_, rfl, _, rfl, p, ls, ws, t, rfl, hp.same s1, W, h30, ht, fun H2 s2 => q _ (s1.trans s2)⟩⟩
theorem scCt : FnScope ["words", "text"] ["words", "text"] (C8.fnScope sChkText) := C8.fnScope_by (by decide +kernel)
theorem ok_chkText {f : Addr} {fd : FuncData} (F : C8.Def K mg "check_text" sChkText f fd) (b : Binds K fd ["words", "text"] []) (cL : C8.Cal P w K mg base 3 "is_list" spList []) (cT : C8.Cal P w K mg base 5 "is_text" spTextOf []) : C8.Cal P w K mg base 6 "check_text" spChkText [] := by
  refine C8.cal0 F b .nil scCt (fun vs H Q E h => ?_) (fun cdv A outer s H vs Q E hr h => ?_)
  · obtain ⟨p, ls, ws, t, rfl, _⟩ := h
    rfl
  · obtain ⟨p, ls, ws, t, rfl, hp, W, h30, ht, q⟩ := h
    refine ⟨_, pss_cons (ps_if (pt_not (pt_val (C8.pe_c cL hr (by decide) (by rfl) (pa_cons (pv 0) pa_nil)))) pss_never pss_nil)
      (pss_one (ps_if (pt_not (pt_val (C8.pe_c cT hr (by decide) (by rfl) (pa_cons (pv 0) (pa_cons (pv 1) pa_nil))))) pss_never pss_nil)), ?_⟩
    exact ⟨_, rfl, p, ls, ws, rfl, hp, W, fun H1 s1 => ⟨true, rfl, iteF ⟨_, rfl, _, rfl, p, ls, ws, t, rfl, hp.same s1, W, h30, ht, fun H2 s2 => ⟨true, rfl, iteF (q _ (s1.trans s2))⟩⟩⟩⟩
theorem scNm : FnScope ["words", "entry"] ["words"] (C8.fnScope sNames) := C8.fnScope_by (by decide +kernel)
theorem ok_names {f : Addr} {fd : FuncData} (F : C8.Def K mg "names_in" sNames f fd) (b : Binds K fd ["words"] []) : C8.Cal P w K mg base 1 "names_in" spNames [] := by
  refine C8.cal0 F b .nil scNm (fun vs H Q E h => ?_) (fun cdv A outer s H vs Q E hr h => ?_)
  · obtain ⟨p, ws, rfl, _⟩ := h
    rfl
  · obtain ⟨p, ws, rfl, ⟨bs, hp, hbs, hb⟩, h8, q⟩ := h
    have hlen : bs.length = ws.length := by rw [← hbs, List.length_map]
    refine ⟨_, pss_one (ps_ret (pe_lc (own := [("entry", 1)]) (by rfl) scNm.nd (pi_tup (pv 0)) (blkOk_by (own := [("entry", 1)]) (N := ["words", "entry"]) (sc := C8.fnScope sNames) (by decide +kernel))
      (fun _ _ _ _ _ => pg_name (i := 1) scNm.nd rfl (Or.inl rfl)) (fun _ _ _ _ _ => pts_nil) (fun _ _ _ _ _ => pe_ix (ixT (K := K) rfl) (pv 1) pe_int (fun _ _ => rfl)))), ?_⟩
    refine ⟨_, rfl, p, rfl, ⟨_, SqT.of hp⟩, fun D hD => lc_outT (xs := bs.map fun b => V.ref b.1) (fun i => (ws.map fun e => V.str (S e.1)).take i) hD (SqT.of hp) rfl (fun i hi => ?_) (fun i x H2 hi sm Qy Qn hy hq => ?_) (fun H2 s2 e2 => ?_)⟩
    · rw [List.length_take]
      rw [List.length_map] at hi
      exact small1000 (by omega)
    · obtain ⟨d, hd, rfl⟩ := getMap hi
      have hm : d ∈ bs := List.mem_of_getElem? hd
      have hw : ws[i]? = some d.2 := by rw [← hbs, List.getElem?_map, hd]; rfl
      exact ⟨rfl, _, rfl, d.1, _, 0, _, rfl, rfl, SqT.of (sm _ _ (hb d hm)), atI_nat (j := 0) rfl, hy _ _ (take_snoc (by rw [List.getElem?_map, hw]; rfl)) (Same.refl _)⟩
    · refine q D H2 s2 ?_
      rw [e2, List.length_map, List.take_of_length_le]
      rw [List.length_map]
      omega
theorem scCi : FnScope ["words", "word", "entry"] ["words", "word"] (C8.fnScope sCostIn) := C8.fnScope_by (by decide +kernel)
theorem ok_costIn {f : Addr} {fd : FuncData} (F : C8.Def K mg "cost_in" sCostIn f fd) (b : Binds K fd ["words", "word"] []) : C8.Cal P w K mg base 1 "cost_in" spCostIn [] := by
  refine C8.cal0 F b .nil scCi (fun vs H Q E h => ?_) (fun cdv A outer s H vs Q E hr h => ?_)
  · obtain ⟨p, ws, x, rfl, _⟩ := h
    rfl
  · obtain ⟨p, ws, x, rfl, ⟨bs, hp, hbs, hb⟩, h8, hx, q⟩ := h
    have hlen : bs.length = ws.length := by rw [← hbs, List.length_map]
    refine ⟨_, pss_one (ps_ret (pe_ix ix_list (pe_lc (own := [("entry", 2)]) (by rfl) scCi.nd (pi_tup (pv 0)) (blkOk_by (own := [("entry", 2)]) (N := ["words", "word", "entry"]) (sc := C8.fnScope sCostIn) (by decide +kernel))
      (fun _ _ _ _ _ => pg_name (i := 2) scCi.nd rfl (Or.inl rfl)) (fun _ _ _ _ _ => pts_one (pt_cmpR op_eq (pe_ix (ixT (K := K) rfl) (pv 2) pe_int (fun _ _ => rfl)) (pv 1) (nomark _))) (fun _ _ _ _ _ => pe_ix (ixT (K := K) rfl) (pv 2) pe_int (fun _ _ => rfl))) pe_int (fun _ _ => rfl))), ?_⟩
    refine ⟨_, rfl, p, rfl, ⟨_, SqT.of hp⟩, fun D hD => lc_outT (xs := bs.map fun b => V.ref b.1) (fun i => ((ws.take i).filter fun e => decide (e.1 = x)).map fun e => V.int e.2) hD (SqT.of hp) rfl (fun i hi => ?_) (fun i y H1 hi sm Qy Qn hy hq => ?_) (fun H1 s1 e1 => ?_)⟩
    · rw [List.length_map] at hi
      exact small1000 (Nat.le_trans (filt_len _ _ _ _) (by omega))
    · obtain ⟨d, hd, rfl⟩ := getMap hi
      have hm : d ∈ bs := List.mem_of_getElem? hd
      have hw : ws[i]? = some d.2 := by rw [← hbs, List.getElem?_map, hd]; rfl
      have ht := SqT.of (K := K) (sm _ _ (hb d hm))
      refine ⟨rfl, _, rfl, d.1, _, 0, _, rfl, rfl, ht, atI_nat (j := 0) rfl, _, rfl, rfl, _, rfl, ite2 (fun e => ?_) (fun e => ?_)⟩
      · have e1 : d.2.1 = x := S_inj (V.str.inj (of_decide_eq_true e))
        exact ⟨_, rfl, d.1, _, 1, _, rfl, rfl, ht, atI_nat (j := 1) rfl, hy _ _ (filt_snoc _ _ hw (decide_eq_true e1)) (Same.refl _)⟩
      · refine hq _ (filt_skip _ _ hw fun z => e (decide_eq_true ?_)) (Same.refl _)
        rw [of_decide_eq_true z]
    · rw [List.length_map, hlen, List.take_length] at e1
      obtain ⟨e0, he0, hex⟩ := List.mem_map.mp hx
      have hmem : e0 ∈ ws.filter fun e => decide (e.1 = x) := List.mem_filter.mpr ⟨he0, decide_eq_true hex⟩
      cases hf : ws.filter fun e => decide (e.1 = x) with
      | nil =>
        rw [hf] at hmem
        cases hmem
      | cons d r =>
        rw [hf] at e1
        refine ⟨D, _, 0, .int (costOf ws x), rfl, rfl, SqL.of e1, atI_nat (j := 0) ?_, q H1 s1⟩
        unfold costOf
        rw [hf]
        rfl
end
end GC

/-! Longest match. -/
namespace GC
open PySem PySem.Spec PyProof.Rows L2 SX
def spFrom : Sp := fun vs H Q _ => ∃ (p : Addr) (ws : List Wd) (t : List Nat) (i : Nat), vs = [.ref p, .str (S t), .int (i : Nat)] ∧ WAt H p ws ∧ ws.length ≤ 8 ∧ t.length ≤ 30 ∧ i < t.length ∧
  ∀ m q H', 1 ≤ m → Same H H' → H' q = some (.tup ((wordsAt ws t i m).map fun x => V.str (S x))) → Q (.ref q) H'
def spLongest : Sp := fun vs H Q _ => ∃ (p : Addr) (ws : List Wd) (t : List Nat) (i : Nat), vs = [.ref p, .str (S t), .int (i : Nat)] ∧ WAt H p ws ∧ ws.length ≤ 8 ∧ t.length ≤ 30 ∧ i < t.length ∧ (∀ c ∈ t, ∃ k, ([c], k) ∈ ws) ∧
  ∀ x H', x ∈ ws.map (·.1) → x ≠ [] → x <+: t.drop i → Same H H' → Q (.str (S x)) H'
def spMatch : Sp := fun vs H Q _ => ∃ (p : Addr) (ws : List Wd) (t : List Nat), vs = [.ref p, .str (S t)] ∧ WAt H p ws ∧ ws.length ≤ 8 ∧ t.length ≤ 30 ∧ (∀ c ∈ t, ∃ k, ([c], k) ∈ ws) ∧
  ∀ (row : List (List Nat)) (q : Addr) (H' : Hp), row.flatten = t → (∀ x ∈ row, x ∈ ws.map (·.1)) → row.length ≤ 30 → Same H H' → H' q = some (.tup (row.map fun x => V.str (S x))) → Q (.ref q) H'
def spRowCost : Sp := fun vs H Q _ => ∃ (p q : Addr) (ws : List Wd) (row : List (List Nat)), vs = [.ref p, .ref q] ∧ WAt H p ws ∧ ws.length ≤ 8 ∧ H q = some (.tup (row.map fun x => V.str (S x))) ∧ (∀ x ∈ row, x ∈ ws.map (·.1)) ∧ row.length ≤ 30 ∧
  ∀ H', Same H H' → Q (.int (row.map (costOf ws)).sum) H'
theorem cutS_nat {t : List Nat} {i j : Nat} {a b : Int} (ea : a = (i : Int)) (eb : b = (j : Int)) (hi : i ≤ t.length) (hj : j ≤ t.length) : cutS (S t) (some a) (some b) = S ((t.drop i).take (j - i)) := by
  subst ea eb
  have hl : (S t).length = t.length := S_len t
  unfold cutS
  rw [HT.sIx_nat, HT.sIx_nat, hl, Nat.min_eq_left hi, Nat.min_eq_left hj]
theorem cutS_to {t : List Nat} {j : Nat} {b : Int} (eb : b = (j : Int)) (hj : j ≤ t.length) : cutS (S t) none (some b) = S (t.take j) := by
  subst eb
  have hl : (S t).length = t.length := S_len t
  unfold cutS
  rw [HT.sIx_none, HT.sIx_nat, hl, Nat.min_eq_left hj]
  rfl
section
variable {P : Program} {w : World} {K : PySem.W.Frag} {mg : Str → Option Value} {base : Heap}
theorem scFr : FnScope ["words", "text", "index", "names", "parts", "size", "part"] ["words", "text", "index"] (C8.fnScope sFrom) := C8.fnScope_by (by decide +kernel)
theorem ok_from {f : Addr} {fd : FuncData} (F : C8.Def K mg "words_from" sFrom f fd) (b : Binds K fd ["words", "text", "index"] []) (T : Txt mg) (cN : C8.Cal P w K mg base 1 "names_in" spNames []) : C8.Cal P w K mg base 2 "words_from" spFrom [] := by
  refine C8.cal0 F b .nil scFr (fun vs H Q E h => ?_) (fun cdv A outer s H vs Q E hr h => ?_)
  · obtain ⟨p, ws, t, i, rfl, _⟩ := h
    rfl
  · obtain ⟨p, ws, t, i, rfl, hp, h8, h30, hi, q⟩ := h
    refine ⟨_, pss_cons (ps_set (i := 3) scFr.nd rfl (Or.inr rfl) (C8.pe_c cN hr (Nat.le_refl _) (by rfl) (pa_cons (pv 0) pa_nil)))
      (pss_cons (ps_setLc (i := 4) (own := [("size", 5)]) (by rfl) scFr.nd rfl rfl (sw_true rfl rfl rfl (by decide +kernel))
        (pi_range2 rfl T.range (pa_cons pe_int (pa_cons (pe_op op_add (pe_callB (call_min2 rfl) (by rfl) T.min (by decide +kernel) (pa_cons (C8.pe_gc (by rfl) T.lon) (pa_cons (pe_op op_sub (pe_callB call_len_str (by rfl) T.len (by decide +kernel) (pa_cons (pv 1) pa_nil)) (pv 2)) pa_nil))) pe_int) pa_nil)))
        (blkOk_by (own := [("size", 5)]) (N := ["words", "text", "index", "names", "parts", "size", "part"]) (sc := C8.fnScope sFrom) (by decide +kernel))
        (fun _ _ _ _ _ => pg_name (i := 5) scFr.nd rfl (Or.inl rfl)) (fun _ _ _ _ _ => pts_nil) (fun _ _ _ _ _ => pe_slice sl_str (pv 1) (po_some (pv 2)) (po_some (pe_op op_add (pv 2) (pv 5)))))
      (pss_one (ps_ret (pe_callTy call_tuple_of (by rfl) T.tuple (by decide +kernel) (pa_cons (pe_lc (own := [("part", 6)]) (by rfl) scFr.nd (pi_list (pv 4))
        (blkOk_by (own := [("part", 6)]) (N := ["words", "text", "index", "names", "parts", "size", "part"]) (sc := C8.fnScope sFrom) (by decide +kernel))
        (fun _ _ _ _ _ => pg_name (i := 6) scFr.nd rfl (Or.inl rfl)) (fun _ _ _ _ _ => pts_one (pt_cmpR (inS (K := K) rfl) (pv 6) (pv 3) (by rfl))) (fun _ _ _ _ _ => pv 6)) pa_nil))))), ?_⟩
    refine ⟨_, rfl, p, ws, rfl, hp, h8, fun q1 H1 s1 e1 => ?_⟩
    obtain ⟨j, ej⟩ : ∃ j : Int, j = (if (t.length : Int) - (i : Int) < 4 then (t.length : Int) - (i : Int) else 4) + 1 := ⟨_, rfl⟩
    have hj : 2 ≤ j ∧ j ≤ 5 ∧ (i : Int) + j - 1 ≤ t.length := by
      subst ej
      split <;> omega
    obtain ⟨m, em⟩ : ∃ m : Nat, j - 1 = (m : Int) := ⟨(j - 1).toNat, by omega⟩
    refine ⟨_, rfl, _, rfl, szS (by omega), _, rfl, _, _, rfl, rfl, _, _, rfl, _, _, rfl, rfl, 1, j, ?_, ⟨by omega, by omega, by omega, by omega⟩, fun D hD => lc_outR (out := fun s => ((partsAt t i m).map fun x => V.str (S x)).take s) hD rfl (fun s hs => ?_) (fun s H2 hs sm Qy Qn hy hq => ?_) (fun H2 s2 e2 => ?_)⟩
    · rw [ej, sLen]
    · rw [List.length_take]
      exact small1000 (by omega)
    · have hsm : s < m := by omega
      refine ⟨rfl, _, rfl, _, rfl, _, rfl, _, rfl, _, rfl, _, _, rfl, rfl, _, rfl, _, rfl, szS (by omega), ?_⟩
      rw [cutS_nat (i := i) (j := i + (s + 1)) rfl (by omega) (by omega) (by omega)]
      refine hy _ _ (take_snoc ?_) (Same.refl _)
      rw [List.getElem?_map]
      unfold partsAt
      rw [List.getElem?_map, List.getElem?_range hsm, show i + (s + 1) - i = s + 1 by omega]
      rfl
    · have hpl : (partsAt t i m).length = m := by unfold partsAt; rw [List.length_map, List.length_range]
      have en : (j - 1).toNat = m := by omega
      rw [en, List.take_of_length_le (by rw [List.length_map, hpl]; exact Nat.le_refl _)] at e2
      have e1' := s2 _ _ e1
      have hmap2 : (ws.map fun e => V.str (S e.1)) = (ws.map (·.1)).map fun e => V.str (S e) := by rw [List.map_map]; rfl
      refine ⟨_, rfl, D, rfl, ⟨_, SqL.of e2⟩, fun D2 hD2 => lc_outL (xs := (partsAt t i m).map fun x => V.str (S x)) (fun s => (((partsAt t i m).take s).filter fun x => decide (x ∈ ws.map (·.1))).map fun x => V.str (S x)) hD2 (SqL.of e2) rfl (fun s hs => ?_) (fun s y H3 hs sm Qy Qn hy hq => ?_) (fun H3 s3 e3 => ?_)⟩
      · rw [List.length_map, hpl] at hs
        exact small1000 (Nat.le_trans (filt_len _ _ _ _) (by omega))
      · obtain ⟨x, hx, rfl⟩ := getMap hs
        refine ⟨rfl, _, rfl, _, rfl, q1, _, rfl, .inl (SqL.of (sm _ _ e1')), rfl, ?_, _, rfl, ?_⟩
        · rw [hmap2]
          exact flat_strs _
        · rw [hmap2]
          show if inV (.str (S x)) ((ws.map (·.1)).map fun e => V.str (S e)) = true then _ else _
          rw [inV_strs]
          refine ite2 (fun e => ?_) (fun e => ?_)
          · exact ⟨_, rfl, hy _ _ (filt_snoc _ _ hx e) (Same.refl _)⟩
          · exact hq _ (filt_skip _ _ hx e) (Same.refl _)
      · rw [List.length_map, List.take_length] at e3
        refine ⟨D2, _, rfl, .inl ⟨SqL.of e3, fun l hl => ?_⟩⟩
        exact q m l _ (by omega) (((s1.trans s2).trans s3).trans (sameU hl)) (by rw [upd_same]; rfl)
theorem scLg : FnScope ["words", "text", "index"] ["words", "text", "index"] (C8.fnScope sLongest) := C8.fnScope_by (by decide +kernel)
theorem last_of {xs : List V} (h : xs ≠ []) : atI xs (-1) = some (xs.getLast h) := by
  have e : xs = xs.dropLast ++ [xs.getLast h] := (List.dropLast_concat_getLast h).symm
  conv => lhs; rw [e]
  exact atI_last _ _
theorem ok_longest {f : Addr} {fd : FuncData} (F : C8.Def K mg "longest_from" sLongest f fd) (b : Binds K fd ["words", "text", "index"] []) (cF : C8.Cal P w K mg base 2 "words_from" spFrom []) : C8.Cal P w K mg base 3 "longest_from" spLongest [] := by
  refine C8.cal0 F b .nil scLg (fun vs H Q E h => ?_) (fun cdv A outer s H vs Q E hr h => ?_)
  · obtain ⟨p, ws, t, i, rfl, _⟩ := h
    rfl
  · obtain ⟨p, ws, t, i, rfl, hp, h8, h30, hi, h1, q⟩ := h
    refine ⟨_, pss_one (ps_ret (pe_ix ix_tup (C8.pe_c cF hr (Nat.le_refl _) (by rfl) (pa_cons (pv 0) (pa_cons (pv 1) (pa_cons (pv 2) pa_nil)))) (pe_un un_neg pe_int) (fun _ _ => rfl))), ?_⟩
    refine ⟨_, rfl, _, rfl, _, rfl, p, ws, t, i, rfl, hp, h8, h30, hi, fun m q1 H1 hm s1 e1 => ?_⟩
    have hne := wordsAt_ne hi hm h1
    have hne2 : ((wordsAt ws t i m).map fun x => V.str (S x)) ≠ [] := fun e => hne (List.map_eq_nil_iff.mp e)
    obtain ⟨a1, a2, a3⟩ := wordsAt_ok (ws := ws) (m := m) hi _ (List.getLast_mem hne)
    refine ⟨1, rfl, q1, _, -1, _, rfl, rfl, SqT.of e1, last_of hne2, ?_⟩
    rw [List.getLast_map]
    exact q _ _ a1 a2 a3 s1
theorem scMt : FnScope ["words", "text", "found", "at", "word"] ["words", "text"] (C8.fnScope sMatch) := C8.fnScope_by (by decide +kernel)
theorem ok_match {f : Addr} {fd : FuncData} (F : C8.Def K mg "match_of" sMatch f fd) (b : Binds K fd ["words", "text"] []) (T : Txt mg) (cG : C8.Cal P w K mg base 3 "longest_from" spLongest []) : C8.Cal P w K mg base 4 "match_of" spMatch [] := by
  refine C8.cal0 F b .nil scMt (fun vs H Q E h => ?_) (fun cdv A outer s H vs Q E hr h => ?_)
  · obtain ⟨p, ws, t, rfl, _⟩ := h
    rfl
  · obtain ⟨p, ws, t, rfl, hp, h8, h30, h1, q⟩ := h
    refine ⟨_, pss_cons (ps_set (i := 2) scMt.nd rfl (Or.inl rfl) (pe_lst pa_nil))
      (pss_cons (ps_set (i := 3) scMt.nd rfl (Or.inl rfl) pe_int)
      (pss_cons (ps_while PassesOwn.never (pt_cmpR op_lt (pv 3) (pe_callB call_len_str (by rfl) T.len (by decide +kernel) (pa_cons (pv 1) pa_nil)) (nomark _))
        (pss_cons (ps_set (i := 4) scMt.nd rfl (Or.inl rfl) (C8.pe_c cG hr (Nat.le_refl _) (by rfl) (pa_cons (pv 0) (pa_cons (pv 1) (pa_cons (pv 3) pa_nil)))))
        (pss_cons (ps_expr (pe_bm PySem.F.plainAttrs_list PySem.F.slot_list_append PySem.F.type_list_append mt_append (pv 2) (pa_cons (pv 4) pa_nil)))
        (pss_one (ps_set (i := 3) scMt.nd rfl (Or.inl rfl) (pe_op op_add (pv 3) (pe_callB call_len_str (by rfl) T.len (by decide +kernel) (pa_cons (pv 4) pa_nil))))))))
      (pss_one (ps_ret (pe_callTy call_tuple_of (by rfl) T.tuple (by decide +kernel) (pa_cons (pv 2) pa_nil)))))), ?_⟩
    refine ⟨Nat.zero_le _, fun o no => ?_⟩
    refine ⟨fun m σ H1 => ∃ (row : List (List Nat)) (j : Nat) (v4 : Option V), σ = [some (.ref p), some (.str (S t)), some (.ref o), some (.int (j : Nat)), v4] ∧ m = t.length - j ∧ j ≤ t.length ∧ row.flatten = t.take j ∧ row.length ≤ j ∧ (∀ x ∈ row, x ∈ ws.map (·.1)) ∧ Same H H1 ∧ H1 o = some (.lst (row.map fun x => V.str (S x))),
      ⟨t.length, [], 0, none, rfl, rfl, Nat.zero_le _, rfl, Nat.le_refl _, List.forall_mem_nil _, sameU no, upd_same⟩, ?_⟩
    rintro m σ H1 ⟨row, j, v4, rfl, rfl, hj, hf, hrl, hrw, sm, eo⟩
    refine ⟨_, rfl, _, rfl, _, rfl, szS (by omega), _, _, rfl, rfl, _, rfl, ?_⟩
    rw [sLen]
    refine ite2 (fun e => ?_) (fun e => ?_)
    · have hlt : j < t.length := by
        have z := of_decide_eq_true e
        omega
      refine ⟨fun σ' H' => ∃ (row : List (List Nat)) (k : Nat) (v4 : Option V), j < k ∧ σ' = [some (.ref p), some (.str (S t)), some (.ref o), some (.int (k : Nat)), v4] ∧ k ≤ t.length ∧ row.flatten = t.take k ∧ row.length ≤ k ∧ (∀ x ∈ row, x ∈ ws.map (·.1)) ∧ Same H H' ∧ H' o = some (.lst (row.map fun x => V.str (S x))), ?_, ?_⟩
      · rintro σ' H' ⟨row', k, v, hjk, rfl, hk, hf', hr', hw', s', e'⟩
        exact ⟨t.length - k, by omega, row', k, v, rfl, rfl, hk, hf', hr', hw', s', e'⟩
      · refine ⟨_, rfl, _, rfl, _, rfl, p, ws, t, j, rfl, hp.same sm, h8, h30, hlt, h1, fun x H2 hx hne hpre s2 => ?_⟩
        have eo2 := s2 _ _ eo
        have hxl : 0 < x.length := List.length_pos_iff.mpr hne
        have hxt : x.length ≤ t.length - j := by
          have z := hpre.length_le
          rw [List.length_drop] at z
          exact z
        refine ⟨_, rfl, .inl ⟨rfl, _, .inl (.inl eo2)⟩, _, rfl, o, _, _, rfl, rfl, eo2, ?_, ?_⟩
        · rw [List.length_map]
          exact small1000 (by omega)
        · refine ⟨_, rfl, _, rfl, _, rfl, szS (by omega), _, _, rfl, rfl, ?_⟩
          refine ⟨row ++ [x], j + x.length, some (.str (S x)), by omega, ?_, by omega, ?_, ?_, ?_, ?_, ?_⟩
          · show [some (V.ref p), some (V.str (S t)), some (V.ref o), some (V.int ((j : Nat) + ((S x).length : Nat))), some (V.str (S x))] = _
            rw [sLen, show ((j : Nat) : Int) + (x.length : Int) = ((j + x.length : Nat) : Int) by omega]
          · rw [List.flatten_append, hf]
            obtain ⟨y, hy⟩ := hpre
            show t.take j ++ (x ++ []) = _
            rw [List.append_nil, List.take_add, ← hy, List.take_left]
          · rw [List.length_append]
            show row.length + 1 ≤ _
            omega
          · intro y hy
            rcases List.mem_append.mp hy with hy | hy
            · exact hrw y hy
            · rw [List.mem_singleton.mp hy]
              exact hx
          · intro c oc hc
            rw [upd_ne (ne_of_none hc no)]
            exact s2 _ _ (sm _ _ hc)
          · rw [upd_same, List.map_append]
            rfl
    · have hjt : j = t.length := by
        have z := e
        rw [decide_eq_true_eq] at z
        omega
      subst hjt
      rw [List.take_length] at hf
      refine ⟨_, rfl, o, _, rfl, .inl ⟨SqL.of eo, fun l hl => ?_⟩⟩
      exact q row l _ hf hrw (by omega) (sm.trans (sameU hl)) upd_same
theorem scRc : FnScope ["words", "row", "word"] ["words", "row"] (C8.fnScope sRowCost) := C8.fnScope_by (by decide +kernel)
theorem ok_rowCost {f : Addr} {fd : FuncData} (F : C8.Def K mg "cost_of_row" sRowCost f fd) (b : Binds K fd ["words", "row"] []) (T : Txt mg) (cC : C8.Cal P w K mg base 1 "cost_in" spCostIn []) : C8.Cal P w K mg base 2 "cost_of_row" spRowCost [] := by
  refine C8.cal0 F b .nil scRc (fun vs H Q E h => ?_) (fun cdv A outer s H vs Q E hr h => ?_)
  · obtain ⟨p, q1, ws, row, rfl, _⟩ := h
    rfl
  · obtain ⟨p, q1, ws, row, rfl, hp, h8, hq1, hrw, hr30, q⟩ := h
    refine ⟨_, pss_one (ps_ret (pe_callB (cr_sum rfl) (by rfl) T.sum (by decide +kernel) (pa_cons (pe_lc (own := [("word", 2)]) (by rfl) scRc.nd (pi_tup (pv 1)) (blkOk_by (own := [("word", 2)]) (N := ["words", "row", "word"]) (sc := C8.fnScope sRowCost) (by decide +kernel))
      (fun _ _ _ _ _ => pg_name (i := 2) scRc.nd rfl (Or.inl rfl)) (fun _ _ _ _ _ => pts_nil) (fun _ _ _ _ _ => C8.pe_c cC hr (Nat.le_refl _) (by rfl) (pa_cons (pv 0) (pa_cons (pv 2) pa_nil)))) pa_nil))), ?_⟩
    refine ⟨_, rfl, q1, rfl, ⟨_, SqT.of hq1⟩, fun D hD => lc_outT (xs := row.map fun x => V.str (S x)) (fun i => ((row.map (costOf ws)).map V.int).take i) hD (SqT.of hq1) rfl (fun i hi => ?_) (fun i y H1 hi sm Qy Qn hy hq => ?_) (fun H1 s1 e1 => ?_)⟩
    · rw [List.length_take]
      rw [List.length_map] at hi
      exact small1000 (by omega)
    · obtain ⟨x, hx, rfl⟩ := getMap hi
      refine ⟨rfl, _, rfl, _, rfl, p, ws, x, rfl, hp.same sm, h8, hrw x (List.mem_of_getElem? hx), fun H2 s2 => hy _ _ (take_snoc ?_) s2⟩
      rw [List.getElem?_map, List.getElem?_map, hx]
      rfl
    · refine ⟨D, row.map (costOf ws), rfl, SqL.of ?_, q _ s1⟩
      rw [e1, List.length_map, List.take_of_length_le]
      rw [List.length_map, List.length_map]
      exact Nat.le_refl _
end
end GC

/-! Least costs. -/
namespace GC
open PySem PySem.Spec PyProof.Rows L2 SX
theorem ends_S (a b : List Nat) : Txt.endswith (S a) (S b) = decide (b <:+ a) := by
  show (decide (0 + (S b).length ≤ (S a).length) && Builtin.Str.subAt (S a) (S b) ((S a).length - (S b).length)) = _
  rw [PySem.StrLaws.subAt_eq, S_len, S_len]
  show (decide (0 + b.length ≤ a.length) && ((a.drop (a.length - b.length)).take b.length == b)) = _
  by_cases h : b <:+ a
  · obtain ⟨p, rfl⟩ := h
    rw [decide_eq_true (List.suffix_append p b), List.length_append, Nat.add_sub_cancel, List.drop_left, List.take_length, beq_self_eq_true, decide_eq_true (by omega)]
    rfl
  · rw [decide_eq_false h, Bool.and_eq_false_iff]
    by_cases hl : b.length ≤ a.length
    · refine .inr (beq_eq_false_iff_ne.mpr fun e => h ?_)
      rw [List.take_of_length_le (by rw [List.length_drop]; omega)] at e
      rw [← e]
      exact List.drop_suffix _ _
    · exact .inl (decide_eq_false (by omega))
def spAhead : Sp := fun vs H Q _ => ∃ (p : Addr) (ws : List Wd) (t : List Nat), vs = [.ref p, .str (S t)] ∧ WAt H p ws ∧ ws.length ≤ 8 ∧ t.length ≤ 30 ∧ (∀ x ∈ ws, x.1 ≠ []) ∧ (∀ c ∈ t, ∃ k, ([c], k) ∈ ws) ∧
  ∀ (fs : List Int) (q : Addr) (H' : Hp), Ahead ws t fs t.length → Same H H' → H' q = some (.lst (fs.map V.int)) → Q (.ref q) H'
def spBehind : Sp := fun vs H Q _ => ∃ (p : Addr) (ws : List Wd) (t : List Nat), vs = [.ref p, .str (S t)] ∧ WAt H p ws ∧ ws.length ≤ 8 ∧ t.length ≤ 30 ∧ (∀ x ∈ ws, x.1.length ≤ 4) ∧ (∀ x ∈ ws, x.1 ≠ []) ∧ (∀ c ∈ t, ∃ k, ([c], k) ∈ ws) ∧
  ∀ (gs : List Int) (q : Addr) (H' : Hp), Behind ws t gs → Same H H' → H' q = some (.lst (gs.map V.int)) → Q (.ref q) H'
def spLeastOf : Sp := fun vs H Q _ => ∃ (p : Addr) (ws : List Wd) (t : List Nat), vs = [.ref p, .str (S t)] ∧ WAt H p ws ∧ ws.length ≤ 8 ∧ t.length ≤ 30 ∧ (∀ x ∈ ws, x.1 ≠ []) ∧ (∀ c ∈ t, ∃ k, ([c], k) ∈ ws) ∧
  ∀ (m : Int) (H' : Hp), Least ws t m → Same H H' → Q (.int m) H'
def spLeast : Sp := fun vs H Q _ => ∃ (p : Addr) (ls : List Nat) (ws : List Wd) (t : List Nat), vs = [.ref p, .str (S t)] ∧ WAt H p ws ∧ WL ls ws ∧ t.length ≤ 30 ∧ (∀ c ∈ t, c ∈ ls) ∧ ∀ (m : Int) (H' : Hp), Least ws t m → Same H H' → Q (.int m) H'
def spWaste : Sp := fun vs H Q _ => ∃ (p : Addr) (ls : List Nat) (ws : List Wd) (t : List Nat), vs = [.ref p, .str (S t)] ∧ WAt H p ws ∧ WL ls ws ∧ t.length ≤ 30 ∧ (∀ c ∈ t, c ∈ ls) ∧ ∀ (m : Int) (H' : Hp), 0 ≤ m → Same H H' → Q (.int m) H'
def spThrough : Sp := fun vs H Q _ => ∃ (p : Addr) (ls : List Nat) (ws : List Wd) (t : List Nat) (i : Nat), vs = [.ref p, .str (S t), .int (i : Nat)] ∧ WAt H p ws ∧ WL ls ws ∧ t.length ≤ 30 ∧ (∀ c ∈ t, c ∈ ls) ∧ i ≤ t.length ∧
  ∀ (x y : Int) (H' : Hp), Least ws (t.take i) x → Least ws (t.drop i) y → Same H H' → Q (.int (x + y)) H'
theorem fm_snoc {α β : Type} {ws : List α} {i : Nat} {d : α} {y : β} (f : α → Option β) (h : ws[i]? = some d) (hf : f d = some y) : (ws.take (i + 1)).filterMap f = (ws.take i).filterMap f ++ [y] := by
  rw [take_snoc h, List.filterMap_append, List.filterMap_cons, hf]
  rfl
theorem fm_skip {α β : Type} {ws : List α} {i : Nat} {d : α} (f : α → Option β) (h : ws[i]? = some d) (hf : f d = none) : (ws.take (i + 1)).filterMap f = (ws.take i).filterMap f := by
  rw [take_snoc h, List.filterMap_append, List.filterMap_cons, hf]
  exact List.append_nil _
section
variable {P : Program} {w : World} {K : PySem.W.Frag} {mg : Str → Option Value} {base : Heap}
theorem scAh : FnScope ["words", "text", "found", "end", "rows", "word", "cost"] ["words", "text"] (C8.fnScope sAhead) := C8.fnScope_by (by decide +kernel)
theorem ok_ahead {f : Addr} {fd : FuncData} (F : C8.Def K mg "costs_ahead" sAhead f fd) (b : Binds K fd ["words", "text"] []) (T : Txt mg) : C8.Cal P w K mg base 1 "costs_ahead" spAhead [] := by
  refine C8.cal0 F b .nil scAh (fun vs H Q E h => ?_) (fun cdv A outer s H vs Q E hr h => ?_)
  · obtain ⟨p, ws, t, rfl, _⟩ := h
    rfl
  · obtain ⟨p, ws, t, rfl, hW, h8, h30, hne, h1, q⟩ := h
    refine ⟨_, pss_cons (ps_set (i := 2) scAh.nd rfl (Or.inr rfl) (pe_lst (pa_cons pe_int pa_nil)))
      (pss_cons (ps_for PassesOwn.never rfl (pi_range2 rfl T.range (pa_cons pe_int (pa_cons (pe_op op_add (pe_callB call_len_str (by rfl) T.len (by decide +kernel) (pa_cons (pv 1) pa_nil)) pe_int) pa_nil))) (pg_name (i := 3) scAh.nd rfl (Or.inr rfl))
        (pss_cons (ps_setLc (i := 4) (own := [("word", 5), ("cost", 6)]) (by rfl) scAh.nd rfl rfl (sw_true rfl rfl rfl (by decide +kernel)) (pi_tup (pv 0))
          (blkOk_by (own := [("word", 5), ("cost", 6)]) (N := ["words", "text", "found", "end", "rows", "word", "cost"]) (sc := C8.fnScope sAhead) (by decide +kernel))
          (fun _ _ _ _ _ => pgT (K := K) (n := 2) rfl (by rfl) (pgs_cons (pg_name (i := 5) scAh.nd rfl (Or.inl rfl)) (pgs_cons (pg_name (i := 6) scAh.nd rfl (Or.inl rfl)) pgs_nil)))
          (fun _ _ _ _ _ => pts_one (pt_val (pe_m1 PySem.F.slot_str_endswith PySem.F.type_str_endswith mt_endswith (pe_slice sl_str (pv 1) po_none (po_some (pv 3))) (pv 5))))
          (fun _ _ _ _ _ => pe_op op_add (pe_ix (ixL (K := K) rfl) (pv 2) (pe_op op_sub (pv 3) (pe_callB call_len_str (by rfl) T.len (by decide +kernel) (pa_cons (pv 5) pa_nil))) (fun _ _ => rfl)) (pv 6)))
        (pss_one (ps_expr (pe_bm PySem.F.plainAttrs_list PySem.F.slot_list_append PySem.F.type_list_append mt_append (pv 2) (pa_cons (pe_callB (cr_min rfl) (by rfl) T.min (by decide +kernel) (pa_cons (pv 4) pa_nil)) pa_nil))))))
      (pss_one (ps_ret (pv 2)))), ?_⟩
    refine ⟨(by show 1 ≤ sizeLine; decide), fun o no => ?_⟩
    refine ⟨_, rfl, _, rfl, szS (by omega), _, _, rfl, rfl, 1, (t.length : Int) + 1, (by rw [sLen]), ⟨by omega, by omega, by omega, by omega⟩, ?_⟩
    have hn : ((t.length : Int) + 1 - 1).toNat = t.length := by omega
    rw [hn]
    refine for_range (lo := 1) (n := t.length) (fun i σ H1 => ∃ (fs : List Int) (v3 v4 : Option V), σ = [some (.ref p), some (.str (S t)), some (.ref o), v3, v4, none, none] ∧ Ahead ws t fs i ∧ Same H H1 ∧ H1 o = some (.lst (fs.map V.int)))
      ⟨[0], none, none, rfl, Ahead.start hne t, sameU no, upd_same⟩ ?_ ?_
    · rintro i σ H1 hi ⟨fs, v3, v4, rfl, hA, sm, eo⟩
      obtain ⟨bs, hp, hbs, hb⟩ := hW.same sm
      have hlen : bs.length = ws.length := by rw [← hbs, List.length_map]
      have hfl := hA.len
      refine ⟨_, rfl, p, rfl, ⟨_, SqT.of hp⟩, fun D hD => lc_outT (xs := bs.map fun b => V.ref b.1) (fun k => ((ws.take k).filterMap (rowAt t fs (i + 1))).map V.int) hD (SqT.of hp) rfl (fun k hk => ?_) (fun k x H2 hk s2 Qy Qn hy hq => ?_) (fun H2 s2 e2 => ?_)⟩
      · rw [List.length_map] at hk ⊢
        refine small1000 (Nat.le_trans (List.length_filterMap_le _ _) ?_)
        rw [List.length_take]
        omega
      · obtain ⟨d, hd, rfl⟩ := getMap hk
        have hm : d ∈ bs := List.mem_of_getElem? hd
        have hw : ws[k]? = some d.2 := by rw [← hbs, List.getElem?_map, hd]; rfl
        have hdn := hne _ (List.mem_of_getElem? hw)
        have hdl : 0 < d.2.1.length := List.length_pos_iff.mpr hdn
        refine ⟨d.1, _, rfl, SqT.of (s2 _ _ (hb d hm)), rfl, _, _, rfl, _, _, rfl, rfl, rfl, ?_⟩
        refine ⟨_, rfl, _, rfl, _, rfl, _, rfl, szS (by omega), ⟨_, rfl⟩, _, rfl, _, _, rfl, rfl, _, rfl, ?_⟩
        rw [cutS_to (j := i + 1) (by omega) (by omega), ends_S]
        refine ite2 (fun e => ?_) (fun e => ?_)
        · have hsuf : d.2.1 <:+ t.take (i + 1) := of_decide_eq_true e
          have hle : d.2.1.length ≤ i + 1 := by
            have z := hsuf.length_le
            rw [List.length_take] at z
            omega
          obtain ⟨m, hm1, _⟩ := hA.at_ (i + 1 - d.2.1.length) (by omega)
          refine ⟨_, rfl, _, rfl, _, rfl, _, rfl, szS (by omega), _, _, rfl, rfl, o, _, _, .int m, rfl, rfl, SqL.of (s2 _ _ eo), at_of (j := i + 1 - d.2.1.length) (by rw [sLen]; omega) (by rw [List.getElem?_map, hm1]; rfl), _, rfl, _, _, rfl, rfl, ?_⟩
          refine hy _ _ ?_ (Same.refl _)
          have hr : rowAt t fs (i + 1) d.2 = some (m + d.2.2) := by
            unfold rowAt
            rw [if_pos hsuf, List.getD_eq_getElem?_getD, hm1]
            rfl
          rw [fm_snoc _ hw hr, List.map_append]
          rfl
        · refine hq _ ?_ (Same.refl _)
          have hr : rowAt t fs (i + 1) d.2 = none := by
            unfold rowAt
            rw [if_neg]
            exact fun z => e (decide_eq_true z)
          rw [fm_skip _ hw hr]
      · rw [List.length_map, hlen, List.take_length] at e2
        have eo2 := s2 _ _ eo
        refine ⟨_, rfl, .inl ⟨rfl, _, .inl (.inl eo2)⟩, _, rfl, D, rows ws t fs (i + 1), rfl, SqL.of e2, rows_pos hi h1, fun m hm hle => ?_⟩
        refine ⟨o, _, _, rfl, rfl, eo2, ?_, fs ++ [m], _, _, rfl, hA.step hi hne hm hle, fun c oc hc => ?_, ?_⟩
        · rw [List.length_map]
          exact small1000 (by omega)
        · rw [upd_ne (ne_of_none hc no)]
          exact s2 _ _ (sm _ _ hc)
        · rw [upd_same, List.map_append]
          rfl
    · rintro σ H1 ⟨fs, v3, v4, rfl, hA, sm, eo⟩
      exact ⟨_, rfl, q fs o H1 hA sm eo⟩
theorem scBh : FnScope ["words", "text", "turned", "word", "cost"] ["words", "text"] (C8.fnScope sBehind) := C8.fnScope_by (by decide +kernel)
theorem ok_behind {f : Addr} {fd : FuncData} (F : C8.Def K mg "costs_behind" sBehind f fd) (b : Binds K fd ["words", "text"] []) (T : Txt mg) (cA : C8.Cal P w K mg base 1 "costs_ahead" spAhead []) : C8.Cal P w K mg base 2 "costs_behind" spBehind [] := by
  refine C8.cal0 F b .nil scBh (fun vs H Q E h => ?_) (fun cdv A outer s H vs Q E hr h => ?_)
  · obtain ⟨p, ws, t, rfl, _⟩ := h
    rfl
  · obtain ⟨p, ws, t, rfl, ⟨bs, hp, hbs, hb⟩, h8, h30, h4, hne, h1, q⟩ := h
    have hlen : bs.length = ws.length := by rw [← hbs, List.length_map]
    refine ⟨_, pss_cons (ps_set (i := 2) scBh.nd rfl (Or.inl rfl) (pe_callTy call_tuple_of (by rfl) T.tuple (by decide +kernel) (pa_cons (pe_lc (own := [("word", 3), ("cost", 4)]) (by rfl) scBh.nd (pi_tup (pv 0))
          (blkOk_by (own := [("word", 3), ("cost", 4)]) (N := ["words", "text", "turned", "word", "cost"]) (sc := C8.fnScope sBehind) (by decide +kernel))
          (fun _ _ _ _ _ => pgT (K := K) (n := 2) rfl (by rfl) (pgs_cons (pg_name (i := 3) scBh.nd rfl (Or.inl rfl)) (pgs_cons (pg_name (i := 4) scBh.nd rfl (Or.inl rfl)) pgs_nil)))
          (fun _ _ _ _ _ => pts_nil) (fun _ _ _ _ _ => pe_tup (pa_cons (pe_revS (pv 3)) (pa_cons (pv 4) pa_nil)))) pa_nil)))
      (pss_one (ps_ret (pe_revL (C8.pe_c cA hr (Nat.le_refl _) (by rfl) (pa_cons (pv 2) (pa_cons (pe_revS (pv 1)) pa_nil)))))), ?_⟩
    refine ⟨_, rfl, p, rfl, ⟨_, SqT.of hp⟩, fun D hD => lc_tup (K := K) (a := p) (xs := bs.map fun b => V.ref b.1) (fun i H1 => ∃ cs : List (Addr × Wd), cs.map (·.2) = (revW ws).take i ∧ Same H H1 ∧ H1 D = some (.lst (cs.map fun b => V.ref b.1)) ∧ ∀ b ∈ cs, H1 b.1 = some (entO b.2))
      ⟨[], rfl, sameU hD, upd_same, List.forall_mem_nil _⟩ (fun i H1 _ ⟨_, _, s1, _⟩ => Same.tupS s1 (SqT.of hp)) (fun i x H1 hi hW => ?_) (fun H1 hW => ?_)⟩
    · obtain ⟨cs, hcs, s1, eD, hc⟩ := hW
      obtain ⟨d, hd, rfl⟩ := getMap hi
      have hm : d ∈ bs := List.mem_of_getElem? hd
      have hw : ws[i]? = some d.2 := by rw [← hbs, List.getElem?_map, hd]; rfl
      have hil : i < ws.length := (List.getElem?_eq_some_iff.mp hw).1
      have hcl : cs.length = i := by
        have z := congrArg List.length hcs
        unfold revW at z
        rw [List.length_map, List.length_take, List.length_map] at z
        omega
      have hd4 := h4 _ (List.mem_of_getElem? hw)
      refine ⟨d.1, _, rfl, SqT.of (s1 _ _ (hb d hm)), rfl, _, _, rfl, _, _, rfl, rfl, rfl, ?_⟩
      refine ⟨_, rfl, d.2.1, rfl, by omega, _, rfl, (by show 2 ≤ sizeLine; decide), fun a ha => ?_⟩
      have naD : D ≠ a := ne_of_none eD ha
      refine ⟨_, (by rw [upd_ne naD]; exact eD), ?_, cs ++ [(a, (d.2.1.reverse, d.2.2))], ?_, fun c oc hc1 => ?_, ?_, fun c hcm => ?_⟩
      · rw [List.length_map]
        exact small1000 (by omega)
      · rw [List.map_append, hcs]
        refine (take_snoc ?_).symm
        unfold revW
        rw [List.getElem?_map, hw]
        rfl
      · rw [upd_ne (ne_of_none hc1 hD), upd_ne (ne_of_none (s1 _ _ hc1) ha)]
        exact s1 _ _ hc1
      · rw [upd_same, List.map_append]
        rfl
      · rcases List.mem_append.mp hcm with hcm | hcm
        · have z := hc c hcm
          rw [upd_ne (ne_of z eD (by intro q; cases q)), upd_ne (ne_of_none z ha)]
          exact z
        · rw [List.mem_singleton.mp hcm, upd_ne naD.symm, upd_same]
    · obtain ⟨cs, hcs, s1, eD, hc⟩ := hW
      have hrl : (revW ws).length = ws.length := by unfold revW; rw [List.length_map]
      rw [List.length_map, hlen, ← hrl, List.take_length] at hcs
      refine ⟨D, _, rfl, .inl ⟨SqL.of eD, fun l hl => ?_⟩⟩
      refine ⟨_, rfl, _, rfl, t, rfl, by omega, l, revW ws, t.reverse, rfl, ⟨cs, upd_same, hcs, fun c hcm => ?_⟩, by omega, by rw [List.length_reverse]; exact h30, revW_ne hne, revW_one h1, fun fs q1 H2 hA s2 e2 => ?_⟩
      · rw [upd_ne (ne_of_none (hc c hcm) hl)]
        exact hc c hcm
      · refine ⟨q1, _, rfl, SqL.of e2, fun r hr => ?_⟩
        exact q fs.reverse r _ (Behind.of hA) (((s1.trans (sameU hl)).trans s2).trans (sameU hr)) (by rw [upd_same, List.map_reverse])
theorem scLo : FnScope ["words", "text"] ["words", "text"] (C8.fnScope sLeastOf) := C8.fnScope_by (by decide +kernel)
theorem ok_leastOf {f : Addr} {fd : FuncData} (F : C8.Def K mg "least_of" sLeastOf f fd) (b : Binds K fd ["words", "text"] []) (cA : C8.Cal P w K mg base 1 "costs_ahead" spAhead []) : C8.Cal P w K mg base 2 "least_of" spLeastOf [] := by
  refine C8.cal0 F b .nil scLo (fun vs H Q E h => ?_) (fun cdv A outer s H vs Q E hr h => ?_)
  · obtain ⟨p, ws, t, rfl, _⟩ := h
    rfl
  · obtain ⟨p, ws, t, rfl, hW, h8, h30, hne, h1, q⟩ := h
    refine ⟨_, pss_one (ps_ret (pe_ix ix_list (C8.pe_c cA hr (Nat.le_refl _) (by rfl) (pa_cons (pv 0) (pa_cons (pv 1) pa_nil))) (pe_un un_neg pe_int) (fun _ _ => rfl))), ?_⟩
    refine ⟨_, rfl, _, rfl, p, ws, t, rfl, hW, h8, h30, hne, h1, fun fs q1 H1 hA s1 e1 => ?_⟩
    have hl := hA.len
    obtain ⟨m, hm, hL⟩ := hA.at_ t.length (Nat.le_refl _)
    rw [List.take_length] at hL
    have hfs : fs = fs.dropLast ++ [m] := by
      have hne2 : fs ≠ [] := fun e => by rw [e] at hl; cases hl
      have z : fs.getLast hne2 = m := by
        rw [List.getLast_eq_getElem]
        have := (List.getElem?_eq_some_iff.mp hm).2
        simpa [hl] using this
      rw [← z, List.dropLast_concat_getLast]
    have hat : atI (fs.map V.int) (-1) = some (.int m) := by
      rw [hfs, List.map_append]
      exact atI_last _ _
    exact ⟨1, rfl, q1, _, -1, _, rfl, rfl, SqL.of e1, hat, q m H1 hL s1⟩
theorem scLc : FnScope ["words", "text"] ["words", "text"] (C8.fnScope sLeast) := C8.fnScope_by (by decide +kernel)
theorem ok_least {f : Addr} {fd : FuncData} (F : C8.Def K mg "least_cost" sLeast f fd) (b : Binds K fd ["words", "text"] []) (cC : C8.Cal P w K mg base 6 "check_text" spChkText []) (cO : C8.Cal P w K mg base 2 "least_of" spLeastOf []) : C8.Cal P w K mg base 7 "least_cost" spLeast [] := by
  refine C8.cal0 F b .nil scLc (fun vs H Q E h => ?_) (fun cdv A outer s H vs Q E hr h => ?_)
  · obtain ⟨p, ls, ws, t, rfl, _⟩ := h
    rfl
  · obtain ⟨p, ls, ws, t, rfl, hp, W, h30, ht, q⟩ := h
    refine ⟨_, pss_cons (ps_expr (C8.pe_c cC hr (by decide) (by rfl) (pa_cons (pv 0) (pa_cons (pv 1) pa_nil)))) (pss_one (ps_ret (C8.pe_c cO hr (by decide) (by rfl) (pa_cons (pv 0) (pa_cons (pv 1) pa_nil))))), ?_⟩
    exact ⟨_, rfl, _, rfl, p, ls, ws, t, rfl, hp, W, h30, ht, fun H1 s1 => ⟨_, rfl, _, rfl, p, ws, t, rfl, hp.same s1, W.l8, h30, W.ne, W.one ht, fun m H2 hL s2 => q m H2 hL (s1.trans s2)⟩⟩
theorem scWs : FnScope ["words", "text"] ["words", "text"] (C8.fnScope sWaste) := C8.fnScope_by (by decide +kernel)
theorem ok_waste {f : Addr} {fd : FuncData} (F : C8.Def K mg "waste" sWaste f fd) (b : Binds K fd ["words", "text"] []) (cC : C8.Cal P w K mg base 6 "check_text" spChkText []) (cR : C8.Cal P w K mg base 2 "cost_of_row" spRowCost []) (cM : C8.Cal P w K mg base 4 "match_of" spMatch []) (cO : C8.Cal P w K mg base 2 "least_of" spLeastOf []) : C8.Cal P w K mg base 7 "waste" spWaste [] := by
  refine C8.cal0 F b .nil scWs (fun vs H Q E h => ?_) (fun cdv A outer s H vs Q E hr h => ?_)
  · obtain ⟨p, ls, ws, t, rfl, _⟩ := h
    rfl
  · obtain ⟨p, ls, ws, t, rfl, hp, W, h30, ht, q⟩ := h
    refine ⟨_, pss_cons (ps_expr (C8.pe_c cC hr (by decide) (by rfl) (pa_cons (pv 0) (pa_cons (pv 1) pa_nil))))
      (pss_one (ps_ret (pe_op op_sub (C8.pe_c cR hr (by decide) (by rfl) (pa_cons (pv 0) (pa_cons (C8.pe_c cM hr (by decide) (by rfl) (pa_cons (pv 0) (pa_cons (pv 1) pa_nil))) pa_nil))) (C8.pe_c cO hr (by decide) (by rfl) (pa_cons (pv 0) (pa_cons (pv 1) pa_nil)))))), ?_⟩
    refine ⟨_, rfl, _, rfl, p, ls, ws, t, rfl, hp, W, h30, ht, fun H1 s1 => ⟨_, rfl, _, rfl, _, rfl, p, ws, t, rfl, hp.same s1, W.l8, h30, W.one ht, fun row r H2 hf hrw hrl s2 e2 => ?_⟩⟩
    have s12 := s1.trans s2
    refine ⟨p, r, ws, row, rfl, hp.same s12, W.l8, e2, hrw, hrl, fun H3 s3 => ?_⟩
    have s13 := s12.trans s3
    refine ⟨_, rfl, _, rfl, p, ws, t, rfl, hp.same s13, W.l8, h30, W.ne, W.one ht, fun m H4 hL s4 => ⟨_, _, rfl, rfl, q _ H4 ?_ (s13.trans s4)⟩⟩
    have hc := Cut.row hrw
    rw [hf] at hc
    have z := hL.2 _ hc
    omega
theorem scTh : FnScope ["words", "text", "index"] ["words", "text", "index"] (C8.fnScope sThrough) := C8.fnScope_by (by decide +kernel)
theorem ok_through {f : Addr} {fd : FuncData} (F : C8.Def K mg "cost_through" sThrough f fd) (b : Binds K fd ["words", "text", "index"] []) (T : Txt mg) (cC : C8.Cal P w K mg base 6 "check_text" spChkText []) (cA : C8.Cal P w K mg base 1 "costs_ahead" spAhead []) (cB : C8.Cal P w K mg base 2 "costs_behind" spBehind []) : C8.Cal P w K mg base 7 "cost_through" spThrough [] := by
  refine C8.cal0 F b .nil scTh (fun vs H Q E h => ?_) (fun cdv A outer s H vs Q E hr h => ?_)
  · obtain ⟨p, ls, ws, t, i, rfl, _⟩ := h
    rfl
  · obtain ⟨p, ls, ws, t, i, rfl, hp, W, h30, ht, hi, q⟩ := h
    refine ⟨_, pss_cons (ps_expr (C8.pe_c cC hr (by decide) (by rfl) (pa_cons (pv 0) (pa_cons (pv 1) pa_nil))))
      (pss_cons (ps_if (PW.pt (pw_or (pt_not (pt_val (pe_callB call_isi (by rfl) T.isi (by decide +kernel) (pa_cons (pv 2) (pa_cons (pe_bltn (v := .ty "int") (by rfl) T.int (by decide +kernel) rfl) pa_nil)))))
        (pw_or (pt_val (pe_callB call_isi (by rfl) T.isi (by decide +kernel) (pa_cons (pv 2) (pa_cons (pe_bltn (v := .ty "bool") (by rfl) T.bool (by decide +kernel) rfl) pa_nil))))
        (pw_or1 (pt_not (pt_chain op_le op_le pe_int (pv 2) (pe_callB call_len_str (by rfl) T.len (by decide +kernel) (pa_cons (pv 1) pa_nil)))))))) pss_never pss_nil)
      (pss_one (ps_ret (pe_op op_add (pe_ix ix_list (C8.pe_c cA hr (by decide) (by rfl) (pa_cons (pv 0) (pa_cons (pv 1) pa_nil))) (pv 2) (fun _ _ => rfl)) (pe_ix ix_list (C8.pe_c cB hr (by decide) (by rfl) (pa_cons (pv 0) (pa_cons (pv 1) pa_nil))) (pv 2) (fun _ _ => rfl)))))), ?_⟩
    refine ⟨_, rfl, _, rfl, p, ls, ws, t, rfl, hp, W, h30, ht, fun H1 s1 => ?_⟩
    refine ⟨_, rfl, _, _, _, _, true, rfl, .ty "int", .base (.int _), kit_ty (by decide +kernel), true, rfl, iteF ?_⟩
    refine ⟨_, rfl, _, _, _, _, false, rfl, .ty "bool", .base (.int _), kit_ty (by decide +kernel), false, rfl, iteF ?_⟩
    refine ⟨_, rfl, _, _, rfl, rfl, _, rfl, ?_⟩
    rw [decide_eq_true (show (0 : Int) ≤ (i : Int) by omega)]
    refine iteT ⟨_, rfl, _, rfl, szS (by omega), _, _, rfl, rfl, _, rfl, ?_⟩
    rw [sLen, decide_eq_true (show (i : Int) ≤ (t.length : Int) by omega)]
    refine iteF ?_
    refine ⟨_, rfl, _, rfl, p, ws, t, rfl, hp.same s1, W.l8, h30, W.ne, W.one ht, fun fs q1 H2 hA s2 e2 => ?_⟩
    obtain ⟨x, hx, hLx⟩ := hA.at_ i hi
    have s12 := s1.trans s2
    refine ⟨_, rfl, q1, _, _, .int x, rfl, rfl, SqL.of e2, atI_nat (j := i) (by rw [List.getElem?_map, hx]; rfl), ?_⟩
    refine ⟨_, rfl, _, rfl, p, ws, t, rfl, hp.same s12, W.l8, h30, fun e he => (W.wd e he).2.1, W.ne, W.one ht, fun gs q2 H3 hB s3 e3 => ?_⟩
    obtain ⟨y, hy, hLy⟩ := hB.at_ i hi
    exact ⟨_, rfl, q2, _, _, .int y, rfl, rfl, SqL.of e3, atI_nat (j := i) (by rw [List.getElem?_map, hy]; rfl), _, _, rfl, rfl, q x y H3 hLx hLy (s12.trans s3)⟩
end
end GC

/-! The law's stream of digits. -/
namespace GC
open PySem PySem.Spec PyProof.Rows L2 SX
/-- the stream at st: the script's copy at a, a cell, the next place -/
def StAt (H : Hp) (st a : Addr) (ns : List Int) : Prop := ∃ c k : Int, H st = some (.lst [.ref a, .int c, .int k]) ∧ H a = some (.lst (ns.map V.int)) ∧ 0 ≤ k
/-- all but the stream stands -/
def But (st : Addr) (H H' : Hp) : Prop := ∀ b o, b ≠ st → H b = some o → H' b = some o
theorem But.refl (st : Addr) (H : Hp) : But st H H := fun _ _ _ h => h
theorem But.trans {st : Addr} {H H1 H2 : Hp} (x : But st H H1) (y : But st H1 H2) : But st H H2 := fun b o hb h => y b o hb (x b o hb h)
theorem But.same {st : Addr} {H H' : Hp} (s : Same H H') : But st H H' := fun b o _ h => s b o h
theorem StAt.same {H H' : Hp} {st a : Addr} {ns : List Int} (x : StAt H st a ns) (s : Same H H') : StAt H' st a ns := by
  obtain ⟨c, k, h1, h2, h3⟩ := x
  exact ⟨c, k, s _ _ h1, s _ _ h2, h3⟩
theorem StAt.upd {H : Hp} {st a D : Addr} {o : HO} {ns : List Int} (x : StAt H st a ns) (h1 : st ≠ D) (h2 : a ≠ D) : StAt (upd H D o) st a ns := by
  obtain ⟨c, k, e1, e2, h3⟩ := x
  exact ⟨c, k, by rw [upd_ne h1]; exact e1, by rw [upd_ne h2]; exact e2, h3⟩
theorem StAt.ns {H : Hp} {st a D : Addr} {ns : List Int} (x : StAt H st a ns) (h : H D = none) : st ≠ D ∧ a ≠ D := by
  obtain ⟨c, k, e1, e2, h3⟩ := x
  exact ⟨ne_of_none e1 h, ne_of_none e2 h⟩
theorem StAt.ne {H : Hp} {st a : Addr} {ns : List Int} (x : StAt H st a ns) : st ≠ a := by
  obtain ⟨c, k, e1, e2, h3⟩ := x
  refine ne_of e1 e2 fun e => ?_
  have z := HO.lst.inj e
  cases ns with
  | nil => cases z
  | cons y r => cases z
theorem WAt.but {H H' : Hp} {st a p : Addr} {ns : List Int} {ws : List Wd} (W : WAt H p ws) (x : StAt H st a ns) (s : But st H H') : WAt H' p ws := by
  obtain ⟨bs, h1, h2, h3⟩ := W
  obtain ⟨c, k, e1, _, _⟩ := x
  exact ⟨bs, s _ _ (ne_of h1 e1 (by intro z; cases z)) h1, h2, fun b hb => s _ _ (ne_of (h3 b hb) e1 (by intro z; cases z)) (h3 b hb)⟩
def spStream (K : PySem.W.Frag) : Sp := fun vs H Q _ => ∃ (a : Addr) (ns : List Int), vs = [.ref a] ∧ SqL K H a (ns.map V.int) ∧ ∀ (st b : Addr) (H' : Hp), Same H H' → StAt H' st b ns → Q (.ref st) H'
def spNext : Sp := fun vs H Q _ => ∃ (st a : Addr) (ns : List Int) (m : Int), vs = [.ref st, .int m] ∧ StAt H st a ns ∧ 1 ≤ m ∧ m ≤ 1000 ∧ ∀ (d : Int) (H' : Hp), 0 ≤ d → d < m → StAt H' st a ns → But st H H' → Q (.int d) H'
section
variable {P : Program} {w : World} {K : PySem.W.Frag} {mg : Str → Option Value} {base : Heap}
theorem scSt : FnScope ["_law_script"] ["_law_script"] (C8.fnScope sStream) := C8.fnScope_by (by decide +kernel)
theorem ok_stream {f : Addr} {fd : FuncData} (F : C8.Def K mg "_law_stream" sStream f fd) (b : Binds K fd ["_law_script"] []) (T : Txt mg) : C8.Cal P w K mg base 1 "_law_stream" (spStream K) [] := by
  refine C8.cal0 F b .nil scSt (fun vs H Q E h => ?_) (fun cdv A outer s H vs Q E hr h => ?_)
  · obtain ⟨a, ns, rfl, _⟩ := h
    rfl
  · obtain ⟨a, ns, rfl, hS, q⟩ := h
    refine ⟨_, pss_one (ps_ret (pe_lst (pa_cons (pe_callTy call_list_of (by rfl) T.list (by decide +kernel) (pa_cons (pv 0) pa_nil)) (pa_cons pe_int (pa_cons pe_int pa_nil))))), ?_⟩
    refine ⟨_, rfl, a, _, rfl, .inl hS, fun l hl => ⟨(by show 3 ≤ sizeLine; decide), fun st hst => ?_⟩⟩
    have hne : l ≠ st := fun e => by
      rw [e, upd_same] at hst
      cases hst
    exact q st l _ ((sameU hl).trans (sameU hst)) ⟨0, 0, upd_same, by rw [upd_ne hne, upd_same], Int.le_refl _⟩
theorem scNx : FnScope ["_law_stream_here", "_law_many", "_law_k", "_law_cell", "_law_digit"] ["_law_stream_here", "_law_many"] (C8.fnScope sNext) := C8.fnScope_by (by decide +kernel)
theorem ok_next {f : Addr} {fd : FuncData} (F : C8.Def K mg "_law_next" sNext f fd) (b : Binds K fd ["_law_stream_here", "_law_many"] []) (T : Txt mg) : C8.Cal P w K mg base 1 "_law_next" spNext [] := by
  refine C8.cal0 F b .nil scNx (fun vs H Q E h => ?_) (fun cdv A outer s H vs Q E hr h => ?_)
  · obtain ⟨st, a, ns, m, rfl, _⟩ := h
    rfl
  · obtain ⟨st, a, ns, m, rfl, hSt, m1, m2, q⟩ := h
    have hne := hSt.ne
    refine ⟨_, C8.pss_cut (ps_if (pt_cmpR op_eq (pe_ix ix_list (pv 0) pe_int (fun _ _ => rfl)) pe_int (nomark _))
        (pss_cons (ps_set (i := 2) scNx.nd rfl (Or.inl rfl) (pe_ix ix_list (pv 0) pe_int (fun _ _ => rfl)))
        (pss_cons (ps_set (i := 3) scNx.nd rfl (Or.inl rfl) (pe_op op_add pe_int (pv 2)))
        (C8.pss_cut (ps_if (pt_cmpR op_lt (pv 2) (pe_callB call_len_seq (by rfl) T.len (by decide +kernel) (pa_cons (pe_ix ix_list (pv 0) pe_int (fun _ _ => rfl)) pa_nil)) (nomark _))
          (pss_one (ps_set (i := 3) scNx.nd rfl (Or.inl rfl) (pe_callB call_abs (by rfl) T.abs (by decide +kernel) (pa_cons (pe_ix ix_list (pe_ix ix_list (pv 0) pe_int (fun _ _ => rfl)) (pv 2) (fun _ _ => rfl)) pa_nil)))) pss_nil)
        (C8.pss_cut (ps_if (pt_cmpR op_lt (pv 3) (pe_op op_pow pe_int pe_int) (nomark _))
          (pss_cons (ps_set (i := 3) scNx.nd rfl (Or.inl rfl) (pe_op op_mod (pe_callTy call_int1 (by rfl) T.int (by decide +kernel) (pa_cons (pe_op op_add (pe_op op_add (pe_op op_mul (pv 3) pe_int) (pe_op op_mul (pv 2) pe_int)) pe_int) pa_nil)) pe_int))
          (pss_one (ps_set (i := 3) scNx.nd rfl (Or.inl rfl) (pe_op op_add (pe_op op_mul (pe_op op_mod (pe_callTy call_int1 (by rfl) T.int (by decide +kernel) (pa_cons (pe_op op_add (pe_op op_mul (pv 3) pe_int) pe_int) pa_nil)) pe_int) pe_int) (pv 3))))) pss_nil)
        (pss_cons (ps_asg (pv 3) (pg_sub (pv 0) pe_int set_list))
        (pss_one (ps_asg (pe_op op_add (pv 2) pe_int) (pg_sub (pv 0) pe_int set_list)))))))) pss_nil)
      (pss_cons (ps_set (i := 4) scNx.nd rfl (Or.inl rfl) (pe_op op_mod (pe_callTy call_int1 (by rfl) T.int (by decide +kernel) (pa_cons (pe_ix ix_list (pv 0) pe_int (fun _ _ => rfl)) pa_nil)) (pv 1)))
      (pss_cons (ps_asg (pe_op op_fdiv (pe_ix ix_list (pv 0) pe_int (fun _ _ => rfl)) (pv 1)) (pg_sub (pv 0) pe_int set_list))
      (pss_one (ps_ret (pv 4))))), ?_⟩
    refine ⟨fun σ' H' => ∃ v2 v3 : Option V, σ' = [some (.ref st), some (.int m), v2, v3, none] ∧ StAt H' st a ns ∧ But st H H', ?_, ?_⟩
    · obtain ⟨c, k, e1, e2, hk⟩ := id hSt
      refine ⟨_, rfl, st, _, 1, _, rfl, rfl, SqL.of e1, atI_nat (j := 1) rfl, rfl, _, rfl, ite2 (fun e => ?_) (fun e => ?_)⟩
      · refine ⟨_, rfl, st, _, 2, _, rfl, rfl, SqL.of e1, atI_nat (j := 2) rfl, _, rfl, _, _, rfl, rfl, ?_⟩
        refine ⟨fun σ' H' => ∃ cell : Int, σ' = [some (.ref st), some (.int m), some (.int k), some (.int cell), none] ∧ H' = H, ?_, ?_⟩
        · refine ⟨_, rfl, _, rfl, st, _, 0, _, rfl, rfl, SqL.of e1, atI_nat (j := 0) rfl, a, _, rfl, .inl (SqL.of e2), _, _, rfl, rfl, _, rfl, ite2 (fun h => ?_) (fun h => ?_)⟩
          · have hlt := of_decide_eq_true h
            rw [List.length_map] at hlt
            have hkn : k.toNat < ns.length := by omega
            refine ⟨_, rfl, st, _, 0, _, rfl, rfl, SqL.of e1, atI_nat (j := 0) rfl, _, rfl, a, _, _, .int ns[k.toNat], rfl, rfl, SqL.of e2, at_of (j := k.toNat) (by omega) (by rw [List.getElem?_map, List.getElem?_eq_getElem hkn]; rfl), _, rfl, ?_⟩
            exact ⟨_, rfl, rfl⟩
          · exact ⟨_, rfl, rfl⟩
        · rintro σ' H' ⟨cell, rfl, rfl⟩
          refine ⟨fun σ' H'' => ∃ cell : Int, σ' = [some (.ref st), some (.int m), some (.int k), some (.int cell), none] ∧ H'' = H', ?_, ?_⟩
          · refine ⟨_, rfl, _, _, rfl, rfl, ⟨by decide, by decide, by decide⟩, _, _, rfl, rfl, _, rfl, ite2 (fun h => ?_) (fun h => ?_)⟩
            · refine ⟨_, rfl, _, _, rfl, rfl, .inr ⟨by decide, by decide⟩, _, rfl, _, _, rfl, rfl, .inr ⟨by decide, by decide⟩, _, _, rfl, rfl, _, _, rfl, rfl, .inl ⟨_, rfl, _, _, rfl, rfl, (by show (0 : Int) < 2147483647; decide), ?_⟩⟩
              refine ⟨_, rfl, _, _, rfl, rfl, .inr ⟨by decide, by decide⟩, _, _, rfl, rfl, .inl ⟨_, rfl, _, _, rfl, rfl, (by show (0 : Int) < 2147483647; decide), _, _, rfl, rfl, .inr ⟨by decide, by decide⟩, _, rfl, _, _, rfl, rfl, ?_⟩⟩
              exact ⟨_, rfl, rfl⟩
            · exact ⟨_, rfl, rfl⟩
          · rintro σ'' H'' ⟨cell', rfl, rfl⟩
            refine ⟨_, rfl, _, rfl, st, _, 1, 1, rfl, rfl, e1, rfl, ?_⟩
            refine ⟨_, rfl, _, _, rfl, rfl, _, rfl, st, _, 2, 2, rfl, rfl, upd_same, rfl, ?_⟩
            refine ⟨some (.int k), some (.int cell'), rfl, ⟨cell', k + 1, upd_same, by rw [upd_ne hne.symm, upd_ne hne.symm]; exact e2, by omega⟩, fun c o hc h => ?_⟩
            rw [upd_ne hc, upd_ne hc]
            exact h
      · exact ⟨none, none, rfl, hSt, But.refl _ _⟩
    · rintro σ' H' ⟨v2, v3, rfl, ⟨c, k, e1, e2, hk⟩, hB⟩
      have hm0 : (0 : Int) < m := by omega
      refine ⟨_, rfl, st, _, 1, _, rfl, rfl, SqL.of e1, atI_nat (j := 1) rfl, .inl ⟨_, rfl, _, rfl, _, _, rfl, rfl, hm0, ?_⟩⟩
      refine ⟨_, rfl, st, _, 1, _, rfl, rfl, SqL.of e1, atI_nat (j := 1) rfl, _, rfl, _, _, rfl, rfl, ⟨hm0, by omega⟩, _, rfl, st, _, 1, 1, rfl, rfl, e1, rfl, ?_⟩
      refine ⟨_, rfl, q _ _ (Int.emod_nonneg _ (by omega)) (Int.emod_lt_of_pos _ hm0) ⟨c / m, k, upd_same, by rw [upd_ne hne.symm]; exact e2, hk⟩ fun c o hc h => ?_⟩
      rw [upd_ne hc]
      exact hB c o hc h
end
end GC

/-! The law's texts and words. -/
namespace GC
open PySem PySem.Spec PyProof.Rows L2 SX
/-- t: letters of ls, at most n -/
def spText : Sp := fun vs H Q _ => ∃ (st a : Addr) (ns : List Int) (ls : List Nat) (n : Nat), vs = [.ref st, .str (S ls), .int (n : Nat)] ∧ StAt H st a ns ∧ 1 ≤ ls.length ∧ ls.length ≤ 3 ∧ n ≤ 15 ∧
  ∀ (t : List Nat) (H' : Hp), (∀ c ∈ t, c ∈ ls) → t.length ≤ n → StAt H' st a ns → But st H H' → Q (.str (S t)) H'
theorem letAt {ls : List Nat} {d : Int} (h0 : 0 ≤ d) (h1 : d < (ls.length : Int)) : ∃ c, c ∈ ls ∧ atI (S ls).cps.toList d = some c := by
  obtain ⟨j, ej⟩ : ∃ j : Nat, d = (j : Int) := ⟨d.toNat, by omega⟩
  subst ej
  have hj : j < ls.length := by omega
  exact ⟨ls[j], List.getElem_mem hj, atI_nat (j := j) (List.getElem?_eq_getElem hj)⟩
theorem joinOne (u : List Nat) : Txt.join (S []) (u.map fun c => S [c]) = S u := by
  have h := joinS (u.map fun c => [c])
  rw [List.map_map] at h
  have e : ∀ u : List Nat, (u.map fun c => [c]).flatten = u := fun u => by
    induction u with
    | nil => rfl
    | cons c r ih =>
      rw [List.map_cons, List.flatten_cons, ih]
      rfl
  rw [e] at h
  exact h
theorem sumOne (u : List Nat) : ((u.map fun c => S [c]).map (·.length)).sum = u.length := by
  induction u with
  | nil => rfl
  | cons c r ih =>
    rw [List.map_cons, List.map_cons, List.sum_cons, ih, List.length_cons, S_len]
    show 1 + r.length = r.length + 1
    omega
section
variable {P : Program} {w : World} {K : PySem.W.Frag} {mg : Str → Option Value} {base : Heap}
theorem scTx : FnScope ["_law_stream_here", "_law_letters", "_law_most", "_law_k"] ["_law_stream_here", "_law_letters", "_law_most"] (C8.fnScope sText) := C8.fnScope_by (by decide +kernel)
theorem ok_text {f : Addr} {fd : FuncData} (F : C8.Def K mg "_law_text" sText f fd) (b : Binds K fd ["_law_stream_here", "_law_letters", "_law_most"] []) (T : Txt mg) (cN : C8.Cal P w K mg base 1 "_law_next" spNext []) : C8.Cal P w K mg base 2 "_law_text" spText [] := by
  refine C8.cal0 F b .nil scTx (fun vs H Q E h => ?_) (fun cdv A outer s H vs Q E hr h => ?_)
  · obtain ⟨st, a, ns, ls, n, rfl, _⟩ := h
    rfl
  · obtain ⟨st, a, ns, ls, n, rfl, hSt, l1, l3, hn, q⟩ := h
    refine ⟨_, pss_one (ps_ret (pe_join pe_str (pe_lc (own := [("_law_k", 3)]) (by rfl) scTx.nd
      (pi_range1 rfl T.range (pa_cons (C8.pe_c cN hr (Nat.le_refl _) (by rfl) (pa_cons (pv 0) (pa_cons (pe_op op_add (pv 2) pe_int) pa_nil))) pa_nil))
      (blkOk_by (own := [("_law_k", 3)]) (N := ["_law_stream_here", "_law_letters", "_law_most", "_law_k"]) (sc := C8.fnScope sText) (by decide +kernel))
      (fun _ _ _ _ _ => pg_name (i := 3) scTx.nd rfl (Or.inl rfl)) (fun _ _ _ _ _ => pts_nil)
      (fun _ _ _ _ _ => pe_ix ix_str (pv 1) (C8.pe_c cN hr (Nat.le_refl _) (by rfl) (pa_cons (pv 0) (pa_cons (pe_callB call_len_str (by rfl) T.len (by decide +kernel) (pa_cons (pv 1) pa_nil)) pa_nil))) (fun _ _ => rfl))))), ?_⟩
    refine ⟨⟨_, rfl⟩, _, rfl, _, rfl, _, _, rfl, rfl, st, a, ns, _, rfl, hSt, by omega, by omega, fun d H1 d0 d1 hS1 hB1 => ?_⟩
    refine ⟨d, rfl, by omega, by omega, fun D hD => ?_⟩
    obtain ⟨nD1, nD2⟩ := hS1.ns hD
    refine lc_range (lo := 0) (n := d.toNat) (fun i H2 => ∃ u : List Nat, u.length = i ∧ (∀ c ∈ u, c ∈ ls) ∧ StAt H2 st a ns ∧ But st H H2 ∧ H2 D = some (.lst (u.map fun c => V.str (S [c])))) ⟨[], rfl, List.forall_mem_nil _, hS1.upd nD1 nD2, fun c o hc h => ?_, upd_same⟩ (fun i H2 hi hW => ?_) (fun H2 hW => ?_)
    · have z := hB1 c o hc h
      rw [upd_ne (ne_of_none z hD)]
      exact z
    · obtain ⟨u, hu, hul, hS2, hB2, eD⟩ := hW
      refine ⟨rfl, _, rfl, _, rfl, _, rfl, _, rfl, szS (by omega), st, a, ns, _, rfl, hS2, by rw [sLen]; omega, by rw [sLen]; omega, fun e H3 e0 e1 hS3 hB3 => ?_⟩
      rw [sLen] at e1
      obtain ⟨c, hc, hat⟩ := letAt e0 e1
      have eD3 := hB3 D _ nD1.symm eD
      refine ⟨_, _, c, rfl, rfl, szS (by omega), hat, _, eD3, ?_, u ++ [c], by rw [List.length_append, hu]; rfl, ?_, hS3.upd nD1 nD2, ?_, ?_⟩
      · rw [List.length_map]
        exact small1000 (by omega)
      · intro x hx
        rcases List.mem_append.mp hx with hx | hx
        · exact hul x hx
        · rw [List.mem_singleton.mp hx]
          exact hc
      · intro b o hb h
        have z := (hB2.trans hB3) b o hb h
        have zD : b ≠ D := fun e => by
          rw [e] at h
          rw [hB1 D o nD1.symm h] at hD
          cases hD
        rw [upd_ne zD]
        exact z
      · rw [upd_same, List.map_append]
        rfl
    · obtain ⟨u, hu, hul, hS2, hB2, eD⟩ := hW
      refine ⟨S [], D, u.map fun c => S [c], rfl, rfl, .inl (SqL.of (by rw [List.map_map]; exact eD)), ?_, ?_⟩
      · rw [sumOne, show (S []).length = 0 from rfl]
        omega
      · show Q (.str (Txt.join (S []) (u.map fun c => S [c]))) H2
        rw [joinOne]
        exact q u H2 hul (by omega) hS2 hB2
end
end GC

/-! The law's words. -/
namespace GC
open PySem PySem.Spec PyProof.Rows L2 SX
def spWords : Sp := fun vs H Q _ => ∃ (st a : Addr) (ns : List Int) (ls : List Nat), vs = [.ref st, .str (S ls), .int 4] ∧ StAt H st a ns ∧ 1 ≤ ls.length ∧ ls.length ≤ 3 ∧ ls.Nodup ∧ (∀ c ∈ ls, c ∈ alph) ∧
  ∀ (p : Addr) (ws : List Wd) (H' : Hp), WAt H' p ws → WL ls ws → ws.length ≤ 7 → StAt H' st a ns → But st H H' → Q (.ref p) H'
theorem menu {d e : Int} (d0 : 0 ≤ d) (d8 : d < 9) (e0 : 0 ≤ e) (e5 : e < 5) : ∃ c : Int, atI [V.int 1, .int 1, .int 2, .int 3, .int (1 + d)] e = some (.int c) ∧ 1 ≤ c ∧ c ≤ 9 := by
  have h : e = (0 : Nat) ∨ e = (1 : Nat) ∨ e = (2 : Nat) ∨ e = (3 : Nat) ∨ e = (4 : Nat) := by omega
  rcases h with rfl | rfl | rfl | rfl | rfl
  · exact ⟨1, atI_nat (j := 0) rfl, by omega, by omega⟩
  · exact ⟨1, atI_nat (j := 1) rfl, by omega, by omega⟩
  · exact ⟨2, atI_nat (j := 2) rfl, by omega, by omega⟩
  · exact ⟨3, atI_nat (j := 3) rfl, by omega, by omega⟩
  · exact ⟨1 + d, atI_nat (j := 4) rfl, by omega, by omega⟩
/-- what stood at the start is no new object -/
theorem But.push {st D : Addr} {H H1 H2 : Hp} {o : HO} (h1 : But st H H1) (hD : H1 D = none) (hs : st ≠ D) (h2 : But st H H2) : But st H (upd H2 D o) := fun b ob hb h => by
  have z : b ≠ D := fun e => by
    rw [e] at h
    rw [h1 D ob hs.symm h] at hD
    cases hD
  rw [upd_ne z]
  exact h2 b ob hb h
section
variable {P : Program} {w : World} {K : PySem.W.Frag} {mg : Str → Option Value} {base : Heap}
theorem scWd : FnScope ["_law_stream_here", "_law_letters", "_law_most", "_law_names", "_law_k", "_law_word", "_law_costs", "_law_i", "_law_name"] ["_law_stream_here", "_law_letters", "_law_most"] (C8.fnScope sWords) := C8.fnScope_by (by decide +kernel)
abbrev nWd : List Str := ["_law_stream_here", "_law_letters", "_law_most", "_law_names", "_law_k", "_law_word", "_law_costs", "_law_i", "_law_name"]
theorem ok_words {f : Addr} {fd : FuncData} (F : C8.Def K mg "_law_words" sWords f fd) (b : Binds K fd ["_law_stream_here", "_law_letters", "_law_most"] []) (T : Txt mg) (cN : C8.Cal P w K mg base 1 "_law_next" spNext []) : C8.Cal P w K mg base 2 "_law_words" spWords [] := by
  refine C8.cal0 F b .nil scWd (fun vs H Q E h => ?_) (fun cdv A outer s H vs Q E hr h => ?_)
  · obtain ⟨st, a, ns, ls, rfl, _⟩ := h
    rfl
  · obtain ⟨st, a, ns, ls, rfl, hSt, l1, l3, lnd, labc, q⟩ := h
    refine ⟨_, pss_cons (ps_set (i := 3) scWd.nd rfl (Or.inr rfl) (pe_callTy (call_list_txt rfl) (by rfl) T.list (by decide +kernel) (pa_cons (pv 1) pa_nil)))
      (pss_cons (ps_for PassesOwn.never rfl (pi_range1 rfl T.range (pa_cons (C8.pe_c cN hr (Nat.le_refl _) (by rfl) (pa_cons (pv 0) (pa_cons (pe_op op_add (pv 2) pe_int) pa_nil))) pa_nil)) (pg_name (i := 4) scWd.nd rfl (Or.inl rfl))
        (pss_cons (ps_set (i := 5) scWd.nd rfl (Or.inl rfl) (pe_join pe_str (pe_lc (own := [("_law_i", 7)]) (by rfl) scWd.nd
            (pi_range1 rfl T.range (pa_cons (pe_op op_add pe_int (C8.pe_c cN hr (Nat.le_refl _) (by rfl) (pa_cons (pv 0) (pa_cons pe_int pa_nil)))) pa_nil))
            (blkOk_by (own := [("_law_i", 7)]) (N := nWd) (sc := C8.fnScope sWords) (by decide +kernel))
            (fun _ _ _ _ _ => pg_name (i := 7) scWd.nd rfl (Or.inl rfl)) (fun _ _ _ _ _ => pts_nil)
            (fun _ _ _ _ _ => pe_ix ix_str (pv 1) (C8.pe_c cN hr (Nat.le_refl _) (by rfl) (pa_cons (pv 0) (pa_cons (pe_callB call_len_str (by rfl) T.len (by decide +kernel) (pa_cons (pv 1) pa_nil)) pa_nil))) (fun _ _ => rfl)))))
        (pss_one (ps_if (pt_cmpR op_notIn_seq (pv 5) (pv 3) (by rfl)) (pss_one (ps_expr (pe_bm PySem.F.plainAttrs_list PySem.F.slot_list_append PySem.F.type_list_append mt_append (pv 3) (pa_cons (pv 5) pa_nil)))) pss_nil))))
      (pss_cons (ps_set (i := 6) scWd.nd rfl (Or.inr rfl) (pe_lc (own := [("_law_name", 8)]) (by rfl) scWd.nd (pi_list (pv 3)) (blkOk_by (own := [("_law_name", 8)]) (N := nWd) (sc := C8.fnScope sWords) (by decide +kernel))
          (fun _ _ _ _ _ => pg_name (i := 8) scWd.nd rfl (Or.inl rfl)) (fun _ _ _ _ _ => pts_nil)
          (fun _ _ _ _ _ => pe_ix (ixL (K := K) rfl) (pe_lst (pa_cons pe_int (pa_cons pe_int (pa_cons pe_int (pa_cons pe_int (pa_cons (pe_op op_add pe_int (C8.pe_c cN hr (Nat.le_refl _) (by rfl) (pa_cons (pv 0) (pa_cons pe_int pa_nil)))) pa_nil)))))) (C8.pe_c cN hr (Nat.le_refl _) (by rfl) (pa_cons (pv 0) (pa_cons pe_int pa_nil))) (fun _ _ => rfl))))
      (C8.pss_cut (ps_if (pt_cmpR op_eq (C8.pe_c cN hr (Nat.le_refl _) (by rfl) (pa_cons (pv 0) (pa_cons pe_int pa_nil))) pe_int (nomark _))
          (pss_one (ps_set (i := 6) scWd.nd rfl (Or.inr rfl) (pe_lc (own := [("_law_name", 8)]) (by rfl) scWd.nd (pi_list (pv 3)) (blkOk_by (own := [("_law_name", 8)]) (N := nWd) (sc := C8.fnScope sWords) (by decide +kernel))
            (fun _ _ _ _ _ => pg_name (i := 8) scWd.nd rfl (Or.inl rfl)) (fun _ _ _ _ _ => pts_nil) (fun _ _ _ _ _ => pe_int)))) pss_nil)
      (pss_one (ps_ret (pe_callTy call_tuple_of (by rfl) T.tuple (by decide +kernel) (pa_cons (pe_callB (cr_sortW hr.units) (by rfl) T.sorted (by decide +kernel) (pa_cons (pe_lc (own := [("_law_k", 4)]) (by rfl) scWd.nd
          (pi_range1 rfl T.range (pa_cons (pe_callB call_len_seq (by rfl) T.len (by decide +kernel) (pa_cons (pv 3) pa_nil)) pa_nil)) (blkOk_by (own := [("_law_k", 4)]) (N := nWd) (sc := C8.fnScope sWords) (by decide +kernel))
          (fun _ _ _ _ _ => pg_name (i := 4) scWd.nd rfl (Or.inl rfl)) (fun _ _ _ _ _ => pts_nil)
          (fun _ _ _ _ _ => pe_tup (pa_cons (pe_ix (ixL (K := K) rfl) (pv 3) (pv 4) (fun _ _ => rfl)) (pa_cons (pe_ix (ixL (K := K) rfl) (pv 6) (pv 4) (fun _ _ => rfl)) pa_nil)))) pa_nil)) pa_nil))))))), ?_⟩
    -- names = list(letters)
    refine ⟨_, rfl, ls, rfl, by omega, fun o ho => ?_⟩
    have e0 : (ls.map fun c => V.str (S [c])) = (ls.map fun c => [c]).map fun x => V.str (S x) := by rw [List.map_map]; rfl
    have hS0 := hSt.same (sameU (o := .lst (ls.map fun c => V.str (S [c]))) ho)
    obtain ⟨no1, no2⟩ := hSt.ns ho
    have hB0 : But st H (upd H o (.lst (ls.map fun c => V.str (S [c])))) := But.same (sameU ho)
    -- the loop
    refine ⟨_, rfl, _, rfl, _, _, rfl, rfl, st, a, ns, _, rfl, hS0, by omega, by omega, fun d H1 d0 d1 hS1 hB1 => ?_⟩
    refine ⟨d, rfl, by omega, by omega, ?_⟩
    have ho1 := hB1 o _ no1.symm upd_same
    refine for_range (lo := 0) (n := d.toNat) (fun i σ H2 => ∃ (nm : List (List Nat)) (v4 v5 : Option V), σ = [some (.ref st), some (.str (S ls)), some (.int 4), some (.ref o), v4, v5, none, none, none] ∧ Nm ls nm ∧ nm.length ≤ 3 + i ∧ StAt H2 st a ns ∧ But st H H2 ∧ H2 o = some (.lst (nm.map fun x => V.str (S x))))
      ⟨ls.map fun c => [c], none, none, rfl, Nm.start lnd, by rw [List.length_map]; omega, hS1, hB0.trans hB1, by rw [ho1, e0]⟩ ?_ ?_
    · rintro i σ H2 hi ⟨nm, v4, v5, rfl, hN, hnl, hS2, hB2, eo⟩
      refine ⟨⟨_, rfl⟩, _, rfl, st, a, ns, 3, rfl, hS2, by omega, by omega, fun e H3 f0 f1 hS3 hB3 => ⟨_, _, rfl, rfl, 2 + e, rfl, by omega, by omega, fun D hD => ?_⟩⟩
      obtain ⟨nD1, nD2⟩ := hS3.ns hD
      refine lc_range (lo := 0) (n := (2 + e).toNat) (fun j H4 => ∃ u : List Nat, u.length = j ∧ (∀ c ∈ u, c ∈ ls) ∧ StAt H4 st a ns ∧ But st H2 H4 ∧ H4 D = some (.lst (u.map fun c => V.str (S [c])))) ⟨[], rfl, List.forall_mem_nil _, hS3.upd nD1 nD2, hB3.push hD nD1 hB3, upd_same⟩ (fun j H4 hj hW => ?_) (fun H4 hW => ?_)
      · obtain ⟨u, hu, hul, hS4, hB4, eD⟩ := hW
        refine ⟨rfl, _, rfl, _, rfl, _, rfl, _, rfl, szS (by omega), st, a, ns, _, rfl, hS4, by rw [sLen]; omega, by rw [sLen]; omega, fun g H5 g0 g1 hS5 hB5 => ?_⟩
        rw [sLen] at g1
        obtain ⟨c, hc, hat⟩ := letAt g0 g1
        have eD5 := hB5 D _ nD1.symm eD
        refine ⟨_, _, c, rfl, rfl, szS (by omega), hat, _, eD5, ?_, u ++ [c], by rw [List.length_append, hu]; rfl, ?_, hS5.upd nD1 nD2, hB3.push hD nD1 (hB4.trans hB5), ?_⟩
        · rw [List.length_map]
          exact small1000 (by omega)
        · intro x hx
          rcases List.mem_append.mp hx with hx | hx
          · exact hul x hx
          · rw [List.mem_singleton.mp hx]
            exact hc
        · rw [upd_same, List.map_append]
          rfl
      · obtain ⟨u, hu, hul, hS4, hB4, eD⟩ := hW
        have eo4 := hB4 o _ no1.symm eo
        refine ⟨S [], D, u.map fun c => S [c], rfl, rfl, .inl (SqL.of (by rw [List.map_map]; exact eD)), ?_, ?_⟩
        · rw [sumOne, show (S []).length = 0 from rfl]
          omega
        · have ej : Txt.join (S []) (u.map fun c => S [c]) = S u := joinOne u
          refine ⟨_, rfl, _, rfl, o, _, rfl, .inl (SqL.of eo4), rfl, flat_strs _, _, rfl, ?_⟩
          show if (!inV (.str (Txt.join (S []) (u.map fun c => S [c]))) (nm.map fun x => V.str (S x))) = true then _ else _
          rw [ej, inV_strs]
          by_cases hm : u ∈ nm
          · rw [decide_eq_true hm]
            refine iteF ?_
            exact ⟨nm, _, _, rfl, hN, by omega, hS4, hB2.trans hB4, eo4⟩
          · rw [decide_eq_false hm]
            refine iteT ?_
            refine ⟨_, rfl, .inl ⟨rfl, _, .inl (.inl eo4)⟩, _, rfl, o, _, _, rfl, rfl, eo4, ?_, ?_⟩
            · rw [List.length_map]
              exact small1000 (by omega)
            · refine ⟨nm ++ [u], _, _, rfl, hN.snoc hm (by omega) (by omega) hul, by rw [List.length_append]; show nm.length + 1 ≤ _; omega, hS4.upd no1 no2, ?_, ?_⟩
              · exact (But.refl st H).push ho no1 (hB2.trans hB4)
              · rw [upd_same, List.map_append]
                rfl
    · rintro σ H2 ⟨nm, v4, v5, rfl, hN, hnl, hS2, hB2, eo⟩
      have hn7 : nm.length ≤ 7 := by omega
      -- the costs
      refine ⟨_, rfl, o, rfl, ⟨_, SqL.of eo⟩, fun D hD => ?_⟩
      obtain ⟨nD1, nD2⟩ := hS2.ns hD
      have noD : o ≠ D := ne_of_none eo hD
      refine lc_list (K := K) (a := o) (xs := nm.map fun x => V.str (S x)) (fun i H3 => ∃ cs : List Int, cs.length = i ∧ (∀ c ∈ cs, 1 ≤ c ∧ c ≤ 9) ∧ StAt H3 st a ns ∧ But st H H3 ∧ H3 o = some (.lst (nm.map fun x => V.str (S x))) ∧ H3 D = some (.lst (cs.map V.int)))
        ⟨[], rfl, List.forall_mem_nil _, hS2.upd nD1 nD2, hB2.push hD nD1 hB2, by rw [upd_ne noD]; exact eo, upd_same⟩ (fun i H3 _ ⟨_, _, _, _, _, e, _⟩ => SqL.of e) (fun i x H3 hi hW => ?_) (fun H3 hW => ?_)
      · obtain ⟨cs, hcl, h9, hS3, hB3, eo3, eD⟩ := hW
        have hil : i < nm.length := by
          have z := (List.getElem?_eq_some_iff.mp hi).1
          rw [List.length_map] at z
          exact z
        refine ⟨rfl, _, rfl, st, a, ns, 9, rfl, hS3, by omega, by omega, fun g H4 g0 g1 hS4 hB4 => ⟨_, _, rfl, rfl, (by show 5 ≤ sizeLine; decide), fun l hl => ?_⟩⟩
        obtain ⟨nl1, nl2⟩ := hS4.ns hl
        refine ⟨_, rfl, st, a, ns, 5, rfl, hS4.upd nl1 nl2, by omega, by omega, fun e H5 f0 f1 hS5 hB5 => ?_⟩
        obtain ⟨c, hat, c1, c9⟩ := menu g0 g1 f0 f1
        have hll := hB5 l _ nl1.symm upd_same
        have eD4 := hB4 D _ nD1.symm eD
        have eo4 := hB4 o _ no1.symm eo3
        have nlD : D ≠ l := ne_of_none eD4 hl
        have nlo : o ≠ l := ne_of_none eo4 hl
        have eD5 := hB5 D _ nD1.symm (by rw [upd_ne nlD]; exact eD4)
        have eo5 := hB5 o _ no1.symm (by rw [upd_ne nlo]; exact eo4)
        refine ⟨l, _, _, .int c, rfl, rfl, SqL.of hll, hat, _, eD5, ?_, cs ++ [c], by rw [List.length_append, hcl]; rfl, ?_, hS5.upd nD1 nD2, ?_, by rw [upd_ne noD]; exact eo5, ?_⟩
        · rw [List.length_map]
          exact small1000 (by omega)
        · intro x hx
          rcases List.mem_append.mp hx with hx | hx
          · exact h9 x hx
          · rw [List.mem_singleton.mp hx]
            exact ⟨c1, c9⟩
        · exact hB2.push hD nD1 (((hB3.trans hB4).push hl nl1 (hB3.trans hB4)).trans hB5)
        · rw [upd_same, List.map_append]
          rfl
      · obtain ⟨cs, hcl, h9, hS3, hB3, eo3, eD⟩ := hW
        rw [List.length_map] at hcl
        refine ⟨fun σ' H' => ∃ (cs : List Int) (r : Addr), σ' = [some (.ref st), some (.str (S ls)), some (.int 4), some (.ref o), v4, v5, some (.ref r), none, none] ∧ cs.length = nm.length ∧ (∀ c ∈ cs, 1 ≤ c ∧ c ≤ 9) ∧ StAt H' st a ns ∧ But st H H' ∧ H' o = some (.lst (nm.map fun x => V.str (S x))) ∧ H' r = some (.lst (cs.map V.int)), ?_, ?_⟩
        · refine ⟨_, rfl, st, a, ns, 2, rfl, hS3, by omega, by omega, fun g H4 g0 g1 hS4 hB4 => ⟨rfl, _, rfl, ite2 (fun _ => ?_) (fun _ => ?_)⟩⟩
          · have eo4 := hB4 o _ no1.symm eo3
            have hB04 := hB3.trans hB4
            refine ⟨_, rfl, o, rfl, ⟨_, SqL.of eo4⟩, fun R hR => lc_outL (xs := nm.map fun x => V.str (S x)) (fun i => (List.replicate i (1 : Int)).map V.int) hR (SqL.of eo4) rfl (fun i hi => ?_) (fun i x H5 hi sm Qy Qn hy hq => ?_) (fun H5 s5 e5 => ?_)⟩
            · rw [List.length_map, List.length_replicate]
              rw [List.length_map] at hi
              exact small1000 (by omega)
            · refine ⟨rfl, hy _ _ ?_ (Same.refl _)⟩
              rw [reps, List.map_append]
              rfl
            · rw [List.length_map] at e5
              refine ⟨List.replicate nm.length 1, R, rfl, List.length_replicate, fun c hc => ?_, hS4.same s5, hB04.trans (But.same s5), s5 _ _ eo4, e5⟩
              rw [(List.mem_replicate.mp hc).2]
              exact ⟨by omega, by omega⟩
          · exact ⟨cs, D, rfl, hcl, h9, hS4, hB3.trans hB4, hB4 o _ no1.symm eo3, hB4 D _ nD1.symm eD⟩
        · rintro σ' H4 ⟨cs, r, rfl, hcl, h9, hS4, hB4, eo4, er⟩
          -- the pairs, sorted
          have hzl : (nm.zip cs).length = nm.length := by rw [List.length_zip, hcl, Nat.min_self]
          refine ⟨_, rfl, o, _, rfl, .inl (SqL.of eo4), (nm.length : Int), (by rw [List.length_map]), by omega, by omega, fun D2 hD2 => ?_⟩
          refine lc_range (lo := 0) (n := (nm.length : Int).toNat) (fun i H5 => ∃ bs : List (Addr × Wd), bs.map (·.2) = (nm.zip cs).take i ∧ Same H4 H5 ∧ H5 D2 = some (.lst (bs.map fun b => V.ref b.1)) ∧ ∀ b ∈ bs, H5 b.1 = some (entO b.2))
            ⟨[], rfl, sameU hD2, upd_same, List.forall_mem_nil _⟩ (fun i H5 hi hW => ?_) (fun H5 hW => ?_)
          · obtain ⟨bs, hbs, s5, eD2, hbm⟩ := hW
            have hil : i < nm.length := by omega
            have hic : i < cs.length := by omega
            have hz : (nm.zip cs)[i]? = some (nm[i], cs[i]) := by
              rw [List.getElem?_eq_getElem (by omega), List.getElem_zip]
            have hbl : bs.length = i := by
              have z := congrArg List.length hbs
              rw [List.length_map, List.length_take] at z
              omega
            refine ⟨rfl, _, rfl, _, rfl, o, _, _, _, rfl, rfl, SqL.of (s5 _ _ eo4), at_of (j := i) (by omega) (by rw [List.getElem?_map, List.getElem?_eq_getElem hil]; rfl), _, rfl, _, rfl, r, _, _, _, rfl, rfl, SqL.of (s5 _ _ er), at_of (j := i) (by omega) (by rw [List.getElem?_map, List.getElem?_eq_getElem hic]; rfl), (by show 2 ≤ sizeLine; decide), fun t ht => ?_⟩
            have ntD : D2 ≠ t := ne_of_none eD2 ht
            refine ⟨_, (by rw [upd_ne ntD]; exact eD2), ?_, bs ++ [(t, (nm[i], cs[i]))], ?_, fun c oc hc => ?_, ?_, fun c hcm => ?_⟩
            · rw [List.length_map]
              exact small1000 (by omega)
            · rw [List.map_append, hbs]
              exact (take_snoc hz).symm
            · rw [upd_ne (ne_of_none hc hD2), upd_ne (ne_of_none (s5 _ _ hc) ht)]
              exact s5 _ _ hc
            · rw [upd_same, List.map_append]
              rfl
            · rcases List.mem_append.mp hcm with hcm | hcm
              · have z := hbm c hcm
                rw [upd_ne (ne_of z eD2 (by intro q; cases q)), upd_ne (ne_of_none z ht)]
                exact z
              · rw [List.mem_singleton.mp hcm, upd_ne ntD.symm, upd_same]
          · obtain ⟨bs, hbs, s5, eD2, hbm⟩ := hW
            rw [Int.toNat_natCast, ← hzl, List.take_length] at hbs
            refine ⟨D2, bs, rfl, .inl (SqL.of eD2), hbm, fun ds p hperm hsort hp => ⟨p, _, rfl, .inl ⟨SqL.of upd_same, fun l hl => ?_⟩⟩⟩
            have hpl : p ≠ l := fun e => by
              rw [e, upd_same] at hl
              cases hl
            have sm : Same H4 (upd (upd H5 p (.lst (ds.map fun b => V.ref b.1))) l (.tup (ds.map fun b => V.ref b.1))) := (s5.trans (sameU hp)).trans (sameU hl)
            have hpm : (ds.map (·.2)).Perm (nm.zip cs) := by
              rw [← hbs]
              exact hperm.map _
            refine q l (ds.map (·.2)) _ ⟨ds, upd_same, rfl, fun c hcm => ?_⟩ (hN.wl l1 (by omega) hcl h9 labc hpm (by rw [List.pairwise_map]; exact hsort)) (by rw [hpm.length_eq, hzl]; exact hn7) (hS4.same sm) (hB4.trans (But.same sm))
            have z := hbm c (hperm.mem_iff.mp hcm)
            rw [upd_ne (ne_of_none ((sameU hp) _ _ z) hl)]
            exact (sameU hp) _ _ z
end
end GC

/-! The law. -/
namespace GC
open PySem PySem.Spec PyProof.Rows L2 SX
def spLaw (K : PySem.W.Frag) : Sp := fun vs H Q _ => ∃ (a : Addr) (ns : List Int), vs = [.ref a] ∧ SqL K H a (ns.map V.int) ∧ ∀ H', Q (.bl true) H'
theorem abc_S : Str.ofString "abc" = S [97, 98, 99] := by decide +kernel
theorem nil_S : Str.ofString "" = S [] := by decide +kernel
theorem abc_all : ∀ c ∈ [97, 98, 99], c ∈ alph := by decide
section
variable {P : Program} {w : World} {K : PySem.W.Frag} {mg : Str → Option Value} {base : Heap}
abbrev nLw : List Str := ["_law_script", "_law_stream_here", "_law_letters", "_law_words_here", "_law_one", "_law_other", "_law_both", "_law_total", "_law_word", "_law_more", "_law_name", "_law_cost_here"]
theorem scLw : FnScope nLw ["_law_script"] (C8.fnScope sLaw) := C8.fnScope_by (by decide +kernel)
theorem ok_law {f : Addr} {fd : FuncData} (F : C8.Def K mg "law" sLaw f fd) (T : Txt mg) (cS : C8.Cal P w K mg base 1 "_law_stream" (spStream K) []) (cN : C8.Cal P w K mg base 1 "_law_next" spNext []) (cW : C8.Cal P w K mg base 2 "_law_words" spWords [])
    (cT : C8.Cal P w K mg base 2 "_law_text" spText []) (cL : C8.Cal P w K mg base 7 "least_cost" spLeast []) (cH : C8.Cal P w K mg base 7 "cost_through" spThrough []) (cX : C8.Cal P w K mg base 7 "waste" spWaste []) :
    FnOk P w K mg base C8.CX0 8 f fd ["_law_script"] (spLaw K) := by
  refine C8.fn0 F.fn scLw (fun vs H Q E h => ?_) (fun cdv A outer s H vs Q E hr h => ?_)
  · obtain ⟨a, ns, rfl, _⟩ := h
    rfl
  · obtain ⟨a0, ns, rfl, hS, q⟩ := h
    refine ⟨_, pss_cons (ps_set (i := 1) scLw.nd rfl (Or.inl rfl) (C8.pe_c cS hr (by decide) (by rfl) (pa_cons (pv 0) pa_nil)))
      (pss_cons (ps_set (i := 2) scLw.nd rfl (Or.inl rfl) (pe_slice sl_str pe_str po_none (po_some (pe_op op_add pe_int (C8.pe_c cN hr (by decide) (by rfl) (pa_cons (pv 1) (pa_cons pe_int pa_nil)))))))
      (pss_cons (ps_set (i := 3) scLw.nd rfl (Or.inl rfl) (C8.pe_c cW hr (by decide) (by rfl) (pa_cons (pv 1) (pa_cons (pv 2) (pa_cons pe_int pa_nil)))))
      (pss_cons (ps_set (i := 4) scLw.nd rfl (Or.inl rfl) (C8.pe_c cT hr (by decide) (by rfl) (pa_cons (pv 1) (pa_cons (pv 2) (pa_cons pe_int pa_nil)))))
      (pss_cons (ps_set (i := 5) scLw.nd rfl (Or.inl rfl) (C8.pe_c cT hr (by decide) (by rfl) (pa_cons (pv 1) (pa_cons (pv 2) (pa_cons pe_int pa_nil)))))
      (pss_cons (ps_set (i := 6) scLw.nd rfl (Or.inl rfl) (C8.pe_c cL hr (by decide) (by rfl) (pa_cons (pv 3) (pa_cons (pe_op op_add_str (pv 4) (pv 5)) pa_nil))))
      (pss_cons (ps_set (i := 7) scLw.nd rfl (Or.inl rfl) (pe_op op_add (C8.pe_c cL hr (by decide) (by rfl) (pa_cons (pv 3) (pa_cons (pv 4) pa_nil))) (C8.pe_c cL hr (by decide) (by rfl) (pa_cons (pv 3) (pa_cons (pv 5) pa_nil)))))
      (pss_cons (ps_if (PW.pt (pw_or (pt_cmpR op_gt (pv 6) (pv 7) (nomark _))
          (pw_or1 (pt_cmpR op_ne (C8.pe_c cH hr (by decide) (by rfl) (pa_cons (pv 3) (pa_cons (pe_op op_add_str (pv 4) (pv 5)) (pa_cons (pe_callB call_len_str (by rfl) T.len (by decide +kernel) (pa_cons (pv 4) pa_nil)) pa_nil)))) (pv 7) (nomark _))))) (pss_one (ps_ret pe_bl)) pss_nil)
      (pss_cons (ps_if (pt_cmpR op_lt (C8.pe_c cX hr (by decide) (by rfl) (pa_cons (pv 3) (pa_cons (pe_op op_add_str (pv 4) (pv 5)) pa_nil))) pe_int (nomark _)) (pss_one (ps_ret pe_bl)) pss_nil)
      (pss_cons (ps_set (i := 8) scLw.nd rfl (Or.inl rfl) (C8.pe_c cT hr (by decide) (by rfl) (pa_cons (pv 1) (pa_cons (pv 2) (pa_cons pe_int pa_nil)))))
      (pss_cons (ps_if (pt_cmpR op_in_seq (pv 8) (pe_op op_cat (pe_lst (pa_cons pe_str pa_nil)) (pe_lc (own := [("_law_name", 10), ("_law_cost_here", 11)]) (by rfl) scLw.nd (pi_tup (pv 3))
          (blkOk_by (own := [("_law_name", 10), ("_law_cost_here", 11)]) (N := nLw) (sc := C8.fnScope sLaw) (by decide +kernel))
          (fun _ _ _ _ _ => pgT (K := K) (n := 2) rfl (by rfl) (pgs_cons (pg_name (i := 10) scLw.nd rfl (Or.inl rfl)) (pgs_cons (pg_name (i := 11) scLw.nd rfl (Or.inl rfl)) pgs_nil)))
          (fun _ _ _ _ _ => pts_nil) (fun _ _ _ _ _ => pv 10))) (by rfl)) (pss_one (ps_ret pe_bl)) pss_nil)
      (pss_cons (ps_set (i := 9) scLw.nd rfl (Or.inl rfl) (pe_callTy call_tuple_of (by rfl) T.tuple (by decide +kernel) (pa_cons (pe_callB (cr_sortW hr.units) (by rfl) T.sorted (by decide +kernel) (pa_cons (pe_op op_catT (pv 3)
          (pe_tup (pa_cons (pe_tup (pa_cons (pv 8) (pa_cons (pe_op op_add pe_int (C8.pe_c cN hr (by decide) (by rfl) (pa_cons (pv 1) (pa_cons pe_int pa_nil)))) pa_nil))) pa_nil))) pa_nil)) pa_nil)))
      (pss_one (ps_ret (pe_and (pe_cmpR op_le (C8.pe_c cL hr (by decide) (by rfl) (pa_cons (pv 9) (pa_cons (pe_op op_add_str (pv 4) (pv 5)) pa_nil))) (pv 6) (nomark _))
        (pe_one (pe_cmpR op_le (C8.pe_c cL hr (by decide) (by rfl) (pa_cons (pv 9) (pa_cons (pv 4) pa_nil))) (C8.pe_c cL hr (by decide) (by rfl) (pa_cons (pv 3) (pa_cons (pv 4) pa_nil))) (nomark _))))))))))))))))), ?_⟩
    -- the stream, the letters
    refine ⟨_, rfl, a0, ns, rfl, hS, fun st a H1 s1 hS1 => ?_⟩
    refine ⟨_, rfl, st, a, ns, 3, rfl, hS1, by omega, by omega, fun d H2 d0 d1 hS2 hB2 => ⟨_, _, rfl, rfl, _, rfl, _, rfl, (by rw [abc_S]; exact szS (by decide)), ?_⟩⟩
    have els : cutS (Str.ofString "abc") none (some (1 + d)) = S ([97, 98, 99].take (1 + d).toNat) := by
      rw [abc_S]
      exact cutS_to (j := (1 + d).toNat) (by omega) (by show (1 + d).toNat ≤ 3; omega)
    obtain ⟨ls, hls⟩ : ∃ ls : List Nat, ls = [97, 98, 99].take (1 + d).toNat := ⟨_, rfl⟩
    rw [← hls] at els
    have hsub : ls.Sublist [97, 98, 99] := by rw [hls]; exact List.take_sublist _ _
    have l1 : 1 ≤ ls.length := by rw [hls, List.length_take]; show 1 ≤ min _ 3; omega
    have l3 : ls.length ≤ 3 := hsub.length_le
    have lnd : ls.Nodup := hsub.nodup (by decide)
    have labc : ∀ c ∈ ls, c ∈ alph := fun c hc => abc_all c (hsub.mem hc)
    -- the words
    refine ⟨_, rfl, _, rfl, st, a, ns, ls, (by rw [els]; rfl), hS2, l1, l3, lnd, labc, fun p ws H3 hW3 W h7 hS3 hB3 => ?_⟩
    -- the texts
    refine ⟨_, rfl, _, rfl, st, a, ns, ls, 15, (by rw [els]; rfl), hS3, l1, l3, by omega, fun t H4 ht tl hS4 hB4 => ?_⟩
    refine ⟨_, rfl, _, rfl, st, a, ns, ls, 15, (by rw [els]; rfl), hS4, l1, l3, by omega, fun u H5 hu ul hS5 hB5 => ?_⟩
    have hW5 : WAt H5 p ws := (hW3.but hS3 hB4).but hS4 hB5
    have htu : ∀ c ∈ t ++ u, c ∈ ls := fun c hc => by
      rcases List.mem_append.mp hc with hc | hc
      · exact ht c hc
      · exact hu c hc
    have ltu : (t ++ u).length ≤ 30 := by rw [List.length_append]; omega
    have szt : (S t).length + (S u).length ≤ sizeLine := by
      rw [S_len, S_len]
      exact Nat.le_of_lt (small1000 (by omega))
    -- both, total
    refine ⟨_, rfl, _, rfl, _, rfl, _, _, rfl, rfl, szt, p, ls, ws, t ++ u, (by rw [S_cat]; rfl), hW5, W, ltu, htu, fun both H6 hb s6 => ?_⟩
    have hW6 := hW5.same s6
    refine ⟨_, rfl, _, rfl, p, ls, ws, t, rfl, hW6, W, by omega, ht, fun x1 H7 hx1 s7 => ⟨_, rfl, _, rfl, p, ls, ws, u, rfl, hW6.same s7, W, by omega, hu, fun y1 H8 hy1 s8 => ⟨_, _, rfl, rfl, ?_⟩⟩⟩
    have s68 := s7.trans s8
    have hW8 := hW6.same s68
    have hS8 := (hS5.same s6).same s68
    -- the first test
    have hle : both ≤ x1 + y1 := hb.both hx1 hy1
    refine ⟨_, rfl, _, rfl, _, _, rfl, rfl, _, rfl, ?_⟩
    rw [decide_eq_false (show ¬ x1 + y1 < both by omega)]
    refine iteF ?_
    refine ⟨_, rfl, _, rfl, _, rfl, _, _, rfl, rfl, szt, _, rfl, _, rfl, szS (by omega), p, ls, ws, t ++ u, t.length, (by rw [S_cat, sLen]; rfl), hW8, W, ltu, htu, by rw [List.length_append]; omega, fun x2 y2 H9 hx2 hy2 s9 => ?_⟩
    rw [List.take_left] at hx2
    rw [List.drop_left] at hy2
    have ex : x2 = x1 := hx2.eq hx1
    have ey : y2 = y1 := hy2.eq hy1
    subst ex ey
    refine ⟨_, rfl, rfl, _, rfl, iteNS rfl ?_⟩
    have hW9 := hW8.same s9
    have hS9 := hS8.same s9
    -- the waste
    refine ⟨_, rfl, _, rfl, _, rfl, _, _, rfl, rfl, szt, p, ls, ws, t ++ u, (by rw [S_cat]; rfl), hW9, W, ltu, htu, fun k H10 hk s10 => ⟨_, _, rfl, rfl, _, rfl, ?_⟩⟩
    rw [decide_eq_false (show ¬ k < 0 by omega)]
    refine iteF ?_
    have hW10 := hW9.same s10
    have hS10 := hS9.same s10
    -- one word more
    refine ⟨_, rfl, _, rfl, st, a, ns, ls, 4, (by rw [els]; rfl), hS10, l1, l3, by omega, fun v H11 hv vl hS11 hB11 => ?_⟩
    have hW11 : WAt H11 p ws := hW10.but hS10 hB11
    obtain ⟨bs, hp, hbs, hbm⟩ := id hW11
    have hbl : bs.length = ws.length := by rw [← hbs, List.length_map]
    refine ⟨_, rfl, (by show 1 ≤ sizeLine; decide), fun l1 hl1 => ?_⟩
    have sl1 : Same H11 (upd H11 l1 (.lst [.str (Str.ofString "")])) := sameU hl1
    have hp1 := sl1 _ _ hp
    refine ⟨_, rfl, p, rfl, ⟨_, SqT.of hp1⟩, fun D hD => lc_outT (xs := bs.map fun b => V.ref b.1) (fun i => (ws.map fun e => V.str (S e.1)).take i) hD (SqT.of hp1) rfl (fun i hi => ?_) (fun i x G hi sm Qy Qn hy hq => ?_) (fun G sG eG => ?_)⟩
    · rw [List.length_take]
      rw [List.length_map] at hi
      exact small1000 (by omega)
    · obtain ⟨e, he, rfl⟩ := getMap hi
      have hm : e ∈ bs := List.mem_of_getElem? he
      have hw : ws[i]? = some e.2 := by rw [← hbs, List.getElem?_map, he]; rfl
      exact ⟨e.1, _, rfl, SqT.of (sm _ _ (sl1 _ _ (hbm e hm))), rfl, _, _, rfl, _, _, rfl, rfl, rfl, _, rfl, hy _ _ (take_snoc (by rw [List.getElem?_map, hw]; rfl)) (Same.refl _)⟩
    · rw [List.length_map, List.take_of_length_le (by rw [List.length_map]; omega)] at eG
      refine ⟨l1, D, _, _, rfl, rfl, sG _ _ upd_same, eG, ?_, fun r hr => ?_⟩
      · rw [List.length_map]
        show 1 + ws.length ≤ sizeLine
        exact Nat.le_of_lt (small1000 (by omega))
      have esr : [V.str (Str.ofString "")] ++ (ws.map fun e => V.str (S e.1)) = ([] :: ws.map (·.1)).map fun x => V.str (S x) := by
        rw [nil_S, List.map_cons, List.map_map]
        rfl
      refine ⟨r, _, rfl, .inl (SqL.of upd_same), rfl, (by rw [esr]; exact flat_strs _), _, rfl, ?_⟩
      show if inV (.str (S v)) ([V.str (Str.ofString "")] ++ (ws.map fun e => V.str (S e.1))) = true then _ else _
      rw [esr, inV_strs]
      refine ite2 (fun _ => q _) (fun hnv => ?_)
      have hv0 : v ≠ [] := fun e => hnv (decide_eq_true (by rw [e]; exact List.mem_cons_self ..))
      have hvn : v ∉ ws.map (·.1) := fun e => hnv (decide_eq_true (List.mem_cons_of_mem _ e))
      have hv1 : 1 ≤ v.length := List.length_pos_iff.mpr hv0
      have sR := (sl1.trans sG).trans (sameU (o := .lst (([] :: ws.map (·.1)).map fun x => V.str (S x))) hr)
      have hW12 := hW11.same sR
      have hS12 := hS11.same sR
      -- the new list
      refine ⟨_, rfl, _, rfl, _, rfl, st, a, ns, 9, rfl, hS12, by omega, by omega, fun e H13 e0 e1 hS13 hB13 => ⟨_, _, rfl, rfl, (by show 2 ≤ sizeLine; decide), fun t1 ht1 => ⟨(by show 1 ≤ sizeLine; decide), fun t2 ht2 => ?_⟩⟩⟩
      have hW13 := hW12.but hS12 hB13
      have sT1 := sameU (o := .tup [.str (S v), .int (1 + e)]) ht1
      have sT2 := sameU (o := .tup [.ref t1]) ht2
      have hWt := hW13.same (sT1.trans sT2)
      have et1 := sT2 _ _ (upd_same (H := H13) (a := t1) (o := .tup [.str (S v), .int (1 + e)]))
      obtain ⟨cs, hcp, hcs, hcm⟩ := id hWt
      have hcl : cs.length = ws.length := by rw [← hcs, List.length_map]
      refine ⟨p, t2, _, _, rfl, rfl, SqT.of hcp, SqT.of upd_same, ?_, ?_, fun h => absurd h (List.cons_ne_nil _ _), fun _ w1 hw1 => ?_⟩
      · intro h
        have z : cs.length = 0 := by
          have z := congrArg List.length h
          rw [List.length_map] at z
          exact z
        have := W.l1
        omega
      · rw [List.length_map]
        show cs.length + 1 ≤ sizeLine
        exact Nat.le_of_lt (small1000 (by omega))
      have sW := sameU (o := .tup ((cs.map fun b => V.ref b.1) ++ [.ref t1])) hw1
      refine ⟨w1, cs ++ [(t1, (v, 1 + e))], rfl, .inr (SqT.of (by rw [upd_same, List.map_append]; rfl)), fun b hb => ?_, fun ds z1 hperm hsort hz1 => ⟨z1, _, rfl, .inl ⟨SqL.of upd_same, fun m hm => ?_⟩⟩⟩
      · rcases List.mem_append.mp hb with hb | hb
        · exact sW _ _ (hcm b hb)
        · rw [List.mem_singleton.mp hb]
          exact sW _ _ et1
      have sZ := (sW.trans (sameU (o := .lst (ds.map fun b => V.ref b.1)) hz1)).trans (sameU (o := .tup (ds.map fun b => V.ref b.1)) hm)
      have hpm : (ds.map (·.2)).Perm (ws ++ [(v, 1 + e)]) := by
        have z := hperm.map (·.2)
        rw [List.map_append, hcs] at z
        exact z
      have hWm : WAt (upd (upd (upd (upd (upd H13 t1 (.tup [.str (S v), .int (1 + e)])) t2 (.tup [.ref t1])) w1 (.tup ((cs.map fun b => V.ref b.1) ++ [.ref t1]))) z1 (.lst (ds.map fun b => V.ref b.1))) m (.tup (ds.map fun b => V.ref b.1))) m (ds.map (·.2)) := by
        refine ⟨ds, upd_same, rfl, fun b hb => ?_⟩
        rcases List.mem_append.mp (hperm.mem_iff.mp hb) with hb | hb
        · exact sZ _ _ (hcm b hb)
        · rw [List.mem_singleton.mp hb]
          exact sZ _ _ et1
      have WM : WL ls (ds.map (·.2)) := W.put h7 hvn hv1 vl hv (by omega) (by omega) hpm (by rw [List.pairwise_map]; exact hsort)
      have hsubw : ∀ x ∈ ws, x ∈ ds.map (·.2) := fun x hx => hpm.mem_iff.mpr (List.mem_append_left _ hx)
      have hWo := hWt.same sZ
      -- the end
      refine ⟨_, rfl, _, rfl, _, rfl, _, _, rfl, rfl, szt, m, ls, ds.map (·.2), t ++ u, (by rw [S_cat]; rfl), hWm, WM, ltu, htu, fun k1 G1 hk1 g1 => ⟨_, rfl, _, _, rfl, rfl, true, ?_, iteT ?_⟩⟩
      · exact congrArg V.bl (decide_eq_true (hb.more hsubw hk1))
      · refine ⟨_, rfl, _, rfl, m, ls, ds.map (·.2), t, rfl, hWm.same g1, WM, by omega, ht, fun k2 G2 hk2 g2 => ⟨_, rfl, _, rfl, p, ls, ws, t, rfl, hWo.same (g1.trans g2), W, by omega, ht, fun k3 G3 hk3 g3 => ⟨_, _, rfl, rfl, ?_⟩⟩⟩
        show Q (.bl (decide (k2 ≤ k3))) G3
        rw [decide_eq_true (hk3.more hsubw hk2)]
        exact q _
end
end GC

/-! What the top has written, and the last theorem. -/
namespace GC
open PySem PySem.Spec PyProof.Rows L2 SX
/-- a def of the module, by what stands at its address -/
structure At (K : PySem.W.Frag) (x : Str) (st : Stmt) (f : Addr) (kV doc pm cdv ct : Value) (an : Option Addr) : Prop where
  ex : ∃ (oc : Value) (od : Option Addr) (osl : Array (Option Value)), K.lookup f = some ⟨oc, od, .func (PySem.W.fnOf x x (C8.fnArgs st) (C8.fnBody st) (C8.fnScope st) .none kV doc pm an cdv ct), osl⟩
  cd : PySem.W.codeIn K cdv x = true
  kp : PySem.W.keepIn K (.ref f) = true
theorem at_mk {K : PySem.W.Frag} {x : Str} {st : Stmt} {f : Addr} {kV doc pm cdv ct oc : Value} {an od : Option Addr} {osl : Array (Option Value)} (l : K.lookup f = some ⟨oc, od, .func (PySem.W.fnOf x x (C8.fnArgs st) (C8.fnBody st) (C8.fnScope st) .none kV doc pm an cdv ct), osl⟩)
    (c : PySem.W.codeIn K cdv x = true) (k : PySem.W.keepIn K (.ref f) = true) : At K x st f kV doc pm cdv ct an := ⟨⟨oc, od, osl, l⟩, c, k⟩
theorem At.df {K : PySem.W.Frag} {mg : Str → Option Value} {x : Str} {st : Stmt} {f : Addr} {kV doc pm cdv ct : Value} {an : Option Addr} (A : At K x st f kV doc pm cdv ct an) (m : mg x = some (.ref f)) :
    C8.Def K mg x st f (PySem.W.fnOf x x (C8.fnArgs st) (C8.fnBody st) (C8.fnScope st) .none kV doc pm an cdv ct) := by
  obtain ⟨oc, od, osl, l⟩ := A.ex
  exact ⟨⟨oc, od, .none, kV, doc, pm, an, cdv, ct, osl, rfl, l, A.cd⟩, m, A.kp⟩
theorem all_mk {P : Program} {w : World} {K : PySem.W.Frag} {h : Heap} {mg : Str → Option Value} {fa f0 f1 f2 f3 f4 f5 f6 f7 f8 f9 f10 f11 f12 f13 f14 f15 f16 f17 f18 f19 f20 f21 f22 f23 f24 f25 : Addr} (X : K.In h) (G : h.Ns mainGlobals mg) (hfa : mg "law" = some (.ref fa))
    {an0 an1 an2 an3 an4 an5 an6 an7 an8 an9 an10 an11 an12 an13 an14 an15 an16 an17 an18 an19 an20 an21 an22 an23 an24 an25 : Option Addr} {kV0 dc0 pm0 cd0 ct0 kV1 dc1 pm1 cd1 ct1 kV2 dc2 pm2 cd2 ct2 kV3 dc3 pm3 cd3 ct3 kV4 dc4 pm4 cd4 ct4 kV5 dc5 pm5 cd5 ct5 kV6 dc6 pm6 cd6 ct6 kV7 dc7 pm7 cd7 ct7 kV8 dc8 pm8 cd8 ct8 kV9 dc9 pm9 cd9 ct9 kV10 dc10 pm10 cd10 ct10 kV11 dc11 pm11 cd11 ct11 kV12 dc12 pm12 cd12 ct12 kV13 dc13 pm13 cd13 ct13 kV14 dc14 pm14 cd14 ct14 kV15 dc15 pm15 cd15 ct15 kV16 dc16 pm16 cd16 ct16 kV17 dc17 pm17 cd17 ct17 kV18 dc18 pm18 cd18 ct18 kV19 dc19 pm19 cd19 ct19 kV20 dc20 pm20 cd20 ct20 kV21 dc21 pm21 cd21 ct21 kV22 dc22 pm22 cd22 ct22 kV23 dc23 pm23 cd23 ct23 kV24 dc24 pm24 cd24 ct24 kV25 dc25 pm25 cd25 ct25 : Value} {u0 u1 u2 u3 u4 : Tok}
    (a0 : PySem.W.nsIn K mainGlobals "is_between" = some (some (.ref f0))) (d0 : At K "is_between" sBetween f0 kV0 dc0 pm0 cd0 ct0 an0)
    (a1 : PySem.W.nsIn K mainGlobals "is_word" = some (some (.ref f1))) (d1 : At K "is_word" sWord f1 kV1 dc1 pm1 cd1 ct1 an1)
    (a2 : PySem.W.nsIn K mainGlobals "is_entry" = some (some (.ref f2))) (d2 : At K "is_entry" sEntry f2 kV2 dc2 pm2 cd2 ct2 an2)
    (a3 : PySem.W.nsIn K mainGlobals "is_list" = some (some (.ref f3))) (d3 : At K "is_list" sList f3 kV3 dc3 pm3 cd3 ct3 an3)
    (a4 : PySem.W.nsIn K mainGlobals "check_list" = some (some (.ref f4))) (d4 : At K "check_list" sChkList f4 kV4 dc4 pm4 cd4 ct4 an4)
    (a5 : PySem.W.nsIn K mainGlobals "letters_in" = some (some (.ref f5))) (d5 : At K "letters_in" sLetters f5 kV5 dc5 pm5 cd5 ct5 an5)
    (a6 : PySem.W.nsIn K mainGlobals "is_text_of" = some (some (.ref f6))) (d6 : At K "is_text_of" sTextOf f6 kV6 dc6 pm6 cd6 ct6 an6)
    (a7 : PySem.W.nsIn K mainGlobals "is_text" = some (some (.ref f7))) (d7 : At K "is_text" sIsText f7 kV7 dc7 pm7 cd7 ct7 an7)
    (a8 : PySem.W.nsIn K mainGlobals "names_in" = some (some (.ref f8))) (d8 : At K "names_in" sNames f8 kV8 dc8 pm8 cd8 ct8 an8)
    (a9 : PySem.W.nsIn K mainGlobals "cost_in" = some (some (.ref f9))) (d9 : At K "cost_in" sCostIn f9 kV9 dc9 pm9 cd9 ct9 an9)
    (a10 : PySem.W.nsIn K mainGlobals "words_from" = some (some (.ref f10))) (d10 : At K "words_from" sFrom f10 kV10 dc10 pm10 cd10 ct10 an10)
    (a11 : PySem.W.nsIn K mainGlobals "longest_from" = some (some (.ref f11))) (d11 : At K "longest_from" sLongest f11 kV11 dc11 pm11 cd11 ct11 an11)
    (a12 : PySem.W.nsIn K mainGlobals "match_of" = some (some (.ref f12))) (d12 : At K "match_of" sMatch f12 kV12 dc12 pm12 cd12 ct12 an12)
    (a13 : PySem.W.nsIn K mainGlobals "cost_of_row" = some (some (.ref f13))) (d13 : At K "cost_of_row" sRowCost f13 kV13 dc13 pm13 cd13 ct13 an13)
    (a14 : PySem.W.nsIn K mainGlobals "check_text" = some (some (.ref f14))) (d14 : At K "check_text" sChkText f14 kV14 dc14 pm14 cd14 ct14 an14)
    (a15 : PySem.W.nsIn K mainGlobals "costs_ahead" = some (some (.ref f15))) (d15 : At K "costs_ahead" sAhead f15 kV15 dc15 pm15 cd15 ct15 an15)
    (a16 : PySem.W.nsIn K mainGlobals "costs_behind" = some (some (.ref f16))) (d16 : At K "costs_behind" sBehind f16 kV16 dc16 pm16 cd16 ct16 an16)
    (a17 : PySem.W.nsIn K mainGlobals "least_of" = some (some (.ref f17))) (d17 : At K "least_of" sLeastOf f17 kV17 dc17 pm17 cd17 ct17 an17)
    (a18 : PySem.W.nsIn K mainGlobals "least_cost" = some (some (.ref f18))) (d18 : At K "least_cost" sLeast f18 kV18 dc18 pm18 cd18 ct18 an18)
    (a19 : PySem.W.nsIn K mainGlobals "waste" = some (some (.ref f19))) (d19 : At K "waste" sWaste f19 kV19 dc19 pm19 cd19 ct19 an19)
    (a20 : PySem.W.nsIn K mainGlobals "cost_through" = some (some (.ref f20))) (d20 : At K "cost_through" sThrough f20 kV20 dc20 pm20 cd20 ct20 an20)
    (a21 : PySem.W.nsIn K mainGlobals "_law_stream" = some (some (.ref f21))) (d21 : At K "_law_stream" sStream f21 kV21 dc21 pm21 cd21 ct21 an21)
    (a22 : PySem.W.nsIn K mainGlobals "_law_next" = some (some (.ref f22))) (d22 : At K "_law_next" sNext f22 kV22 dc22 pm22 cd22 ct22 an22)
    (a23 : PySem.W.nsIn K mainGlobals "_law_words" = some (some (.ref f23))) (d23 : At K "_law_words" sWords f23 kV23 dc23 pm23 cd23 ct23 an23)
    (a24 : PySem.W.nsIn K mainGlobals "_law_text" = some (some (.ref f24))) (d24 : At K "_law_text" sText f24 kV24 dc24 pm24 cd24 ct24 an24)
    (a25 : PySem.W.nsIn K mainGlobals "law" = some (some (.ref f25))) (d25 : At K "law" sLaw f25 kV25 dc25 pm25 cd25 ct25 an25)
    (z0 : PySem.W.nsIn K mainGlobals "isinstance" = some none)
    (z1 : PySem.W.nsIn K mainGlobals "int" = some none)
    (z2 : PySem.W.nsIn K mainGlobals "bool" = some none)
    (z3 : PySem.W.nsIn K mainGlobals "str" = some none)
    (z4 : PySem.W.nsIn K mainGlobals "tuple" = some none)
    (z5 : PySem.W.nsIn K mainGlobals "list" = some none)
    (z6 : PySem.W.nsIn K mainGlobals "len" = some none)
    (z7 : PySem.W.nsIn K mainGlobals "all" = some none)
    (z8 : PySem.W.nsIn K mainGlobals "min" = some none)
    (z9 : PySem.W.nsIn K mainGlobals "sum" = some none)
    (z10 : PySem.W.nsIn K mainGlobals "abs" = some none)
    (z11 : PySem.W.nsIn K mainGlobals "range" = some none)
    (z12 : PySem.W.nsIn K mainGlobals "sorted" = some none)
    (c0 : PySem.W.nsIn K mainGlobals "ALPHABET" = some (some (.str (S alph) u0)))
    (c1 : PySem.W.nsIn K mainGlobals "LONGEST" = some (some (.int 4 u1)))
    (c2 : PySem.W.nsIn K mainGlobals "MOST_WORDS" = some (some (.int 8 u2)))
    (c3 : PySem.W.nsIn K mainGlobals "MOST_COST" = some (some (.int 9 u3)))
    (c4 : PySem.W.nsIn K mainGlobals "MOST_LETTERS" = some (some (.int 30 u4)))
    : ∃ fd : FuncData, (∀ (s : Shared) (v : Value), BindsTo s fd ⟨[v], []⟩ [("_law_script", v)]) ∧ ∀ base : Heap, K.In base → base.Ns mainGlobals mg → FnOk P w K mg base C8.CX0 8 fa fd ["_law_script"] (spLaw K) := by
  have e := hfa.symm.trans (PySem.W.mg_of X G a25)
  cases e
  have T : Txt mg := ⟨PySem.W.mg_none_of X G z0, PySem.W.mg_none_of X G z1, PySem.W.mg_none_of X G z2, PySem.W.mg_none_of X G z3, PySem.W.mg_none_of X G z4, PySem.W.mg_none_of X G z5, PySem.W.mg_none_of X G z6, PySem.W.mg_none_of X G z7, PySem.W.mg_none_of X G z8, PySem.W.mg_none_of X G z9, PySem.W.mg_none_of X G z10, PySem.W.mg_none_of X G z11, PySem.W.mg_none_of X G z12, ⟨_, PySem.W.mg_of X G c0, ⟨_, rfl⟩⟩, ⟨_, PySem.W.mg_of X G c1, ⟨_, rfl⟩⟩, ⟨_, PySem.W.mg_of X G c2, ⟨_, rfl⟩⟩, ⟨_, PySem.W.mg_of X G c3, ⟨_, rfl⟩⟩, ⟨_, PySem.W.mg_of X G c4, ⟨_, rfl⟩⟩⟩
  refine ⟨PySem.W.fnOf "law" "law" (C8.fnArgs sLaw) (C8.fnBody sLaw) (C8.fnScope sLaw) .none kV25 dc25 pm25 an25 cd25 ct25, fun s v => .of_eq rfl, fun base _ _ => ?_⟩
  have F0 := d0.df (PySem.W.mg_of X G a0)
  have b0 := C8.Fun.binds F0.fn rfl (ps := ["value", "low", "high"]) fun _ _ _ _ _ _ us hl => match us, hl with | [_, _, _], _ => rfl
  have k0 := ok_between (P := P) (w := w) (base := base) F0 b0 T
  have F1 := d1.df (PySem.W.mg_of X G a1)
  have b1 := C8.Fun.binds F1.fn rfl (ps := ["value"]) fun _ _ _ _ _ _ us hl => match us, hl with | [_], _ => rfl
  have k1 := ok_word (P := P) (w := w) (base := base) F1 b1 T
  have F2 := d2.df (PySem.W.mg_of X G a2)
  have b2 := C8.Fun.binds F2.fn rfl (ps := ["value"]) fun _ _ _ _ _ _ us hl => match us, hl with | [_], _ => rfl
  have k2 := ok_entry (P := P) (w := w) (base := base) F2 b2 T k1 k0
  have F3 := d3.df (PySem.W.mg_of X G a3)
  have b3 := C8.Fun.binds F3.fn rfl (ps := ["value"]) fun _ _ _ _ _ _ us hl => match us, hl with | [_], _ => rfl
  have k3 := ok_list (P := P) (w := w) (base := base) F3 b3 T k2
  have F4 := d4.df (PySem.W.mg_of X G a4)
  have b4 := C8.Fun.binds F4.fn rfl (ps := ["words"]) fun _ _ _ _ _ _ us hl => match us, hl with | [_], _ => rfl
  have k4 := ok_chkList (P := P) (w := w) (base := base) F4 b4 k3
  have F5 := d5.df (PySem.W.mg_of X G a5)
  have b5 := C8.Fun.binds F5.fn rfl (ps := ["words"]) fun _ _ _ _ _ _ us hl => match us, hl with | [_], _ => rfl
  have k5 := ok_letters (P := P) (w := w) (base := base) F5 b5 T
  have F6 := d6.df (PySem.W.mg_of X G a6)
  have b6 := C8.Fun.binds F6.fn rfl (ps := ["words", "value"]) fun _ _ _ _ _ _ us hl => match us, hl with | [_, _], _ => rfl
  have k6 := ok_textOf (P := P) (w := w) (base := base) F6 b6 T k5
  have F7 := d7.df (PySem.W.mg_of X G a7)
  have b7 := C8.Fun.binds F7.fn rfl (ps := ["words", "value"]) fun _ _ _ _ _ _ us hl => match us, hl with | [_, _], _ => rfl
  have k7 := ok_isText (P := P) (w := w) (base := base) F7 b7 k4 k6
  have F8 := d8.df (PySem.W.mg_of X G a8)
  have b8 := C8.Fun.binds F8.fn rfl (ps := ["words"]) fun _ _ _ _ _ _ us hl => match us, hl with | [_], _ => rfl
  have k8 := ok_names (P := P) (w := w) (base := base) F8 b8 
  have F9 := d9.df (PySem.W.mg_of X G a9)
  have b9 := C8.Fun.binds F9.fn rfl (ps := ["words", "word"]) fun _ _ _ _ _ _ us hl => match us, hl with | [_, _], _ => rfl
  have k9 := ok_costIn (P := P) (w := w) (base := base) F9 b9 
  have F10 := d10.df (PySem.W.mg_of X G a10)
  have b10 := C8.Fun.binds F10.fn rfl (ps := ["words", "text", "index"]) fun _ _ _ _ _ _ us hl => match us, hl with | [_, _, _], _ => rfl
  have k10 := ok_from (P := P) (w := w) (base := base) F10 b10 T k8
  have F11 := d11.df (PySem.W.mg_of X G a11)
  have b11 := C8.Fun.binds F11.fn rfl (ps := ["words", "text", "index"]) fun _ _ _ _ _ _ us hl => match us, hl with | [_, _, _], _ => rfl
  have k11 := ok_longest (P := P) (w := w) (base := base) F11 b11 k10
  have F12 := d12.df (PySem.W.mg_of X G a12)
  have b12 := C8.Fun.binds F12.fn rfl (ps := ["words", "text"]) fun _ _ _ _ _ _ us hl => match us, hl with | [_, _], _ => rfl
  have k12 := ok_match (P := P) (w := w) (base := base) F12 b12 T k11
  have F13 := d13.df (PySem.W.mg_of X G a13)
  have b13 := C8.Fun.binds F13.fn rfl (ps := ["words", "row"]) fun _ _ _ _ _ _ us hl => match us, hl with | [_, _], _ => rfl
  have k13 := ok_rowCost (P := P) (w := w) (base := base) F13 b13 T k9
  have F14 := d14.df (PySem.W.mg_of X G a14)
  have b14 := C8.Fun.binds F14.fn rfl (ps := ["words", "text"]) fun _ _ _ _ _ _ us hl => match us, hl with | [_, _], _ => rfl
  have k14 := ok_chkText (P := P) (w := w) (base := base) F14 b14 k3 k7
  have F15 := d15.df (PySem.W.mg_of X G a15)
  have b15 := C8.Fun.binds F15.fn rfl (ps := ["words", "text"]) fun _ _ _ _ _ _ us hl => match us, hl with | [_, _], _ => rfl
  have k15 := ok_ahead (P := P) (w := w) (base := base) F15 b15 T
  have F16 := d16.df (PySem.W.mg_of X G a16)
  have b16 := C8.Fun.binds F16.fn rfl (ps := ["words", "text"]) fun _ _ _ _ _ _ us hl => match us, hl with | [_, _], _ => rfl
  have k16 := ok_behind (P := P) (w := w) (base := base) F16 b16 T k15
  have F17 := d17.df (PySem.W.mg_of X G a17)
  have b17 := C8.Fun.binds F17.fn rfl (ps := ["words", "text"]) fun _ _ _ _ _ _ us hl => match us, hl with | [_, _], _ => rfl
  have k17 := ok_leastOf (P := P) (w := w) (base := base) F17 b17 k15
  have F18 := d18.df (PySem.W.mg_of X G a18)
  have b18 := C8.Fun.binds F18.fn rfl (ps := ["words", "text"]) fun _ _ _ _ _ _ us hl => match us, hl with | [_, _], _ => rfl
  have k18 := ok_least (P := P) (w := w) (base := base) F18 b18 k14 k17
  have F19 := d19.df (PySem.W.mg_of X G a19)
  have b19 := C8.Fun.binds F19.fn rfl (ps := ["words", "text"]) fun _ _ _ _ _ _ us hl => match us, hl with | [_, _], _ => rfl
  have k19 := ok_waste (P := P) (w := w) (base := base) F19 b19 k14 k13 k12 k17
  have F20 := d20.df (PySem.W.mg_of X G a20)
  have b20 := C8.Fun.binds F20.fn rfl (ps := ["words", "text", "index"]) fun _ _ _ _ _ _ us hl => match us, hl with | [_, _, _], _ => rfl
  have k20 := ok_through (P := P) (w := w) (base := base) F20 b20 T k14 k15 k16
  have F21 := d21.df (PySem.W.mg_of X G a21)
  have b21 := C8.Fun.binds F21.fn rfl (ps := ["_law_script"]) fun _ _ _ _ _ _ us hl => match us, hl with | [_], _ => rfl
  have k21 := ok_stream (P := P) (w := w) (base := base) F21 b21 T
  have F22 := d22.df (PySem.W.mg_of X G a22)
  have b22 := C8.Fun.binds F22.fn rfl (ps := ["_law_stream_here", "_law_many"]) fun _ _ _ _ _ _ us hl => match us, hl with | [_, _], _ => rfl
  have k22 := ok_next (P := P) (w := w) (base := base) F22 b22 T
  have F23 := d23.df (PySem.W.mg_of X G a23)
  have b23 := C8.Fun.binds F23.fn rfl (ps := ["_law_stream_here", "_law_letters", "_law_most"]) fun _ _ _ _ _ _ us hl => match us, hl with | [_, _, _], _ => rfl
  have k23 := ok_words (P := P) (w := w) (base := base) F23 b23 T k22
  have F24 := d24.df (PySem.W.mg_of X G a24)
  have b24 := C8.Fun.binds F24.fn rfl (ps := ["_law_stream_here", "_law_letters", "_law_most"]) fun _ _ _ _ _ _ us hl => match us, hl with | [_, _, _], _ => rfl
  have k24 := ok_text (P := P) (w := w) (base := base) F24 b24 T k22
  exact ok_law (d25.df (PySem.W.mg_of X G a25)) T k21 k22 k23 k24 k18 k20 k19
end GC
open PySem PySem.W PyProof.Rows
set_option maxRecDepth 100000 in
set_option maxHeartbeats 0 in
theorem PySem.Challenge.cw_greedycuts_k32_whole_joined_texts_holds : PySem.Challenge.rw_greedycuts_k32_whole_joined_texts.Holds := by
  w_on; o_law; k_head; (case hw => w_witness2)
  k_fill
  refine L2.walk_ofK (l := PySem.Challenge.rw_greedycuts_k32_whole_joined_texts) (n := 63) (k := 8) (x := "_law_script") (CX := C8.CX0) (sp := GC.spLaw) rfl (by decide) rfl ⟨rfl, by decide, by decide⟩ (fun w h Y => PySem.W.kIn_of Y) ?F (fun _ _ a ns _ _ hS => ⟨a, ns, rfl, hS, fun _ => rfl⟩) (fun _ _ _ _ h => h)
  case F =>
    intro w mg fa h KX G hmg
    refine' GC.all_mk KX G hmg ?a0 (GC.at_mk ?l0 ?c0 ?k0) ?a1 (GC.at_mk ?l1 ?c1 ?k1) ?a2 (GC.at_mk ?l2 ?c2 ?k2) ?a3 (GC.at_mk ?l3 ?c3 ?k3) ?a4 (GC.at_mk ?l4 ?c4 ?k4) ?a5 (GC.at_mk ?l5 ?c5 ?k5) ?a6 (GC.at_mk ?l6 ?c6 ?k6) ?a7 (GC.at_mk ?l7 ?c7 ?k7) ?a8 (GC.at_mk ?l8 ?c8 ?k8) ?a9 (GC.at_mk ?l9 ?c9 ?k9) ?a10 (GC.at_mk ?l10 ?c10 ?k10) ?a11 (GC.at_mk ?l11 ?c11 ?k11) ?a12 (GC.at_mk ?l12 ?c12 ?k12) ?a13 (GC.at_mk ?l13 ?c13 ?k13) ?a14 (GC.at_mk ?l14 ?c14 ?k14) ?a15 (GC.at_mk ?l15 ?c15 ?k15) ?a16 (GC.at_mk ?l16 ?c16 ?k16) ?a17 (GC.at_mk ?l17 ?c17 ?k17) ?a18 (GC.at_mk ?l18 ?c18 ?k18) ?a19 (GC.at_mk ?l19 ?c19 ?k19) ?a20 (GC.at_mk ?l20 ?c20 ?k20) ?a21 (GC.at_mk ?l21 ?c21 ?k21) ?a22 (GC.at_mk ?l22 ?c22 ?k22) ?a23 (GC.at_mk ?l23 ?c23 ?k23) ?a24 (GC.at_mk ?l24 ?c24 ?k24) ?a25 (GC.at_mk ?l25 ?c25 ?k25) ?z0 ?z1 ?z2 ?z3 ?z4 ?z5 ?z6 ?z7 ?z8 ?z9 ?z10 ?z11 ?z12 ?q0 ?q1 ?q2 ?q3 ?q4
    (case a0 => k_is)
    (case l0 => k_is)
    (case c0 => k_is)
    (case k0 => k_is)
    (case a1 => k_is)
    (case l1 => k_is)
    (case c1 => k_is)
    (case k1 => k_is)
    (case a2 => k_is)
    (case l2 => k_is)
    (case c2 => k_is)
    (case k2 => k_is)
    (case a3 => k_is)
    (case l3 => k_is)
    (case c3 => k_is)
    (case k3 => k_is)
    (case a4 => k_is)
    (case l4 => k_is)
    (case c4 => k_is)
    (case k4 => k_is)
    (case a5 => k_is)
    (case l5 => k_is)
    (case c5 => k_is)
    (case k5 => k_is)
    (case a6 => k_is)
    (case l6 => k_is)
    (case c6 => k_is)
    (case k6 => k_is)
    (case a7 => k_is)
    (case l7 => k_is)
    (case c7 => k_is)
    (case k7 => k_is)
    (case a8 => k_is)
    (case l8 => k_is)
    (case c8 => k_is)
    (case k8 => k_is)
    (case a9 => k_is)
    (case l9 => k_is)
    (case c9 => k_is)
    (case k9 => k_is)
    (case a10 => k_is)
    (case l10 => k_is)
    (case c10 => k_is)
    (case k10 => k_is)
    (case a11 => k_is)
    (case l11 => k_is)
    (case c11 => k_is)
    (case k11 => k_is)
    (case a12 => k_is)
    (case l12 => k_is)
    (case c12 => k_is)
    (case k12 => k_is)
    (case a13 => k_is)
    (case l13 => k_is)
    (case c13 => k_is)
    (case k13 => k_is)
    (case a14 => k_is)
    (case l14 => k_is)
    (case c14 => k_is)
    (case k14 => k_is)
    (case a15 => k_is)
    (case l15 => k_is)
    (case c15 => k_is)
    (case k15 => k_is)
    (case a16 => k_is)
    (case l16 => k_is)
    (case c16 => k_is)
    (case k16 => k_is)
    (case a17 => k_is)
    (case l17 => k_is)
    (case c17 => k_is)
    (case k17 => k_is)
    (case a18 => k_is)
    (case l18 => k_is)
    (case c18 => k_is)
    (case k18 => k_is)
    (case a19 => k_is)
    (case l19 => k_is)
    (case c19 => k_is)
    (case k19 => k_is)
    (case a20 => k_is)
    (case l20 => k_is)
    (case c20 => k_is)
    (case k20 => k_is)
    (case a21 => k_is)
    (case l21 => k_is)
    (case c21 => k_is)
    (case k21 => k_is)
    (case a22 => k_is)
    (case l22 => k_is)
    (case c22 => k_is)
    (case k22 => k_is)
    (case a23 => k_is)
    (case l23 => k_is)
    (case c23 => k_is)
    (case k23 => k_is)
    (case a24 => k_is)
    (case l24 => k_is)
    (case c24 => k_is)
    (case k24 => k_is)
    (case a25 => k_is)
    (case l25 => k_is)
    (case c25 => k_is)
    (case k25 => k_is)
    (case z0 => k_is)
    (case z1 => k_is)
    (case z2 => k_is)
    (case z3 => k_is)
    (case z4 => k_is)
    (case z5 => k_is)
    (case z6 => k_is)
    (case z7 => k_is)
    (case z8 => k_is)
    (case z9 => k_is)
    (case z10 => k_is)
    (case z11 => k_is)
    (case z12 => k_is)
    (case q0 => k_is)
    (case q1 => k_is)
    (case q2 => k_is)
    (case q3 => k_is)
    (case q4 => k_is)
#print axioms PySem.Challenge.cw_greedycuts_k32_whole_joined_texts_holds
