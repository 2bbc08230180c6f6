import PyProof.Rows.All
import Wide.All
import OpenK.AllK
import Wide.FinOn
import HandS.ForMost
import HandS.Base
import HandS.Call
import HandS.Codes
import HandS.Conv
import HandS.Deep
import HandS.Flow
import HandS.IsInst
import HandS.List
import HandS.Set
import HandS.SetFor
import HandS.SetKeys
import HandS.TupAny
import HandS.Wide
import KE.DataEq
import KE.KxText
import KE.SortData
import PySem.Challenge.RW_sumshare_k66_whole_unlike_marks_of_trees
set_option Elab.async false
section
set_option autoImplicit false
set_option linter.all false
namespace Uk
/-! ### lists without repetition -/
theorem nd_le {α : Type} [DecidableEq α] : ∀ {l l' : List α}, l.Nodup → (∀ x ∈ l, x ∈ l') → l.length ≤ l'.length
  | [], _, _, _ => Nat.zero_le _
  | a :: r, l', nd, h => by
    obtain ⟨h1, h2⟩ := List.nodup_cons.mp nd
    have ha : a ∈ l' := h a List.mem_cons_self
    have q := nd_le (l := r) (l' := l'.erase a) h2 fun x hx => by
      have hne : x ≠ a := fun e => h1 (e ▸ hx)
      exact (List.mem_erase_of_ne hne).mpr (h x (List.mem_cons_of_mem _ hx))
    have e := List.length_erase_of_mem ha
    have pos := List.length_pos_of_mem ha
    rw [List.length_cons]
    omega
theorem nd_append {α : Type} {a b : List α} (ha : a.Nodup) (hb : b.Nodup) (hd : ∀ x ∈ a, x ∉ b) : (a ++ b).Nodup :=
  List.nodup_append.mpr ⟨ha, hb, fun x hx y hy e => hd x hx (e ▸ hy)⟩
theorem nd_snoc {α : Type} {l : List α} {k : α} (h : l.Nodup) (hk : k ∉ l) : (l ++ [k]).Nodup :=
  nd_append h (by simp) fun x hx hm => hk ((List.mem_singleton.mp hm) ▸ hx)
theorem nd_filter {α : Type} {l : List α} (p : α → Bool) (h : l.Nodup) : (l.filter p).Nodup := List.Pairwise.filter _ h
theorem nd_ix {α : Type} {l : List α} (hN : l.Nodup) {i j : Nat} {x : α} (a : l[i]? = some x) (b : l[j]? = some x) : i = j := by
  obtain ⟨h1, e1⟩ := List.getElem?_eq_some_iff.mp a
  obtain ⟨h2, e2⟩ := List.getElem?_eq_some_iff.mp b
  exact (List.getElem_inj hN).mp (e1.trans e2.symm)
/-- distinct numbers from 0 below n are at most n -/
theorem nd_bound {l : List Int} {n : Nat} (nd : l.Nodup) (h : ∀ x ∈ l, 0 ≤ x ∧ x < (n : Int)) : l.length ≤ n := by
  have q := nd_le (l := l) (l' := (List.range n).map fun (k : Nat) => (k : Int)) nd fun x hx => by
    obtain ⟨h0, h1⟩ := h x hx
    exact List.mem_map.mpr ⟨x.toNat, List.mem_range.mpr (by omega), by omega⟩
  simpa using q

/-! ### numbers, rising, each once -/
def ins (x : Int) : List Int → List Int
  | [] => [x]
  | y :: l => if x < y then x :: y :: l else if x = y then y :: l else y :: ins x l
def up : List Int → List Int
  | [] => []
  | x :: l => ins x (up l)
theorem mem_ins {x k : Int} : ∀ {l : List Int}, k ∈ ins x l ↔ k = x ∨ k ∈ l
  | [] => by simp [ins]
  | y :: l => by
    unfold ins
    split
    · simp
    · split
      · rename_i e
        subst e
        simp
      · rw [List.mem_cons, mem_ins (l := l), List.mem_cons]
        constructor
        · rintro (h | h | h)
          · exact .inr (.inl h)
          · exact .inl h
          · exact .inr (.inr h)
        · rintro (h | h | h)
          · exact .inr (.inl h)
          · exact .inl h
          · exact .inr (.inr h)
theorem mem_up {k : Int} : ∀ {l : List Int}, k ∈ up l ↔ k ∈ l
  | [] => by simp [up]
  | x :: l => by
    unfold up
    rw [mem_ins, mem_up (l := l), List.mem_cons]
theorem ins_rise {x : Int} : ∀ {l : List Int}, l.Pairwise (· < ·) → (ins x l).Pairwise (· < ·)
  | [], _ => by simp [ins]
  | y :: l, h => by
    obtain ⟨h1, h2⟩ := List.pairwise_cons.mp h
    unfold ins
    split
    · rename_i hxy
      refine List.pairwise_cons.mpr ⟨fun z hz => ?_, h⟩
      rcases List.mem_cons.mp hz with e | hz
      · rw [e]; exact hxy
      · have := h1 z hz; omega
    · split
      · exact h
      · rename_i h3 h4
        refine List.pairwise_cons.mpr ⟨fun z hz => ?_, ins_rise h2⟩
        rcases mem_ins.mp hz with e | hz
        · omega
        · exact h1 z hz
theorem up_rise : ∀ l : List Int, (up l).Pairwise (· < ·)
  | [] => List.Pairwise.nil
  | _ :: l => ins_rise (up_rise l)
theorem rise_ext : ∀ {a b : List Int}, a.Pairwise (· < ·) → b.Pairwise (· < ·) → (∀ k, k ∈ a ↔ k ∈ b) → a = b
  | [], [], _, _, _ => rfl
  | [], y :: b, _, _, h => by have := (h y).mpr List.mem_cons_self; simp at this
  | x :: a, [], _, _, h => by have := (h x).mp List.mem_cons_self; simp at this
  | x :: a, y :: b, ha, hb, h => by
    obtain ⟨a1, a2⟩ := List.pairwise_cons.mp ha
    obtain ⟨b1, b2⟩ := List.pairwise_cons.mp hb
    have e : x = y := by
      rcases List.mem_cons.mp ((h x).mp List.mem_cons_self) with e | hx
      · exact e
      · rcases List.mem_cons.mp ((h y).mpr List.mem_cons_self) with e | hy
        · exact e.symm
        · have p := b1 x hx
          have q := a1 y hy
          omega
    subst e
    have t := rise_ext (a := a) (b := b) a2 b2 fun k => by
      constructor
      · intro hk
        rcases List.mem_cons.mp ((h k).mp (List.mem_cons_of_mem _ hk)) with e | q
        · have := a1 k hk; omega
        · exact q
      · intro hk
        rcases List.mem_cons.mp ((h k).mpr (List.mem_cons_of_mem _ hk)) with e | q
        · have := b1 k hk; omega
        · exact q
    rw [t]
theorem up_of {ns xs : List Int} (h : ns.Pairwise (· < ·)) (hm : ∀ k, k ∈ ns ↔ k ∈ xs) : ns = up xs :=
  rise_ext h (up_rise xs) fun k => (hm k).trans mem_up.symm
theorem up_ext {a b : List Int} (h : ∀ k, k ∈ a ↔ k ∈ b) : up a = up b := up_of (up_rise a) fun k => mem_up.trans (h k)
theorem rise_nd {l : List Int} (h : l.Pairwise (· < ·)) : l.Nodup := h.imp fun {a b} (q : a < b) => by omega
theorem up_nd (l : List Int) : (up l).Nodup := rise_nd (up_rise l)
theorem up_le (l : List Int) : (up l).length ≤ l.length := nd_le (up_nd l) fun _ hx => mem_up.mp hx

/-! ### covers -/
/-- a row and a column -/
abbrev Edge := Int × Int
def Cov (rows cols : List Int) (L : List Edge) : Prop := (∀ r ∈ rows, ∃ e ∈ L, e.1 = r) ∧ ∀ c ∈ cols, ∃ e ∈ L, e.2 = c
/-- n is the least number of edges of E that have each row and each column -/
def IsFew (E : List Edge) (rows cols : List Int) (n : Nat) : Prop :=
  (∃ L : List Edge, (∀ e ∈ L, e ∈ E) ∧ Cov rows cols L ∧ L.length = n) ∧ ∀ L : List Edge, (∀ e ∈ L, e ∈ E) → Cov rows cols L → n ≤ L.length
theorem IsFew.uniq {E : List Edge} {rows cols : List Int} {n m : Nat} (a : IsFew E rows cols n) (b : IsFew E rows cols m) : n = m := by
  obtain ⟨⟨L, h1, h2, h3⟩, h4⟩ := a
  obtain ⟨⟨L', g1, g2, g3⟩, g4⟩ := b
  have p := h4 L' g1 g2
  have q := g4 L h1 h2
  omega
theorem IsFew.mono {E : List Edge} {rows cols rows' cols' : List Int} {n m : Nat} (a : IsFew E rows cols n) (b : IsFew E rows' cols' m) (hr : ∀ r ∈ rows, r ∈ rows') (hc : ∀ c ∈ cols, c ∈ cols') : n ≤ m := by
  obtain ⟨_, h4⟩ := a
  obtain ⟨⟨L', g1, g2, g3⟩, _⟩ := b
  rw [← g3]
  exact h4 L' g1 ⟨fun r h => g2.1 r (hr r h), fun c h => g2.2 c (hc c h)⟩
theorem IsFew.same {E : List Edge} {rows cols rows' cols' : List Int} {n : Nat} (a : IsFew E rows cols n) (hr : ∀ r, r ∈ rows ↔ r ∈ rows') (hc : ∀ c, c ∈ cols ↔ c ∈ cols') : IsFew E rows' cols' n := by
  obtain ⟨⟨L, h1, h2, h3⟩, h4⟩ := a
  refine ⟨⟨L, h1, ⟨fun r h => h2.1 r ((hr r).mpr h), fun c h => h2.2 c ((hc c).mpr h)⟩, h3⟩, fun L' g1 g2 => h4 L' g1 ⟨fun r h => g2.1 r ((hr r).mp h), fun c h => g2.2 c ((hc c).mp h)⟩⟩

/-! ### tables with number keys -/
abbrev AL (α : Type) := List (Int × α)
section
variable {α : Type}
def keys (l : AL α) : List Int := l.map (·.1)
def get (l : AL α) (k : Int) : Option α := (l.find? fun p => decide (p.1 = k)).map (·.2)
def put (l : AL α) (k : Int) (v : α) : AL α :=
  if (l.any fun p => decide (p.1 = k)) = true then l.map fun p => if p.1 = k then (p.1, v) else p else l ++ [(k, v)]
theorem get_nil {k : Int} : get ([] : AL α) k = none := rfl
theorem get_pos {p : Int × α} {r : AL α} {k : Int} (e : p.1 = k) : get (p :: r) k = some p.2 := by simp [get, List.find?_cons, e]
theorem get_neg {p : Int × α} {r : AL α} {k : Int} (e : ¬ p.1 = k) : get (p :: r) k = get r k := by simp [get, List.find?_cons, e]
theorem get_isSome {k : Int} : ∀ {l : AL α}, (get l k).isSome = true ↔ k ∈ keys l
  | [] => by simp [get_nil, keys]
  | p :: r => by
    by_cases e : p.1 = k
    · rw [get_pos e]
      simp [keys, e]
    · rw [get_neg e, get_isSome (l := r)]
      show k ∈ keys r ↔ k ∈ p.1 :: keys r
      rw [List.mem_cons]
      exact ⟨.inr, fun h => h.resolve_left fun q => e q.symm⟩
theorem get_none {k : Int} {l : AL α} : get l k = none ↔ k ∉ keys l := by
  rw [← get_isSome]
  cases get l k <;> simp
theorem get_some_of {k : Int} {l : AL α} (h : k ∈ keys l) : ∃ v, get l k = some v := by
  have q := get_isSome.mpr h
  cases e : get l k with
  | none => rw [e] at q; cases q
  | some v => exact ⟨v, rfl⟩
theorem mem_of_get {k : Int} {v : α} : ∀ {l : AL α}, get l k = some v → (k, v) ∈ l
  | [], h => by rw [get_nil] at h; cases h
  | p :: r, h => by
    by_cases e : p.1 = k
    · rw [get_pos e] at h
      cases h
      subst e
      exact List.mem_cons_self
    · rw [get_neg e] at h
      exact List.mem_cons_of_mem _ (mem_of_get h)
theorem key_of_get {k : Int} {v : α} {l : AL α} (h : get l k = some v) : k ∈ keys l := get_isSome.mp (by rw [h]; rfl)
theorem get_of_mem {k : Int} {v : α} : ∀ {l : AL α}, (keys l).Nodup → (k, v) ∈ l → get l k = some v
  | [], _, h => by cases h
  | p :: r, nd, h => by
    obtain ⟨n1, n2⟩ := List.nodup_cons.mp (show (p.1 :: keys r).Nodup from nd)
    rcases List.mem_cons.mp h with e | h
    · subst e
      exact get_pos rfl
    · have ne : ¬ p.1 = k := fun e => n1 (e ▸ List.mem_map.mpr ⟨_, h, rfl⟩)
      rw [get_neg ne]
      exact get_of_mem n2 h
theorem any_key {k : Int} {l : AL α} : (l.any fun p => decide (p.1 = k)) = true ↔ k ∈ keys l := by
  rw [List.any_eq_true]
  constructor
  · rintro ⟨p, hp, e⟩
    exact List.mem_map.mpr ⟨p, hp, of_decide_eq_true e⟩
  · intro h
    obtain ⟨p, hp, e⟩ := List.mem_map.mp h
    exact ⟨p, hp, decide_eq_true e⟩
theorem put_new {l : AL α} {k : Int} {v : α} (h : k ∉ keys l) : put l k v = l ++ [(k, v)] := by
  unfold put
  rw [if_neg fun z => h (any_key.mp z)]
theorem put_old {l : AL α} {k : Int} {v : α} (h : k ∈ keys l) : put l k v = l.map fun p => if p.1 = k then (p.1, v) else p := by
  unfold put
  rw [if_pos (any_key.mpr h)]
theorem keys_put_old {l : AL α} {k : Int} {v : α} (h : k ∈ keys l) : keys (put l k v) = keys l := by
  rw [put_old h]
  unfold keys
  rw [List.map_map]
  refine List.map_congr_left fun p _ => ?_
  show (if p.1 = k then (p.1, v) else p).1 = p.1
  split <;> rfl
theorem keys_put_new {l : AL α} {k : Int} {v : α} (h : k ∉ keys l) : keys (put l k v) = keys l ++ [k] := by
  rw [put_new h]
  unfold keys
  rw [List.map_append]
  rfl
theorem nd_put {l : AL α} {k : Int} {v : α} (h : (keys l).Nodup) : (keys (put l k v)).Nodup := by
  by_cases hk : k ∈ keys l
  · rw [keys_put_old hk]; exact h
  · rw [keys_put_new hk]; exact nd_snoc h hk
theorem mem_keys_put {l : AL α} {k j : Int} {v : α} : j ∈ keys (put l k v) ↔ j ∈ keys l ∨ j = k := by
  by_cases hk : k ∈ keys l
  · rw [keys_put_old hk]
    exact ⟨.inl, fun h => h.elim id fun e => e ▸ hk⟩
  · rw [keys_put_new hk, List.mem_append, List.mem_singleton]
theorem get_snoc {k j : Int} {v : α} : ∀ {l : AL α}, k ∉ keys l → get (l ++ [(k, v)]) j = if j = k then some v else get l j
  | [], _ => by
    by_cases e : j = k
    · rw [if_pos e]; exact get_pos e.symm
    · rw [if_neg e]; exact get_neg fun z => e z.symm
  | p :: r, h => by
    have h' : k ∉ keys r := fun z => h (List.mem_cons_of_mem _ z)
    have hp : p.1 ≠ k := fun z => h (z ▸ List.mem_cons_self)
    show get (p :: (r ++ [(k, v)])) j = _
    by_cases e : p.1 = j
    · rw [get_pos e, get_pos e, if_neg fun z => hp (e.trans z)]
    · rw [get_neg e, get_neg e, get_snoc h']
theorem get_map {k j : Int} {v : α} : ∀ {l : AL α}, get (l.map fun p => if p.1 = k then (p.1, v) else p) j = if j = k then (get l j).map fun _ => v else get l j
  | [] => by rw [List.map_nil, get_nil]; split <;> rfl
  | p :: r => by
    have ih := get_map (k := k) (j := j) (v := v) (l := r)
    rw [List.map_cons]
    by_cases e : p.1 = j
    · rw [get_pos (p := p) e]
      by_cases q : p.1 = k
      · rw [if_pos q, get_pos (show (p.1, v).1 = j from e), if_pos (e ▸ q)]
        rfl
      · rw [if_neg q, get_pos e, if_neg (e ▸ q)]
    · rw [get_neg (p := p) e]
      have e' : ¬ (if p.1 = k then (p.1, v) else p).1 = j := by split <;> exact e
      rw [get_neg e', ih]
theorem get_put {l : AL α} {k j : Int} {v : α} : get (put l k v) j = if j = k then some v else get l j := by
  by_cases hk : k ∈ keys l
  · rw [put_old hk, get_map]
    by_cases e : j = k
    · rw [if_pos e, if_pos e]
      obtain ⟨u, hu⟩ := get_some_of (e ▸ hk : j ∈ keys l)
      rw [hu]; rfl
    · rw [if_neg e, if_neg e]
  · rw [put_new hk, get_snoc hk]
theorem get_put_same {l : AL α} {k : Int} {v : α} : get (put l k v) k = some v := by rw [get_put, if_pos rfl]
theorem get_put_ne {l : AL α} {k j : Int} {v : α} (h : j ≠ k) : get (put l k v) j = get l j := by rw [get_put, if_neg h]
theorem put_len (l : AL α) (k : Int) (v : α) : (put l k v).length ≤ l.length + 1 := by
  by_cases hk : k ∈ keys l
  · rw [put_old hk, List.length_map]; omega
  · rw [put_new hk, List.length_append, List.length_singleton]; omega
theorem keys_len (l : AL α) : (keys l).length = l.length := List.length_map _
end

/-! ### what is reached -/
/-- each column that was come to: from a row at the beginning, or from one that holds a column come to before -/
structure CameOk (N : Int → List Int) (held : AL Int) (begins : List Int) (came : AL Int) : Prop where
  nd : (keys came).Nodup
  src : ∀ (i : Nat) (c r : Int), came[i]? = some (c, r) → c ∈ N r ∧ (r ∈ begins ∨ ∃ (j : Nat) (c' : Int), j < i ∧ (keys came)[j]? = some c' ∧ get held c' = some r)
def Src (held : AL Int) (begins : List Int) (came : AL Int) (r : Int) : Prop := r ∈ begins ∨ ∃ c ∈ keys came, get held c = some r
/-- nothing more is to be reached -/
def Closed (N : Int → List Int) (held : AL Int) (begins : List Int) (came : AL Int) : Prop := ∀ r, Src held begins came r → ∀ c ∈ N r, c ∈ keys came
/-- between two turns of the while -/
structure Wait (N : Int → List Int) (held : AL Int) (begins : List Int) (ws : List Int) (came : AL Int) : Prop where
  ok : CameOk N held begins came
  src : ∀ r ∈ ws, Src held begins came r
  pend : ∀ r, Src held begins came r → r ∈ ws ∨ ∀ c ∈ N r, c ∈ keys came
/-- between two turns of the for, the first k columns of row done -/
structure Wait2 (N : Int → List Int) (held : AL Int) (begins : List Int) (row : Int) (k : Nat) (ws : List Int) (came : AL Int) : Prop where
  ok : CameOk N held begins came
  own : Src held begins came row
  src : ∀ r ∈ ws, Src held begins came r
  pend : ∀ r, Src held begins came r → r = row ∨ r ∈ ws ∨ ∀ c ∈ N r, c ∈ keys came
  done : ∀ c ∈ (N row).take k, c ∈ keys came
section
variable {N : Int → List Int} {held : AL Int} {begins ws : List Int} {came : AL Int} {row : Int} {k : Nat}
theorem Wait.start : Wait N held begins begins [] := by
  refine ⟨⟨List.nodup_nil, fun i c r h => by simp at h⟩, fun r h => .inl h, fun r h => ?_⟩
  rcases h with h | ⟨c, hc, _⟩
  · exact .inl h
  · simp [keys] at hc
theorem Wait.pop (W : Wait N held begins (row :: ws) came) : Wait2 N held begins row 0 ws came := by
  refine ⟨W.ok, W.src row List.mem_cons_self, fun r h => W.src r (List.mem_cons_of_mem _ h), fun r h => ?_, fun c h => by simp at h⟩
  rcases W.pend r h with q | q
  · rcases List.mem_cons.mp q with e | q
    · exact .inl e
    · exact .inr (.inl q)
  · exact .inr (.inr q)
theorem Wait2.end (W : Wait2 N held begins row (N row).length ws came) : Wait N held begins ws came := by
  refine ⟨W.ok, W.src, fun r h => ?_⟩
  rcases W.pend r h with e | q | q
  · subst e
    refine .inr fun c hc => W.done c ?_
    rw [List.take_of_length_le (Nat.le_refl _)]
    exact hc
  · exact .inl q
  · exact .inr q
theorem Wait.closed (W : Wait N held begins [] came) : Closed N held begins came := fun r h => by
  rcases W.pend r h with q | q
  · cases q
  · exact q
theorem mem_take_succ {l : List Int} {k : Nat} {c x : Int} (h : l[k]? = some c) : x ∈ l.take (k + 1) ↔ x ∈ l.take k ∨ x = c := by
  rw [List.take_add_one, h]
  simp [List.mem_append]
theorem Wait2.old {c : Int} (W : Wait2 N held begins row k ws came) (hc : (N row)[k]? = some c) (h : c ∈ keys came) : Wait2 N held begins row (k + 1) ws came :=
  ⟨W.ok, W.own, W.src, W.pend, fun x hx => by
    rcases (mem_take_succ hc).mp hx with q | e
    · exact W.done x q
    · rw [e]; exact h⟩
theorem keys_snoc {c r : Int} : keys (came ++ [(c, r)]) = keys came ++ [c] := by
  unfold keys
  rw [List.map_append]
  rfl
theorem Src.more {c r : Int} {x : Int} (h : Src held begins came x) : Src held begins (came ++ [(c, r)]) x := by
  rcases h with h | ⟨c', hc, e⟩
  · exact .inl h
  · exact .inr ⟨c', by rw [keys_snoc]; exact List.mem_append_left _ hc, e⟩
theorem Wait2.ok_new {c : Int} (W : Wait2 N held begins row k ws came) (hc : (N row)[k]? = some c) (h : c ∉ keys came) : CameOk N held begins (came ++ [(c, row)]) := by
  refine ⟨by rw [keys_snoc]; exact nd_snoc W.ok.nd h, fun i c1 r1 e => ?_⟩
  rw [keys_snoc]
  rcases Nat.lt_trichotomy i came.length with l | l | l
  · rw [List.getElem?_append_left l] at e
    obtain ⟨a, b⟩ := W.ok.src i c1 r1 e
    refine ⟨a, b.imp id ?_⟩
    rintro ⟨j, c', hj, q, z⟩
    refine ⟨j, c', hj, ?_, z⟩
    rw [List.getElem?_append_left (by rw [keys_len]; omega)]
    exact q
  · subst l
    rw [List.getElem?_append_right (Nat.le_refl _), Nat.sub_self] at e
    simp only [List.getElem?_cons_zero, Option.some.injEq, Prod.mk.injEq] at e
    obtain ⟨rfl, rfl⟩ := e
    refine ⟨List.mem_of_getElem? hc, W.own.imp id ?_⟩
    rintro ⟨c', hm, z⟩
    obtain ⟨j, hj, e⟩ := List.mem_iff_getElem.mp hm
    refine ⟨j, c', by rw [← keys_len came]; exact hj, ?_, z⟩
    rw [List.getElem?_append_left hj, List.getElem?_eq_getElem hj, e]
  · rw [List.getElem?_eq_none (by rw [List.length_append, List.length_singleton]; omega)] at e
    cases e
/-- a new column that no row holds -/
theorem Wait2.newFree {c : Int} (W : Wait2 N held begins row k ws came) (hc : (N row)[k]? = some c) (h : c ∉ keys came) (hf : get held c = none) : Wait2 N held begins row (k + 1) ws (came ++ [(c, row)]) := by
  have back : ∀ x, Src held begins (came ++ [(c, row)]) x → Src held begins came x := fun x hx => by
    rcases hx with hx | ⟨c', hc', e⟩
    · exact .inl hx
    · rw [keys_snoc] at hc'
      rcases List.mem_append.mp hc' with q | q
      · exact .inr ⟨c', q, e⟩
      · rw [List.mem_singleton.mp q, hf] at e
        cases e
  have wid : ∀ x, x ∈ keys came → x ∈ keys (came ++ [(c, row)]) := fun x hx => by rw [keys_snoc]; exact List.mem_append_left _ hx
  refine ⟨W.ok_new hc h, W.own.more, fun r hr => (W.src r hr).more, fun r hr => ?_, fun x hx => ?_⟩
  · rcases W.pend r (back r hr) with q | q | q
    · exact .inl q
    · exact .inr (.inl q)
    · exact .inr (.inr fun x hx => wid x (q x hx))
  · rcases (mem_take_succ hc).mp hx with q | e
    · exact wid x (W.done x q)
    · rw [e, keys_snoc]; simp
/-- .. that a row holds -/
theorem Wait2.newHeld {c r' : Int} (W : Wait2 N held begins row k ws came) (hc : (N row)[k]? = some c) (h : c ∉ keys came) (hf : get held c = some r') : Wait2 N held begins row (k + 1) (ws ++ [r']) (came ++ [(c, row)]) := by
  have wid : ∀ x, x ∈ keys came → x ∈ keys (came ++ [(c, row)]) := fun x hx => by rw [keys_snoc]; exact List.mem_append_left _ hx
  have inn : c ∈ keys (came ++ [(c, row)]) := by rw [keys_snoc]; simp
  refine ⟨W.ok_new hc h, W.own.more, fun r hr => ?_, fun r hr => ?_, fun x hx => ?_⟩
  · rcases List.mem_append.mp hr with q | q
    · exact (W.src r q).more
    · rw [List.mem_singleton.mp q]
      exact .inr ⟨c, inn, hf⟩
  · have back : Src held begins came r ∨ r = r' := by
      rcases hr with hr | ⟨c', hc', e⟩
      · exact .inl (.inl hr)
      · rw [keys_snoc] at hc'
        rcases List.mem_append.mp hc' with q | q
        · exact .inl (.inr ⟨c', q, e⟩)
        · rw [List.mem_singleton.mp q, hf] at e
          cases e
          exact .inr rfl
    rcases back with back | e
    · rcases W.pend r back with q | q | q
      · exact .inl q
      · exact .inr (.inl (List.mem_append_left _ q))
      · exact .inr (.inr fun x hx => wid x (q x hx))
    · rw [e]
      exact .inr (.inl (by simp))
  · rcases (mem_take_succ hc).mp hx with q | e
    · exact wid x (W.done x q)
    · rw [e]; exact inn
end

/-! ### pairs -/
/-- each column held by a row of P that has it, no row twice; no more pairs can be: R the rows that come to free rows, T their columns -/
structure Mat (N : Int → List Int) (P : List Int) (h : AL Int) : Prop where
  nd : (keys h).Nodup
  adj : ∀ c r, get h c = some r → c ∈ N r ∧ r ∈ P
  inj : ∀ c c' r, get h c = some r → get h c' = some r → c = c'
  cert : ∃ R T : Int → Prop, (∀ r ∈ P, (∀ c, get h c ≠ some r) → R r) ∧ (∀ r, R r → r ∈ P) ∧ (∀ r, R r → ∀ c ∈ N r, T c) ∧ ∀ c, T c → ∃ r, get h c = some r ∧ R r
/-- the path is turned from the column col (at i in came) on; h0 ahead of it -/
structure Aug (N : Int → List Int) (P : List Int) (h0 : AL Int) (T : Int → Prop) (came h : AL Int) (i : Nat) (col : Int) : Prop where
  at' : (keys came)[i]? = some col
  nd : (keys h).Nodup
  same : ∀ (j : Nat) (c : Int), j ≤ i → (keys came)[j]? = some c → get h c = get h0 c
  inj : ∀ c c' r, c ≠ col → c' ≠ col → get h c = some r → get h c' = some r → c = c'
  vals : ∀ r, (∃ c, c ≠ col ∧ get h c = some r) ↔ ∃ c, get h0 c = some r
  adj : ∀ c r, get h c = some r → c ∈ N r ∧ r ∈ P
  tcol : ¬ T col
  tsame : ∀ c, T c → get h c = get h0 c
section
variable {N : Int → List Int} {P : List Int} {h0 h came : AL Int} {T : Int → Prop} {b : Int}
theorem Mat.start : Mat N [] [] where
  nd := List.nodup_nil
  adj := fun c r e => by rw [get_nil] at e; cases e
  inj := fun c c' r e => by rw [get_nil] at e; cases e
  cert := by
    refine ⟨fun _ => False, fun _ => False, fun r h => ?_, fun r h => ?_, fun r h => ?_, fun c h => ?_⟩
    · cases h
    · exact h.elim
    · exact h.elim
    · exact h.elim
/-- no free column is come to -/
theorem Mat.stay (M : Mat N P h) (nb : b ∉ P) (ok : CameOk N h [b] came) (cl : Closed N h [b] came) (full : ∀ c ∈ keys came, c ∈ keys h) : Mat N (P ++ [b]) h := by
  obtain ⟨R, T, c1, c2, c3, c4⟩ := M.cert
  refine ⟨M.nd, fun c r e => ⟨(M.adj c r e).1, List.mem_append_left _ (M.adj c r e).2⟩, M.inj, fun r => R r ∨ Src h [b] came r, fun c => T c ∨ c ∈ keys came, fun r hr hf => ?_, fun r hr => ?_, fun r hr c hc => ?_, fun c hc => ?_⟩
  · rcases List.mem_append.mp hr with q | q
    · exact .inl (c1 r q hf)
    · exact .inr (.inl q)
  · rcases hr with q | q | ⟨c, _, e⟩
    · exact List.mem_append_left _ (c2 r q)
    · exact List.mem_append_right _ q
    · exact List.mem_append_left _ (M.adj c r e).2
  · rcases hr with q | q
    · exact .inl (c3 r q c hc)
    · exact .inr (cl r q c hc)
  · rcases hc with q | q
    · obtain ⟨r, e, z⟩ := c4 c q
      exact ⟨r, e, .inl z⟩
    · obtain ⟨r, e⟩ := get_some_of (full c q)
      exact ⟨r, e, .inr (.inr ⟨c, q, e⟩)⟩
theorem Aug.start {R : Int → Prop} (M : Mat N P h0) (c4 : ∀ c, T c → ∃ r, get h0 c = some r ∧ R r) {i : Nat} {col : Int} (hi : (keys came)[i]? = some col) (hf : col ∉ keys h0) : Aug N P h0 T came h0 i col := by
  have hn : get h0 col = none := get_none.mpr hf
  have ne : ∀ c r, get h0 c = some r → c ≠ col := fun c r e z => by rw [z, hn] at e; cases e
  refine ⟨hi, M.nd, fun _ _ _ _ => rfl, fun c c' r _ _ e e' => M.inj c c' r e e', fun r => ⟨fun ⟨c, _, e⟩ => ⟨c, e⟩, fun ⟨c, e⟩ => ⟨c, ne c r e, e⟩⟩, M.adj, fun q => ?_, fun _ _ => rfl⟩
  obtain ⟨r, e, _⟩ := c4 col q
  exact ne col r e rfl
theorem get_lt_ne {i j : Nat} {c c' : Int} (nd : (keys came).Nodup) (hi : (keys came)[i]? = some c) (hj : (keys came)[j]? = some c') (l : j < i) : c' ≠ c := fun e => by
  have := nd_ix nd hi (e ▸ hj)
  omega
theorem came_at {i : Nat} {col : Int} (nd : (keys came).Nodup) (hi : (keys came)[i]? = some col) : ∃ row, came[i]? = some (col, row) ∧ get came col = some row := by
  unfold keys at hi
  rw [List.getElem?_map] at hi
  cases e : came[i]? with
  | none => rw [e] at hi; cases hi
  | some p =>
    rw [e] at hi
    have q : p.1 = col := Option.some.inj hi
    refine ⟨p.2, by rw [← q], get_of_mem nd ?_⟩
    rw [← q]
    exact List.mem_of_getElem? e
/-- the path goes on: the row at col held x so far -/
theorem Aug.next {R : Int → Prop} (M : Mat N P h0) (nb : b ∉ P) (ok : CameOk N h0 [b] came) (c3 : ∀ r, R r → ∀ c ∈ N r, T c) (c4 : ∀ c, T c → ∃ r, get h0 c = some r ∧ R r) {i : Nat} {col row x : Int}
    (A : Aug N P h0 T came h i col) (hr : came[i]? = some (col, row)) (hx : get h x = some row) : ∃ j, j < i ∧ Aug N P h0 T came (put h col row) j x := by
  obtain ⟨a1, a2⟩ := ok.src i col row hr
  have rP : row ∈ P := (A.adj x row hx).2
  have nrb : row ≠ b := fun e => nb (e ▸ rP)
  obtain ⟨j, c', hj, hc', e'⟩ := a2.resolve_left fun q => nrb (List.mem_singleton.mp q)
  have c'ne : c' ≠ col := get_lt_ne ok.nd A.at' hc' hj
  have hc : get h c' = some row := (A.same j c' (Nat.le_of_lt hj) hc').trans e'
  have xne : x ≠ col := fun e => by
    have q := A.same i col (Nat.le_refl _) A.at'
    rw [← e, hx, e] at q
    exact c'ne (M.inj c' col row e' q.symm)
  have ex : x = c' := A.inj x c' row xne c'ne hx hc
  subst ex
  refine ⟨j, hj, hc', nd_put A.nd, fun k c hk hkc => ?_, fun c d r n1 n2 g1 g2 => ?_, fun r => ?_, fun c r g => ?_, fun q => ?_, fun c q => ?_⟩
  · rw [get_put_ne (get_lt_ne ok.nd A.at' hkc (by omega))]
    exact A.same k c (by omega) hkc
  · by_cases z1 : c = col
    · by_cases z2 : d = col
      · rw [z1, z2]
      · rw [z1, get_put_same] at g1
        rw [get_put_ne z2, ← g1] at g2
        exact absurd (A.inj d x row z2 xne g2 hx) n2
    · by_cases z2 : d = col
      · rw [z2, get_put_same] at g2
        rw [get_put_ne z1, ← g2] at g1
        exact absurd (A.inj c x row z1 xne g1 hx) n1
      · rw [get_put_ne z1] at g1
        rw [get_put_ne z2] at g2
        exact A.inj c d r z1 z2 g1 g2
  · rw [← A.vals r]
    constructor
    · rintro ⟨c, nc, g⟩
      by_cases z : c = col
      · rw [z, get_put_same] at g
        exact ⟨x, xne, by rw [← g]; exact hx⟩
      · rw [get_put_ne z] at g
        exact ⟨c, z, g⟩
    · rintro ⟨c, nc, g⟩
      by_cases z : c = x
      · rw [z, hx] at g
        exact ⟨col, fun e => xne e.symm, by rw [get_put_same]; exact g⟩
      · exact ⟨c, z, by rw [get_put_ne nc]; exact g⟩
  · by_cases z : c = col
    · rw [z, get_put_same] at g
      cases g
      rw [z]
      exact ⟨a1, rP⟩
    · rw [get_put_ne z] at g
      exact A.adj c r g
  · obtain ⟨r, g, hR⟩ := c4 x q
    rw [e'] at g
    cases g
    exact A.tcol (c3 row hR col a1)
  · have z : c ≠ col := fun e => A.tcol (e ▸ q)
    rw [get_put_ne z]
    exact A.tsame c q
/-- the path ends -/
theorem Aug.end {R : Int → Prop} (M : Mat N P h0) (nb : b ∉ P) (ok : CameOk N h0 [b] came) (c1 : ∀ r ∈ P, (∀ c, get h0 c ≠ some r) → R r) (c2 : ∀ r, R r → r ∈ P) (c3 : ∀ r, R r → ∀ c ∈ N r, T c)
    (c4 : ∀ c, T c → ∃ r, get h0 c = some r ∧ R r) {i : Nat} {col row : Int} (A : Aug N P h0 T came h i col) (hr : came[i]? = some (col, row)) (hx : ∀ x, get h x ≠ some row) : Mat N (P ++ [b]) (put h col row) := by
  obtain ⟨a1, a2⟩ := ok.src i col row hr
  have erb : row = b := by
    rcases a2 with q | ⟨j, c', hj, hc', e'⟩
    · exact List.mem_singleton.mp q
    · exact absurd ((A.same j c' (Nat.le_of_lt hj) hc').trans e') (hx c')
  subst erb
  refine ⟨nd_put A.nd, fun c r g => ?_, fun c d r g1 g2 => ?_, R, T, fun r hrP hf => ?_, fun r q => List.mem_append_left _ (c2 r q), c3, fun c q => ?_⟩
  · by_cases z : c = col
    · rw [z, get_put_same] at g
      cases g
      rw [z]
      exact ⟨a1, by simp⟩
    · rw [get_put_ne z] at g
      obtain ⟨q1, q2⟩ := A.adj c r g
      exact ⟨q1, List.mem_append_left _ q2⟩
  · by_cases z1 : c = col
    · by_cases z2 : d = col
      · rw [z1, z2]
      · rw [z1, get_put_same] at g1
        rw [get_put_ne z2, ← g1] at g2
        exact absurd g2 (hx d)
    · by_cases z2 : d = col
      · rw [z2, get_put_same] at g2
        rw [get_put_ne z1, ← g2] at g1
        exact absurd g1 (hx c)
      · rw [get_put_ne z1] at g1
        rw [get_put_ne z2] at g2
        exact A.inj c d r z1 z2 g1 g2
  · rcases List.mem_append.mp hrP with q | q
    · refine c1 r q fun c g => ?_
      obtain ⟨c', n', g'⟩ := (A.vals r).mpr ⟨c, g⟩
      exact hf c' (by rw [get_put_ne n']; exact g')
    · rw [List.mem_singleton.mp q] at hf
      exact absurd get_put_same (hf col)
  · have z : c ≠ col := fun e => A.tcol (e ▸ q)
    obtain ⟨r, g, hR⟩ := c4 c q
    exact ⟨r, by rw [get_put_ne z, A.tsame c q]; exact g, hR⟩
end
/-- the columns that a row holds, in the table's order -/
def heldBy (h : AL Int) (row : Int) : List Int := (h.filter fun p => decide (p.2 = row)).map (·.1)
theorem mem_heldBy {h : AL Int} {row x : Int} (nd : (keys h).Nodup) : x ∈ heldBy h row ↔ get h x = some row := by
  unfold heldBy
  constructor
  · intro hx
    obtain ⟨p, hp, e⟩ := List.mem_map.mp hx
    obtain ⟨h1, h2⟩ := List.mem_filter.mp hp
    have q : p.2 = row := of_decide_eq_true h2
    refine get_of_mem nd ?_
    rw [← e, ← q]
    exact h1
  · intro hx
    exact List.mem_map.mpr ⟨(x, row), List.mem_filter.mpr ⟨mem_of_get hx, by simp⟩, rfl⟩

/-! ### the count -/
/-- how many few_marks tells -/
def fewN (h : AL Int) (rows cols : List Int) : Nat := h.length + (rows.filter fun r => !decide (r ∈ h.map (·.2))).length + (cols.filter fun c => !decide (c ∈ keys h)).length
theorem nd_vals {h : AL Int} (nd : (keys h).Nodup) (inj : ∀ c c' r, get h c = some r → get h c' = some r → c = c') : (h.map (·.2)).Nodup := by
  have q : ∀ l : AL Int, (keys l).Nodup → (∀ p ∈ l, ∀ p' ∈ l, p.2 = p'.2 → p.1 = p'.1) → (l.map (·.2)).Nodup := by
    intro l
    induction l with
    | nil => intro _ _; exact List.nodup_nil
    | cons p r ih =>
      intro hn hi
      obtain ⟨n1, n2⟩ := List.nodup_cons.mp (show (p.1 :: keys r).Nodup from hn)
      show (p.2 :: r.map (·.2)).Nodup
      refine List.nodup_cons.mpr ⟨fun hm => ?_, ih n2 fun a ha a' ha' => hi a (List.mem_cons_of_mem _ ha) a' (List.mem_cons_of_mem _ ha')⟩
      obtain ⟨p', hp', e⟩ := List.mem_map.mp hm
      have z := hi p' (List.mem_cons_of_mem _ hp') p List.mem_cons_self e
      exact n1 (z ▸ List.mem_map.mpr ⟨p', hp', rfl⟩)
  refine q h nd fun p hp p' hp' e => ?_
  exact inj p.1 p'.1 p.2 (get_of_mem nd hp) (get_of_mem nd (by rw [e]; exact hp'))
/-- E: the edges; rows and cols: those of the cells; N: by each row the columns of its edges within -/
theorem Mat.few {N : Int → List Int} {h : AL Int} {E : List Edge} {rows cols : List Int} (M : Mat N rows h) (nr : rows.Nodup) (nc : cols.Nodup) (hN : ∀ r ∈ rows, ∀ c, c ∈ N r ↔ (r, c) ∈ E ∧ c ∈ cols)
    (hr : ∀ r ∈ rows, ∃ c, c ∈ N r) (hc : ∀ c ∈ cols, ∃ r ∈ rows, c ∈ N r) : IsFew E rows cols (fewN h rows cols) := by
  obtain ⟨R, T, c1, c2, c3, c4⟩ := M.cert
  have nv := nd_vals M.nd M.inj
  constructor
  · -- a cover
    have f1 : ∀ l : List Int, (∀ r ∈ l, r ∈ rows) → ∃ L : List Edge, (∀ e ∈ L, e ∈ E) ∧ (∀ r ∈ l, ∃ e ∈ L, e.1 = r) ∧ L.length = l.length := by
      intro l
      induction l with
      | nil => intro _; exact ⟨[], (fun e z => by cases z), (fun r z => by cases z), rfl⟩
      | cons r l ih =>
        intro hl
        obtain ⟨L, h1, h2, h3⟩ := ih fun x hx => hl x (List.mem_cons_of_mem _ hx)
        obtain ⟨c, q⟩ := hr r (hl r List.mem_cons_self)
        refine ⟨(r, c) :: L, fun e z => ?_, fun x z => ?_, by rw [List.length_cons, List.length_cons, h3]⟩
        · rcases List.mem_cons.mp z with z | z
          · rw [z]; exact ((hN r (hl r List.mem_cons_self) c).mp q).1
          · exact h1 e z
        · rcases List.mem_cons.mp z with z | z
          · exact ⟨_, List.mem_cons_self, z.symm⟩
          · obtain ⟨e, he, q⟩ := h2 x z
            exact ⟨e, List.mem_cons_of_mem _ he, q⟩
    have f2 : ∀ l : List Int, (∀ c ∈ l, c ∈ cols) → ∃ L : List Edge, (∀ e ∈ L, e ∈ E) ∧ (∀ c ∈ l, ∃ e ∈ L, e.2 = c) ∧ L.length = l.length := by
      intro l
      induction l with
      | nil => intro _; exact ⟨[], (fun e z => by cases z), (fun r z => by cases z), rfl⟩
      | cons c l ih =>
        intro hl
        obtain ⟨L, h1, h2, h3⟩ := ih fun x hx => hl x (List.mem_cons_of_mem _ hx)
        obtain ⟨r, hrr, q⟩ := hc c (hl c List.mem_cons_self)
        refine ⟨(r, c) :: L, fun e z => ?_, fun x z => ?_, by rw [List.length_cons, List.length_cons, h3]⟩
        · rcases List.mem_cons.mp z with z | z
          · rw [z]; exact ((hN r hrr c).mp q).1
          · exact h1 e z
        · rcases List.mem_cons.mp z with z | z
          · exact ⟨_, List.mem_cons_self, z.symm⟩
          · obtain ⟨e, he, q⟩ := h2 x z
            exact ⟨e, List.mem_cons_of_mem _ he, q⟩
    obtain ⟨L1, a1, a2, a3⟩ := f1 (rows.filter fun r => !decide (r ∈ h.map (·.2))) fun r z => (List.mem_filter.mp z).1
    obtain ⟨L2, b1, b2, b3⟩ := f2 (cols.filter fun c => !decide (c ∈ keys h)) fun r z => (List.mem_filter.mp z).1
    refine ⟨h.map (fun p => (p.2, p.1)) ++ L1 ++ L2, fun e z => ?_, ⟨fun r z => ?_, fun c z => ?_⟩, ?_⟩
    · rcases List.mem_append.mp z with z | z
      · rcases List.mem_append.mp z with z | z
        · obtain ⟨p, hp, q⟩ := List.mem_map.mp z
          obtain ⟨g1, g2⟩ := M.adj p.1 p.2 (get_of_mem M.nd hp)
          rw [← q]
          exact ((hN p.2 g2 p.1).mp g1).1
        · exact a1 e z
      · exact b1 e z
    · by_cases q : r ∈ h.map (·.2)
      · obtain ⟨p, hp, e⟩ := List.mem_map.mp q
        exact ⟨(p.2, p.1), List.mem_append_left _ (List.mem_append_left _ (List.mem_map.mpr ⟨p, hp, rfl⟩)), e⟩
      · obtain ⟨e, he, g⟩ := a2 r (List.mem_filter.mpr ⟨z, by simp [q]⟩)
        exact ⟨e, List.mem_append_left _ (List.mem_append_right _ he), g⟩
    · by_cases q : c ∈ keys h
      · obtain ⟨p, hp, e⟩ := List.mem_map.mp q
        exact ⟨(p.2, p.1), List.mem_append_left _ (List.mem_append_left _ (List.mem_map.mpr ⟨p, hp, rfl⟩)), e⟩
      · obtain ⟨e, he, g⟩ := b2 c (List.mem_filter.mpr ⟨z, by simp [q]⟩)
        exact ⟨e, List.mem_append_right _ he, g⟩
    · rw [List.length_append, List.length_append, List.length_map, a3, b3]
      rfl
  · -- none with fewer
    intro L hE hcov
    classical
    have s1 : (L.filter fun e => decide (R e.1)).length + (L.filter fun e => !decide (R e.1)).length = L.length := by
      have q : ∀ l : List Edge, (l.filter fun e => decide (R e.1)).length + (l.filter fun e => !decide (R e.1)).length = l.length := by
        intro l
        induction l with
        | nil => rfl
        | cons e l ih =>
          by_cases z : R e.1
          · rw [List.filter_cons_of_pos (by simp [z]), List.filter_cons_of_neg (by simp [z]), List.length_cons, List.length_cons]
            omega
          · rw [List.filter_cons_of_neg (by simp [z]), List.filter_cons_of_pos (by simp [z]), List.length_cons, List.length_cons]
            omega
      exact q L
    -- the rows of R
    let A1 := (rows.filter fun r => !decide (r ∈ h.map (·.2))) ++ (h.filter fun p => decide (T p.1)).map (·.2)
    have eA1 : A1 = (rows.filter fun r => !decide (r ∈ h.map (·.2))) ++ (h.filter fun p => decide (T p.1)).map (·.2) := rfl
    have inA1 : ∀ r ∈ A1, R r := fun r z => by
      rcases List.mem_append.mp z with z | z
      · obtain ⟨z1, z2⟩ := List.mem_filter.mp z
        refine c1 r z1 fun c g => ?_
        have : r ∈ h.map (·.2) := List.mem_map.mpr ⟨(c, r), mem_of_get g, rfl⟩
        simp [this] at z2
      · obtain ⟨p, hp, e⟩ := List.mem_map.mp z
        obtain ⟨p1, p2⟩ := List.mem_filter.mp hp
        obtain ⟨r', g, hR⟩ := c4 p.1 (of_decide_eq_true p2)
        rw [get_of_mem M.nd (k := p.1) (v := p.2) p1] at g
        cases g
        rw [← e]; exact hR
    have ndA1 : A1.Nodup := by
      refine nd_append (nd_filter _ nr) (nv.sublist (List.Sublist.map _ List.filter_sublist)) fun r z1 z2 => ?_
      obtain ⟨_, y2⟩ := List.mem_filter.mp z1
      obtain ⟨p, hp, e⟩ := List.mem_map.mp z2
      have : r ∈ h.map (·.2) := List.mem_map.mpr ⟨p, (List.mem_filter.mp hp).1, e⟩
      simp [this] at y2
    have l1 : A1.length ≤ (L.filter fun e => decide (R e.1)).length := by
      rw [← List.length_map (fun e : Edge => e.1) (as := L.filter fun e => decide (R e.1))]
      refine nd_le ndA1 fun r z => ?_
      have hR := inA1 r z
      obtain ⟨e, he, q⟩ := hcov.1 r (c2 r hR)
      exact List.mem_map.mpr ⟨e, List.mem_filter.mpr ⟨he, by rw [q]; simp [hR]⟩, q⟩
    -- the columns out of T
    let A2 := (cols.filter fun c => !decide (c ∈ keys h)) ++ (h.filter fun p => !decide (T p.1)).map (·.1)
    have inA2 : ∀ c ∈ A2, ¬ T c ∧ c ∈ cols := fun c z => by
      rcases List.mem_append.mp z with z | z
      · obtain ⟨z1, z2⟩ := List.mem_filter.mp z
        refine ⟨fun t => ?_, z1⟩
        obtain ⟨r, g, _⟩ := c4 c t
        simp [key_of_get g] at z2
      · obtain ⟨p, hp, e⟩ := List.mem_map.mp z
        obtain ⟨p1, p2⟩ := List.mem_filter.mp hp
        obtain ⟨g1, g2⟩ := M.adj p.1 p.2 (get_of_mem M.nd p1)
        rw [← e]
        exact ⟨by simpa using p2, ((hN p.2 g2 p.1).mp g1).2⟩
    have ndA2 : A2.Nodup := by
      refine nd_append (nd_filter _ nc) (M.nd.sublist (List.Sublist.map _ List.filter_sublist)) fun r z1 z2 => ?_
      obtain ⟨_, y2⟩ := List.mem_filter.mp z1
      obtain ⟨p, hp, e⟩ := List.mem_map.mp z2
      have : r ∈ keys h := List.mem_map.mpr ⟨p, (List.mem_filter.mp hp).1, e⟩
      simp [this] at y2
    have l2 : A2.length ≤ (L.filter fun e => !decide (R e.1)).length := by
      rw [← List.length_map (fun e : Edge => e.2) (as := L.filter fun e => !decide (R e.1))]
      refine nd_le ndA2 fun c z => ?_
      obtain ⟨nt, hcc⟩ := inA2 c z
      obtain ⟨e, he, q⟩ := hcov.2 c hcc
      refine List.mem_map.mpr ⟨e, List.mem_filter.mpr ⟨he, ?_⟩, q⟩
      have nR : ¬ R e.1 := fun hR => nt (c3 e.1 hR c ((hN e.1 (c2 _ hR) c).mpr ⟨by rw [← q]; exact hE e he, hcc⟩))
      simp [nR]
    have s2 : (h.filter fun p => decide (T p.1)).length + (h.filter fun p => !decide (T p.1)).length = h.length := by
      have q : ∀ l : AL Int, (l.filter fun p => decide (T p.1)).length + (l.filter fun p => !decide (T p.1)).length = l.length := by
        intro l
        induction l with
        | nil => rfl
        | cons e l ih =>
          by_cases z : T e.1
          · rw [List.filter_cons_of_pos (by simp [z]), List.filter_cons_of_neg (by simp [z]), List.length_cons, List.length_cons]
            omega
          · rw [List.filter_cons_of_neg (by simp [z]), List.filter_cons_of_pos (by simp [z]), List.length_cons, List.length_cons]
            omega
      exact q h
    have e1 : A1.length = (rows.filter fun r => !decide (r ∈ h.map (·.2))).length + (h.filter fun p => decide (T p.1)).length := by
      show List.length ((_ : List Int) ++ _) = _
      rw [List.length_append, List.length_map]
    have e2 : A2.length = (cols.filter fun c => !decide (c ∈ keys h)).length + (h.filter fun p => !decide (T p.1)).length := by
      show List.length ((_ : List Int) ++ _) = _
      rw [List.length_append, List.length_map]
    unfold fewN
    omega

/-! ### nets -/
section
variable {M : Type} [DecidableEq M]
abbrev Net (M : Type) := List (M × Int × Int)
def edges (net : Net M) : List Edge := net.map (·.2)
def isOpen (R C : List Int) (k : M × Int × Int) : Bool := decide (k.2.1 ∈ R) && decide (k.2.2 ∈ C)
def openOf (net : Net M) (R C : List Int) : Net M := net.filter (isOpen R C)
/-- the rows and the columns of some marks -/
def met (net : Net M) (ms : List M) : List Int × List Int :=
  (up ((net.filter fun k => decide (k.1 ∈ ms)).map (·.2.1)), up ((net.filter fun k => decide (k.1 ∈ ms)).map (·.2.2)))
theorem mem_open {net : Net M} {R C : List Int} {k : M × Int × Int} : k ∈ openOf net R C ↔ k ∈ net ∧ k.2.1 ∈ R ∧ k.2.2 ∈ C := by
  unfold openOf isOpen
  rw [List.mem_filter]
  simp
theorem mem_met1 {net : Net M} {ms : List M} {r : Int} : r ∈ (met net ms).1 ↔ ∃ k ∈ net, k.1 ∈ ms ∧ k.2.1 = r := by
  show r ∈ up _ ↔ _
  rw [mem_up, List.mem_map]
  constructor
  · rintro ⟨k, hk, e⟩
    obtain ⟨h1, h2⟩ := List.mem_filter.mp hk
    exact ⟨k, h1, of_decide_eq_true h2, e⟩
  · rintro ⟨k, h1, h2, e⟩
    exact ⟨k, List.mem_filter.mpr ⟨h1, decide_eq_true h2⟩, e⟩
theorem mem_met2 {net : Net M} {ms : List M} {r : Int} : r ∈ (met net ms).2 ↔ ∃ k ∈ net, k.1 ∈ ms ∧ k.2.2 = r := by
  show r ∈ up _ ↔ _
  rw [mem_up, List.mem_map]
  constructor
  · rintro ⟨k, hk, e⟩
    obtain ⟨h1, h2⟩ := List.mem_filter.mp hk
    exact ⟨k, h1, of_decide_eq_true h2, e⟩
  · rintro ⟨k, h1, h2, e⟩
    exact ⟨k, List.mem_filter.mpr ⟨h1, decide_eq_true h2⟩, e⟩
theorem met1_rise (net : Net M) (ms : List M) : (met net ms).1.Pairwise (· < ·) := up_rise _
theorem met2_rise (net : Net M) (ms : List M) : (met net ms).2.Pairwise (· < ·) := up_rise _
theorem met1_of {net : Net M} {ms : List M} {xs : List Int} (h : ∀ r, r ∈ xs ↔ ∃ k ∈ net, k.1 ∈ ms ∧ k.2.1 = r) : up xs = (met net ms).1 :=
  rise_ext (up_rise _) (met1_rise _ _) fun r => mem_up.trans ((h r).trans mem_met1.symm)
theorem met2_of {net : Net M} {ms : List M} {xs : List Int} (h : ∀ r, r ∈ xs ↔ ∃ k ∈ net, k.1 ∈ ms ∧ k.2.2 = r) : up xs = (met net ms).2 :=
  rise_ext (up_rise _) (met2_rise _ _) fun r => mem_up.trans ((h r).trans mem_met2.symm)
theorem met_congr {net : Net M} {ms ms' : List M} (h : ∀ m, m ∈ ms ↔ m ∈ ms') : met net ms = met net ms' := by
  have e : (fun k : M × Int × Int => decide (k.1 ∈ ms)) = fun k => decide (k.1 ∈ ms') := by
    funext k
    exact decide_eq_decide.mpr (h k.1)
  unfold met
  rw [e]
theorem met1_join {net : Net M} {a b : List M} : up ((met net a).1 ++ (met net b).1) = (met net (a ++ b)).1 := met1_of fun r => by
  rw [List.mem_append, mem_met1, mem_met1]
  constructor
  · rintro (⟨k, h1, h2, h3⟩ | ⟨k, h1, h2, h3⟩)
    · exact ⟨k, h1, List.mem_append_left _ h2, h3⟩
    · exact ⟨k, h1, List.mem_append_right _ h2, h3⟩
  · rintro ⟨k, h1, h2, h3⟩
    rcases List.mem_append.mp h2 with h2 | h2
    · exact .inl ⟨k, h1, h2, h3⟩
    · exact .inr ⟨k, h1, h2, h3⟩
theorem met2_join {net : Net M} {a b : List M} : up ((met net a).2 ++ (met net b).2) = (met net (a ++ b)).2 := met2_of fun r => by
  rw [List.mem_append, mem_met2, mem_met2]
  constructor
  · rintro (⟨k, h1, h2, h3⟩ | ⟨k, h1, h2, h3⟩)
    · exact ⟨k, h1, List.mem_append_left _ h2, h3⟩
    · exact ⟨k, h1, List.mem_append_right _ h2, h3⟩
  · rintro ⟨k, h1, h2, h3⟩
    rcases List.mem_append.mp h2 with h2 | h2
    · exact .inl ⟨k, h1, h2, h3⟩
    · exact .inr ⟨k, h1, h2, h3⟩
theorem met_mono1 {net : Net M} {a b : List M} (h : ∀ m ∈ a, m ∈ b) : ∀ r ∈ (met net a).1, r ∈ (met net b).1 := fun r hr => by
  obtain ⟨k, h1, h2, h3⟩ := mem_met1.mp hr
  exact mem_met1.mpr ⟨k, h1, h _ h2, h3⟩
theorem met_mono2 {net : Net M} {a b : List M} (h : ∀ m ∈ a, m ∈ b) : ∀ r ∈ (met net a).2, r ∈ (met net b).2 := fun r hr => by
  obtain ⟨k, h1, h2, h3⟩ := mem_met2.mp hr
  exact mem_met2.mpr ⟨k, h1, h _ h2, h3⟩
/-- a mark of the stream is open -/
theorem open_of {net : Net M} {ms : List M} {k : M × Int × Int} (hk : k ∈ net) (hm : k.1 ∈ ms) : k ∈ openOf net (met net ms).1 (met net ms).2 :=
  mem_open.mpr ⟨hk, mem_met1.mpr ⟨k, hk, hm, rfl⟩, mem_met2.mpr ⟨k, hk, hm, rfl⟩⟩
theorem may_rows {net : Net M} {ms : List M} : up ((openOf net (met net ms).1 (met net ms).2).map (·.2.1)) = (met net ms).1 := by
  refine rise_ext (up_rise _) (met1_rise _ _) fun r => ?_
  rw [mem_up, List.mem_map]
  constructor
  · rintro ⟨k, hk, e⟩
    rw [← e]
    exact (mem_open.mp hk).2.1
  · intro h
    obtain ⟨k, h1, h2, h3⟩ := mem_met1.mp h
    exact ⟨k, open_of h1 h2, h3⟩
theorem may_cols {net : Net M} {ms : List M} : up ((openOf net (met net ms).1 (met net ms).2).map (·.2.2)) = (met net ms).2 := by
  refine rise_ext (up_rise _) (met2_rise _ _) fun r => ?_
  rw [mem_up, List.mem_map]
  constructor
  · rintro ⟨k, hk, e⟩
    rw [← e]
    exact (mem_open.mp hk).2.2
  · intro h
    obtain ⟨k, h1, h2, h3⟩ := mem_met2.mp h
    exact ⟨k, open_of h1 h2, h3⟩
theorem open_mono {net : Net M} {R C R' C' : List Int} (hr : ∀ r ∈ R, r ∈ R') (hc : ∀ c ∈ C, c ∈ C') : (openOf net R C).length ≤ (openOf net R' C').length := by
  unfold openOf
  rw [← List.countP_eq_length_filter, ← List.countP_eq_length_filter]
  refine List.countP_mono_left fun k _ h => ?_
  unfold isOpen at h ⊢
  simp only [Bool.and_eq_true, decide_eq_true_eq] at h ⊢
  exact ⟨hr _ h.1, hc _ h.2⟩
theorem net_one {net : Net M} (nd : (net.map (·.1)).Nodup) {m : M} {p q : Int × Int} (h : (m, p) ∈ net) (h' : (m, q) ∈ net) : p = q := by
  obtain ⟨i, hi, e⟩ := List.mem_iff_getElem.mp h
  obtain ⟨j, hj, e'⟩ := List.mem_iff_getElem.mp h'
  have a : (net.map (·.1))[i]? = some m := by rw [List.getElem?_map, List.getElem?_eq_getElem hi, e]; rfl
  have b : (net.map (·.1))[j]? = some m := by rw [List.getElem?_map, List.getElem?_eq_getElem hj, e']; rfl
  have ij := nd_ix nd a b
  subst ij
  rw [e] at e'
  exact (Prod.mk.inj e').2
/-- the marks cover their cells -/
theorem few_le {net : Net M} (nd : (net.map (·.1)).Nodup) {ms ds : List M} {n : Nat} (hn : ∀ m ∈ ds, ∃ p, (m, p) ∈ net) (hd : ∀ m ∈ ms, m ∈ ds) (F : IsFew (edges net) (met net ms).1 (met net ms).2 n) : n ≤ ds.length := by
  have f : ∀ l : List M, (∀ m ∈ l, ∃ p, (m, p) ∈ net) → ∃ L : List Edge, (∀ e ∈ L, e ∈ edges net) ∧ L.length = l.length ∧ ∀ m ∈ l, ∃ e ∈ L, (m, e) ∈ net := by
    intro l
    induction l with
    | nil => intro _; exact ⟨[], (fun e z => by cases z), rfl, fun m z => by cases z⟩
    | cons m l ih =>
      intro hl
      obtain ⟨L, h1, h2, h3⟩ := ih fun x hx => hl x (List.mem_cons_of_mem _ hx)
      obtain ⟨p, hp⟩ := hl m List.mem_cons_self
      refine ⟨p :: L, fun e z => ?_, by rw [List.length_cons, List.length_cons, h2], fun x z => ?_⟩
      · rcases List.mem_cons.mp z with z | z
        · rw [z]; exact List.mem_map.mpr ⟨_, hp, rfl⟩
        · exact h1 e z
      · rcases List.mem_cons.mp z with z | z
        · rw [z]; exact ⟨p, List.mem_cons_self, hp⟩
        · obtain ⟨e, he, q⟩ := h3 x z
          exact ⟨e, List.mem_cons_of_mem _ he, q⟩
  obtain ⟨L, h1, h2, h3⟩ := f ds hn
  rw [← h2]
  refine F.2 L h1 ⟨fun r hr => ?_, fun c hc => ?_⟩
  · obtain ⟨k, k1, k2, k3⟩ := mem_met1.mp hr
    obtain ⟨e, he, q⟩ := h3 k.1 (hd _ k2)
    exact ⟨e, he, by rw [net_one nd q (show (k.1, k.2) ∈ net from k1)]; exact k3⟩
  · obtain ⟨k, k1, k2, k3⟩ := mem_met2.mp hc
    obtain ⟨e, he, q⟩ := h3 k.1 (hd _ k2)
    exact ⟨e, he, by rw [net_one nd q (show (k.1, k.2) ∈ net from k1)]; exact k3⟩
theorem le_open {net : Net M} {ms ds : List M} (hn : ∀ m ∈ ds, ∃ p, (m, p) ∈ net) (hd : ∀ m ∈ ds, m ∈ ms) (nd : ds.Nodup) : ds.length ≤ (openOf net (met net ms).1 (met net ms).2).length := by
  rw [← List.length_map (fun k : M × Int × Int => k.1) (as := openOf net (met net ms).1 (met net ms).2)]
  refine nd_le nd fun m hm => ?_
  obtain ⟨p, hp⟩ := hn m hm
  exact List.mem_map.mpr ⟨(m, p), open_of hp (hd m hm), rfl⟩

/-! ### ways -/
/-- W: by each row of the marks their columns with it, each with a mark -/
structure WaysOk (S : Net M) (W : AL (AL M)) : Prop where
  nd : (keys W).Nodup
  row : ∀ r, r ∈ keys W ↔ ∃ m c, (m, r, c) ∈ S
  inner : ∀ r l, get W r = some l → (keys l).Nodup ∧ (∀ c m, get l c = some m → (m, r, c) ∈ S) ∧ ∀ m c, (m, r, c) ∈ S → c ∈ keys l
/-- setdefault -/
def setd {α : Type} (l : AL α) (k : Int) (v : α) : AL α := match get l k with
  | some _ => l
  | none => l ++ [(k, v)]
theorem mem_keys_setd {α : Type} {l : AL α} {k j : Int} {v : α} : j ∈ keys (setd l k v) ↔ j ∈ keys l ∨ j = k := by
  unfold setd
  cases e : get l k with
  | some u =>
    show j ∈ keys l ↔ _
    have hk : k ∈ keys l := key_of_get e
    constructor
    · exact .inl
    · rintro (h | h)
      · exact h
      · rw [h]; exact hk
  | none =>
    show j ∈ keys (l ++ [(k, v)]) ↔ _
    unfold keys
    rw [List.map_append, List.mem_append]
    show _ ∨ j ∈ [k] ↔ _
    rw [List.mem_singleton]
theorem nd_setd {α : Type} {l : AL α} {k : Int} {v : α} (h : (keys l).Nodup) : (keys (setd l k v)).Nodup := by
  unfold setd
  cases e : get l k with
  | some u => exact h
  | none =>
    show (keys (l ++ [(k, v)])).Nodup
    have q : keys (l ++ [(k, v)]) = keys l ++ [k] := by unfold keys; rw [List.map_append]; rfl
    rw [q]
    exact nd_snoc h (get_none.mp e)
theorem get_setd {α : Type} {l : AL α} {k j : Int} {v u : α} (h : get (setd l k v) j = some u) : get l j = some u ∨ (j = k ∧ u = v) := by
  unfold setd at h
  cases e : get l k with
  | some z => rw [e] at h; exact .inl h
  | none =>
    rw [e] at h
    have h' : get (l ++ [(k, v)]) j = some u := h
    rw [get_snoc (get_none.mp e)] at h'
    by_cases q : j = k
    · rw [if_pos q] at h'
      exact .inr ⟨q, (Option.some.inj h').symm⟩
    · rw [if_neg q] at h'
      exact .inl h'
theorem WaysOk.start : WaysOk ([] : Net M) [] where
  nd := List.nodup_nil
  row := fun r => by simp [keys]
  inner := fun r l h => by rw [get_nil] at h; cases h
/-- one mark more -/
def wput (W : AL (AL M)) (k : M × Int × Int) : AL (AL M) := put W k.2.1 (setd ((get W k.2.1).getD []) k.2.2 k.1)
theorem WaysOk.more {S : Net M} {W : AL (AL M)} (O : WaysOk S W) (k : M × Int × Int) : WaysOk (S ++ [k]) (wput W k) := by
  obtain ⟨m0, r0, c0⟩ := k
  have in0 : (keys ((get W r0).getD [])).Nodup ∧ (∀ c m, get ((get W r0).getD []) c = some m → (m, r0, c) ∈ S) ∧ ∀ m c, (m, r0, c) ∈ S → c ∈ keys ((get W r0).getD []) := by
    cases e : get W r0 with
    | some l => exact O.inner r0 l e
    | none =>
      refine ⟨List.nodup_nil, fun c m h => ?_, fun m c h => ?_⟩
      · have h' : get ([] : AL M) c = some m := h
        rw [get_nil] at h'; cases h'
      · exact absurd ((O.row r0).mpr ⟨m, c, h⟩) (get_none.mp e)
  show WaysOk _ (put W r0 (setd ((get W r0).getD []) c0 m0))
  refine ⟨nd_put O.nd, fun r => ?_, fun r l h => ?_⟩
  · rw [mem_keys_put, O.row r]
    constructor
    · rintro (⟨m, c, h⟩ | h)
      · exact ⟨m, c, List.mem_append_left _ h⟩
      · exact ⟨m0, c0, by rw [h]; simp⟩
    · rintro ⟨m, c, h⟩
      rcases List.mem_append.mp h with h | h
      · exact .inl ⟨m, c, h⟩
      · have q := List.mem_singleton.mp h
        cases q
        exact .inr rfl
  · rw [get_put] at h
    by_cases e : r = r0
    · rw [if_pos e] at h
      cases h
      subst e
      refine ⟨nd_setd in0.1, fun c m g => ?_, fun m c g => ?_⟩
      · rcases get_setd g with g | ⟨g1, g2⟩
        · exact List.mem_append_left _ (in0.2.1 c m g)
        · rw [g1, g2]; simp
      · rw [mem_keys_setd]
        rcases List.mem_append.mp g with g | g
        · exact .inl (in0.2.2 m c g)
        · have q := List.mem_singleton.mp g
          cases q
          exact .inr rfl
    · rw [if_neg e] at h
      obtain ⟨a1, a2, a3⟩ := O.inner r l h
      refine ⟨a1, fun c m g => List.mem_append_left _ (a2 c m g), fun m c g => ?_⟩
      rcases List.mem_append.mp g with g | g
      · exact a3 m c g
      · have q := List.mem_singleton.mp g
        cases q
        exact absurd rfl e
/-- the columns of a row -/
def nb (W : AL (AL M)) (r : Int) : List Int := keys ((get W r).getD [])
theorem mem_nb {S : Net M} {W : AL (AL M)} (O : WaysOk S W) {r c : Int} (hr : r ∈ keys W) : c ∈ nb W r ↔ ∃ m, (m, r, c) ∈ S := by
  obtain ⟨l, e⟩ := get_some_of hr
  obtain ⟨_, a2, a3⟩ := O.inner r l e
  unfold nb
  rw [e]
  show c ∈ keys l ↔ _
  constructor
  · intro h
    obtain ⟨m, g⟩ := get_some_of h
    exact ⟨m, a2 c m g⟩
  · rintro ⟨m, h⟩
    exact a3 m c h
/-- THE COUNT: few_marks over the pairs tells the least number of marks -/
theorem few_is {net : Net M} {ms : List M} {W : AL (AL M)} {h : AL Int} (O : WaysOk (openOf net (met net ms).1 (met net ms).2) W) (Mt : Mat (nb W) (keys W) h) :
    IsFew (edges net) (met net ms).1 (met net ms).2 (fewN h (keys W) (up ((openOf net (met net ms).1 (met net ms).2).map (·.2.2)))) := by
  rw [may_cols]
  have rr : ∀ r, r ∈ keys W ↔ r ∈ (met net ms).1 := fun r => by
    rw [O.row r]
    constructor
    · rintro ⟨m, c, z⟩
      exact (mem_open.mp z).2.1
    · intro z
      obtain ⟨k, k1, k2, k3⟩ := mem_met1.mp z
      refine ⟨k.1, k.2.2, ?_⟩
      rw [← k3]
      exact open_of k1 k2
  refine IsFew.same (Mt.few O.nd (rise_nd (met2_rise net ms)) (fun r hr c => ?_) (fun r hr => ?_) fun c hc => ?_) rr fun c => Iff.rfl
  · rw [mem_nb O hr]
    constructor
    · rintro ⟨m, z⟩
      obtain ⟨z1, z2, z3⟩ := mem_open.mp z
      exact ⟨List.mem_map.mpr ⟨_, z1, rfl⟩, z3⟩
    · rintro ⟨z1, z2⟩
      obtain ⟨k, k1, k2⟩ := List.mem_map.mp z1
      refine ⟨k.1, mem_open.mpr ⟨?_, (rr r).mp hr, z2⟩⟩
      rw [← k2]
      exact k1
  · obtain ⟨m, c, z⟩ := (O.row r).mp hr
    exact ⟨c, (mem_nb O hr).mpr ⟨m, z⟩⟩
  · obtain ⟨k, k1, k2, k3⟩ := mem_met2.mp hc
    have z := open_of k1 k2
    have hr : k.2.1 ∈ keys W := (O.row _).mpr ⟨k.1, k.2.2, z⟩
    refine ⟨k.2.1, hr, (mem_nb O hr).mpr ⟨k.1, ?_⟩⟩
    rw [← k3]
    exact z
end
end Uk
end
section
set_option linter.all false
set_option maxRecDepth 100000
set_option maxHeartbeats 4000000
/-! sets of any kind of keys, made from a list, walked, sorted -/
namespace UkS
open PySem PySem.Spec PyProof.Rows L2
section
variable {P : Program} {w : World} {K : Type} [DecidableEq K] {knd : KeyKind P w K}
/-- a row of a set's table bears the key k -/
def Ent (knd : KeyKind P w K) (e : Int × Value) (k : K) : Prop := knd.is k e.2 = true ∧ e.1 = knd.hash k ∧ e.2.scannable = true
theorem ents_len {l : List (Int × Value)} {ks : List K} (h : Paired (Ent knd) l ks) : l.length = ks.length := Paired.length h
theorem ents_elems : ∀ {l : List (Int × Value)} {ks : List K}, Paired (Ent knd) l ks → ElemsOf knd l
  | _, _, .nil => fun e he => by cases he
  | _, _, .cons h t => fun e he => by
    rcases List.mem_cons.mp he with z | z
    · rw [z]; exact ⟨⟨_, h.1, h.2.1⟩, h.2.2⟩
    · exact ents_elems t e z
theorem ents_of_mem : ∀ {l : List (Int × Value)} {ks : List K}, Paired (Ent knd) l ks → ∀ e ∈ l, ∃ k ∈ ks, Ent knd e k
  | _, _, .nil => fun e he => by cases he
  | _, _, .cons h t => fun e he => by
    rcases List.mem_cons.mp he with z | z
    · rw [z]; exact ⟨_, List.mem_cons_self, h⟩
    · obtain ⟨k, hk, q⟩ := ents_of_mem t e z
      exact ⟨k, List.mem_cons_of_mem _ hk, q⟩
theorem ents_has : ∀ {l : List (Int × Value)} {ks : List K}, Paired (Ent knd) l ks → ∀ k ∈ ks, ∃ e ∈ l, knd.is k e.2 = true
  | _, _, .nil => fun e he => by cases he
  | _, _, .cons h t => fun k hk => by
    rcases List.mem_cons.mp hk with z | z
    · rw [z]; exact ⟨_, List.mem_cons_self, h.1⟩
    · obtain ⟨e, he, q⟩ := ents_has t k z
      exact ⟨e, List.mem_cons_of_mem _ he, q⟩
theorem ents_perm {l' l : List (Int × Value)} (p : l'.Perm l) : ∀ {ks : List K}, Paired (Ent knd) l ks → ∃ ks', Paired (Ent knd) l' ks' ∧ ks'.Perm ks := by
  induction p with
  | nil => intro ks h; exact ⟨ks, h, List.Perm.refl _⟩
  | cons x _ ih =>
    intro ks h
    cases h with
    | cons h t =>
      obtain ⟨ks', a, b⟩ := ih t
      exact ⟨_ :: ks', .cons h a, b.cons _⟩
  | swap x y l =>
    intro ks h
    cases h with
    | cons h t =>
      cases t with
      | cons h2 t => exact ⟨_ :: _ :: _, .cons h2 (.cons h t), List.Perm.swap _ _ _⟩
  | trans _ _ ih1 ih2 =>
    intro ks h
    obtain ⟨k2, a2, b2⟩ := ih2 h
    obtain ⟨k1, a1, b1⟩ := ih1 a2
    exact ⟨k1, a1, b1.trans b2⟩
theorem ents_snoc : ∀ {l : List (Int × Value)} {ks : List K} {e : Int × Value} {k : K}, Paired (Ent knd) l ks → Ent knd e k → Paired (Ent knd) (l ++ [e]) (ks ++ [k])
  | _, _, _, _, .nil, h => .cons h .nil
  | _, _, _, _, .cons h t, h' => .cons h (ents_snoc t h')

/-- one key more, where it isn't there -/
def addK (ks : List K) (k : K) : List K := if k ∈ ks then ks else ks ++ [k]
/-- each key once, in the order of its first -/
def once (xs : List K) : List K := xs.foldl addK []
theorem mem_addK {ks : List K} {k j : K} : j ∈ addK ks k ↔ j ∈ ks ∨ j = k := by
  unfold addK
  split
  · rename_i h
    exact ⟨.inl, fun z => z.elim id fun e => by rw [e]; exact h⟩
  · rw [List.mem_append, List.mem_singleton]
theorem nd_addK {ks : List K} {k : K} (h : ks.Nodup) : (addK ks k).Nodup := by
  unfold addK
  split
  · exact h
  · rename_i hk
    refine List.nodup_append.mpr ⟨h, by simp, fun x hx y hy e => hk ?_⟩
    rw [← List.mem_singleton.mp hy, ← e]
    exact hx
theorem len_addK (ks : List K) (k : K) : (addK ks k).length ≤ ks.length + 1 := by
  unfold addK
  split
  · omega
  · simp
theorem once_go : ∀ (xs acc : List K), acc.Nodup → (xs.foldl addK acc).Nodup ∧ (∀ k, k ∈ xs.foldl addK acc ↔ k ∈ acc ∨ k ∈ xs) ∧ (xs.foldl addK acc).length ≤ acc.length + xs.length
  | [], acc, h => ⟨h, fun k => by simp, by simp⟩
  | x :: r, acc, h => by
    obtain ⟨a, b, c⟩ := once_go r (addK acc x) (nd_addK h)
    refine ⟨a, fun k => ?_, ?_⟩
    · show k ∈ r.foldl addK (addK acc x) ↔ _
      rw [b k, mem_addK, List.mem_cons]
      exact ⟨fun z => z.elim (fun z => z.elim .inl fun e => .inr (.inl e)) fun z => .inr (.inr z), fun z => z.elim (fun z => .inl (.inl z)) fun z => z.elim (fun e => .inl (.inr e)) .inr⟩
    · show (r.foldl addK (addK acc x)).length ≤ _
      have := len_addK acc x
      rw [List.length_cons]
      omega
theorem once_nd (xs : List K) : (once xs).Nodup := (once_go xs [] List.nodup_nil).1
theorem mem_once {xs : List K} {k : K} : k ∈ once xs ↔ k ∈ xs := ((once_go xs [] List.nodup_nil).2.1 k).trans (by simp)
theorem once_len (xs : List K) : (once xs).length ≤ xs.length := by
  have q : (once xs).length ≤ ([] : List K).length + xs.length := (once_go xs [] List.nodup_nil).2.2
  simpa using q

/-- the set at a: its keys are just these; its table can be walked -/
def SetG (knd : KeyKind P w K) (h : Heap) (a : Addr) (ks : List K) : Prop :=
  ∃ (o : Obj) (es : Array (Int × Value)) (ep : Nat) (t : SetTable) (ls : List K), h.get? a = some o ∧ o.ExactSet ∧ o.data = .set es ep t ∧ Paired (Ent knd) es.toList ls ∧ ls.Perm ks ∧ ks.Nodup ∧
    es.size < scanBound ∧ t.fits es.size = true ∧ Ris t.place.toList ∧ (w.params.followText "set-order" = true ∨ t.led = true)
theorem SetG.at {h h' : Heap} {a : Addr} {ks : List K} (R : SetG knd h a ks) (k : ∀ o, h.get? a = some o → h'.get? a = some o) : SetG knd h' a ks := by
  obtain ⟨o, es, ep, t, ls, ho, r⟩ := R
  exact ⟨o, es, ep, t, ls, k o ho, r⟩
theorem SetG.fresh {h : Heap} {a : Addr} (ho : h.get? a = some { cls := .type "set", dict := none, data := .set #[] 0 (.fresh 0 0 (!w.params.followText "set-order")) }) : SetG knd h a [] := by
  refine ⟨_, #[], 0, _, [], ho, ⟨rfl, rfl, rfl⟩, rfl, .nil, List.Perm.refl _, List.nodup_nil, by decide, rfl, List.Pairwise.nil, ?_⟩
  show _ ∨ (!w.params.followText "set-order") = true
  cases w.params.followText "set-order" with
  | true => exact .inl rfl
  | false => exact .inr rfl
end
section
variable {P : Program} {w : World} {K : Type} [DecidableEq K] {knd : KeyKind P w K} {A : Around} {E : Value → Shared → Prop} {s : Shared} {a : Addr} {ks : List K}
/-- the new rows are written, and laid anew where there are too many -/
theorem stored {f : Bool → Sem Unit} (hf : ∀ (b : Bool) (s1 : Shared) (Q1 : Unit → Shared → Prop), Q1 () s1 → wpAny (model P w) A (f b) Q1 E s1) {o : Obj} {es es1 : Array (Int × Value)} {ep : Nat} {t t1 : SetTable} {ls : List K} {dum : Bool}
    (ho : s.heap.get? a = some o) (hex : o.ExactSet) (hd : o.data = .set es ep t) (h1 : Paired (Ent knd) es1.toList ls) (h2 : ls.Perm ks) (h3 : ks.Nodup) (h4 : es1.size < scanBound) (h5 : t1.fits es1.size = true) (h6 : Ris t1.place.toList)
    (h7 : w.params.followText "set-order" = true ∨ t1.led = true) {Q : Option Bool → Shared → Prop} (hQ : ∀ h', Heap.SameBut a s.heap h' → SetG knd h' a ks → Q (some true) { s with heap := h' }) :
    wpAny (model P w) A (storeSet a es1 t1 >>= fun _ => if (!dum && t1.tooFull) = true then (f (relayAll t1 es1 (SetTable.grown es1.size)).2.2 >>= fun _ => storeSet a (relayAll t1 es1 (SetTable.grown es1.size)).1 (relayAll t1 es1 (SetTable.grown es1.size)).2.1 >>= fun _ => pure (some true)) else pure (some true)) Q E s := by
  have put : ∀ {h : Heap} {u : Obj} {x : Array (Int × Value)} {n : Nat} {y : SetTable} (x' : Array (Int × Value)) (y' : SetTable), h.get? a = some u → u.data = .set x n y → (h.update a (Obj.putSet x' y')).get? a = some { u with data := .set x' (n + 1) y' } := fun {h u x n y} x' y' hu hx => by
    have q := Heap.get?_update_self (Obj.putSet x' y') hu (by rw [putSet_of x' y' hx] <;> rfl)
    rwa [putSet_of x' y' hx] at q
  refine wpAny_bind (wpAny_storeSet_of ho hd ?_ (fits_of_scanBound h4))
  have st := put es1 t1 ho hd
  have sb := Heap.SameBut.update s.heap a (Obj.putSet es1 t1)
  by_cases c : (!dum && t1.tooFull) = true
  · rw [if_pos c]
    refine wpAny_bind (hf _ _ _ ?_)
    have p := relayAll_perm t1 es1 (SetTable.grown es1.size)
    obtain ⟨ls', l1, l2⟩ := ents_perm p h1
    have z : (relayAll t1 es1 (SetTable.grown es1.size)).1.size < scanBound := by
      have q := p.length_eq
      rw [Array.length_toList, Array.length_toList] at q
      omega
    refine wpAny_bind (wpAny_storeSet_of st rfl (wpAny_pure (hQ _ (sb.trans (Heap.SameBut.update _ a _)) ?_)) (fits_of_scanBound z))
    exact ⟨_, _, _, _, ls', put _ _ st rfl, hex, rfl, l1, l2.trans h2, h3, z, relayAll_fits _ _ _, relayAll_ris _ _ _, h7.imp id fun q => by rw [relayAll_led]; exact q⟩
  · rw [if_neg c]
    exact wpAny_pure (hQ _ sb ⟨_, _, _, _, ls, st, hex, rfl, h1, h2, h3, h4, h5, h6, h7⟩)
theorem setG_add {x : Value} {k : K} {Q : Bool → Shared → Prop} (R : SetG knd s.heap a ks) (hk : knd.is k x = true) (hx : x.scannable = true) (room : ks.length + 1 < scanBound)
    (hQ : ∀ (b : Bool) (h' : Heap), Heap.SameBut a s.heap h' → SetG knd h' a (addK ks k) → Q b { s with heap := h' }) : wpAny (model P w) A (setAddHashed a x (knd.hash k)) Q E s := by
  obtain ⟨o, es, ep, t, ls, ho, hex, hd, h1, h2, h3, h4, h5, h6, h7⟩ := R
  have el := ents_elems h1
  unfold setAddHashed setAddHashedIn
  refine wpAny_holding (wpAny_bind (wpAny_setState_of ho hd h5 ?_))
  dsimp only
  rw [byScan_of hx h4 el]
  simp only [↓reduceIte]
  unfold setAddByScan
  refine wpAny_bind (wpAny_bind (wpAny_rule (wpAny_bind (wpAny_setScan_of hk ho hd h5 el ?_))))
  by_cases hin : k ∈ ks
  · obtain ⟨e, he, q⟩ := ents_has h1 k (h2.mem_iff.mpr hin)
    have hs : (es.toList.findIdx? fun e => knd.is k e.2).isSome = true := by
      rw [List.findIdx?_isSome, List.any_eq_true]
      exact ⟨e, he, q⟩
    cases hfi : es.toList.findIdx? fun e => knd.is k e.2 with
    | none => rw [hfi] at hs; cases hs
    | some j =>
      dsimp only
      refine wpAny_pure (wpAny_pure (hQ false s.heap (Heap.SameBut.refl a s.heap) ?_))
      have e2 : addK ks k = ks := if_pos hin
      rw [e2]
      exact ⟨o, es, ep, t, ls, ho, hex, hd, h1, h2, h3, h4, h5, h6, h7⟩
  · have hfi : (es.toList.findIdx? fun e => knd.is k e.2) = none := by
      rw [List.findIdx?_eq_none_iff]
      intro e he
      cases c : knd.is k e.2 with
      | false => rfl
      | true =>
        obtain ⟨j, hj, q⟩ := ents_of_mem h1 e he
        have jk := knd.inj e.2 j k q.1 c
        exact absurd (h2.mem_iff.mp (jk ▸ hj)) hin
    rw [hfi]
    dsimp only
    have e2 : addK ks k = ks ++ [k] := if_neg hin
    rw [e2] at hQ
    have p := layNew_perm t es (knd.hash k) x
    rw [Array.toList_push] at p
    obtain ⟨ls', l1, l2⟩ := ents_perm p (ents_snoc h1 (e := (knd.hash k, x)) (k := k) ⟨hk, rfl, hx⟩)
    have f1 := layNew_fits t es (knd.hash k) x
    have r1 := layNew_ris t es (knd.hash k) x h6
    have d1 : w.params.followText "set-order" = true ∨ (layNew t es (knd.hash k) x).2.1.led = true := h7.imp id fun q => by rw [layNew_led]; exact q
    have pk : ls'.Perm (ks ++ [k]) := l2.trans (h2.append (List.Perm.refl _))
    have nk : (ks ++ [k]).Nodup := e2 ▸ nd_addK h3
    have z1 : (layNew t es (knd.hash k) x).1.size < scanBound := by
      have q1 := (ents_len l1).trans pk.length_eq
      rw [Array.length_toList, List.length_append, List.length_singleton] at q1
      omega
    generalize layNew t es (knd.hash k) x = Z at l1 f1 r1 d1 z1 ⊢
    obtain ⟨es1, t1, dum, gave⟩ := Z
    dsimp only at l1 f1 r1 d1 z1 ⊢
    have fin : ∀ h', Heap.SameBut a s.heap h' → SetG knd h' a (ks ++ [k]) → Q true { s with heap := h' } := fun h' => hQ true h'
    refine wpAny_bind ?_
    have tail : ∀ (t2 : SetTable), t2.fits es1.size = true → Ris t2.place.toList → (w.params.followText "set-order" = true ∨ t2.led = true) → ∀ {f : Bool → Sem Unit}, (∀ (b : Bool) (s1 : Shared) (Q1 : Unit → Shared → Prop), Q1 () s1 → wpAny (model P w) A (f b) Q1 E s1) →
        wpAny (model P w) A (storeSet a es1 t2 >>= fun _ => if (!dum && t2.tooFull) = true then (f (relayAll t2 es1 (SetTable.grown es1.size)).2.2 >>= fun _ => storeSet a (relayAll t2 es1 (SetTable.grown es1.size)).1 (relayAll t2 es1 (SetTable.grown es1.size)).2.1 >>= fun _ => pure (some true)) else pure (some true))
          (fun r s' => r = some true ∧ Q true s') E s := fun t2 a1 a2 a3 {f} hf => stored hf ho hex hd l1 pk nk z1 a1 a2 a3 fun h' sb R => ⟨rfl, fin h' sb R⟩
    refine (fun q => by cases gave <;> first | exact wpAny_pure q | exact wpAny_rule q) ?_
    by_cases c : t1.plain = true
    · rw [if_pos c]
      refine wpAny_bind ?_
      rw [hashByValue_scannable 8 hx]
      refine wpAny_pure ?_
      refine wpAny_mono (tail (if plainKind x = true then t1 else { t1 with plain := false }) ?_ ?_ ?_ ?_) (fun r s' z => ?_) fun _ _ z => z
      · split
        · exact f1
        · exact SetTable.fits_plain_off f1
      · split <;> exact r1
      · split <;> exact d1
      · intro b s1 Q1 q
        cases b <;> first | exact wpAny_pure q | exact wpAny_rule q
      · obtain ⟨z1, z2⟩ := z
        subst z1
        exact wpAny_pure z2
    · rw [if_neg c]
      refine wpAny_bind (wpAny_pure ?_)
      refine wpAny_mono (tail t1 f1 r1 d1 ?_) (fun r s' z => ?_) fun _ _ z => z
      · intro b s1 Q1 q
        cases b <;> first | exact wpAny_pure q | exact wpAny_rule q
      · obtain ⟨z1, z2⟩ := z
        subst z1
        exact wpAny_pure z2

theorem once_take {xs : List K} {i : Nat} {k : K} (h : xs[i]? = some k) : once (xs.take (i + 1)) = addK (once (xs.take i)) k := by
  have e : xs.take (i + 1) = xs.take i ++ [k] := by
    rw [List.take_add_one, h] <;> rfl
  unfold once
  rw [e, List.foldl_append]
  rfl
/-- the loop that fills a set from what a walk gives -/
theorem fill {I : Addr} {fp wr : List Addr} {G : Array GenState → Array GenState → Prop} {n : Nat} {Pv : Nat → Value → Prop} {St : Nat → Shared → Prop} {R : Result → Shared → Prop} (W : WalksS P w A.in1 I fp wr G n Pv St) {S : Addr} (hS : S ∉ fp)
    {xs : List K} (hn : n = xs.length) (hb : xs.length + 1 < scanBound) (hval : ∀ i v, Pv i v → ∃ k, xs[i]? = some k ∧ knd.is k v = true ∧ v.scannable = true) :
    ∀ (m i : Nat) (s : Shared), n - i = m → i ≤ n → St i s → SetG knd s.heap S (once (xs.take i)) →
      (∀ s', Moved (S :: wr) G s s' → SetG knd s'.heap S (once xs) → R (.ok (.ret .none)) s') → codeAny (model P w) A (.builtin "set.update.loop" ⟨[.ref S, .ref I], []⟩) R s := by
  have sw : S ∉ wr := fun z => hS (W.sub _ z)
  have up : ∀ b ∈ wr, b ∈ S :: wr := fun b z => List.mem_cons_of_mem _ z
  intro m
  induction m with
  | zero =>
    intro i s e1 e2 st hG hR
    have ei : i = n := by omega
    subst ei
    refine codeAny_builtin F.entry_set_update_loop ?_
    rw [Around.under_plainId F.plain_set_update_loop _]
    show wpAny _ A.in1 (pyNext (.ref I) >>= _) _ _ s
    refine wpAny_bind (W.done s _ _ st fun s' mv => wpAny_pure (hR s' (mv.mono up) ?_))
    rw [List.take_of_length_le (by omega)] at hG
    exact hG.at fun o q => mv.heap S o sw q
  | succ m ih =>
    intro i s e1 e2 st hG hR
    have hi : i < n := by omega
    refine codeAny_builtin F.entry_set_update_loop ?_
    rw [Around.under_plainId F.plain_set_update_loop _]
    show wpAny _ A.in1 (pyNext (.ref I) >>= _) _ _ s
    refine wpAny_bind (W.item i s _ _ hi st fun v s1 hv st1 mv => ?_)
    obtain ⟨k, hk, hkv, hsc⟩ := hval i v hv
    have hl : (once (xs.take i)).length + 1 < scanBound := by
      have := once_len (xs.take i)
      rw [List.length_take] at this
      omega
    show wpAny _ A.in1 (holding [v] (setAdd S v) >>= _) _ _ s1
    unfold setAdd
    refine wpAny_bind (wpAny_holding (wpAny_holding (wpAny_bind (knd.pyHash hkv ?_))))
    refine setG_add (s := { s1 with toks := s1.toks + 1 }) (hG.at fun o q => mv.heap S o sw q) hkv hsc hl fun _ h2 sb hG2 => ?_
    rw [← once_take hk] at hG2
    refine wpAny_pure ⟨plainId_quiet F.plain_set_update_loop _, ih (i + 1) _ (by omega) hi (W.frame _ s1 _ _ st1 (Nat.le_succ _) fun b z o q => ?_) hG2 fun s3 mv3 hG3 => hR s3 ?_ hG3⟩
    · exact (sb.2 b fun y => hS (y ▸ z)).trans q
    · exact Moved.trans W.gtrans ((mv.mono up).then_heap (Nat.le_succ _) fun b o z q => (sb.2 b fun y => z (y ▸ List.mem_cons_self)).trans q) mv3


/-- set(v): what its filling is to reach -/
theorem set_call {v : Value} {Q : Value → Shared → Prop}
    (h : wpAny (model P w) A.in1.in1 (Builtin.«set.__init__» ⟨[.ref s.heap.objs.size] ++ [v], []⟩) (fun fin s' => match fin with
      | .done f => wants (fun r s2 => r = .none ∧ Q (.ref s.heap.objs.size) s2) E (.ok f) s'
      | .again c' => c'.quiet = true ∧ codeAny (model P w) A.in1 c' (wants (fun r s2 => r = .none ∧ Q (.ref s.heap.objs.size) s2) E) s') (fun e s' => wants (fun r s2 => r = .none ∧ Q (.ref s.heap.objs.size) s2) E (.error e) s')
      { s with heap := s.heap.push { cls := .type "set", dict := none, data := .set #[] 0 (.fresh 0 0 (!w.params.followText "set-order")) } }) :
    wpAny (model P w) A (call (.type "set") [v]) Q E s := by
  obtain ⟨c, tl, hmro⟩ := F.called_set.mro
  have k1 := F.called_set.made
  have k2 := F.called_set.sub
  have k3 := F.called_set.notType
  have k4 := F.called_set.canCreate
  have k5 := F.typeCall_set_1 v
  refine wpAny_call (codeAny_of_tree ?_)
  show wpAny _ _ (callAny (.type "set") _) _ _ _
  refine wpAny_pure ⟨Code.quiet_builtin _ (by decide +kernel), codeAny_builtin F.entry_type_call ?_⟩
  rw [Around.under_plain (weight_type_call_type "set" [v] []) rfl]
  repeat (any_goals (first | assumption | wp_step))
  let ob : Obj := { cls := .type "set", dict := none, data := .set #[] 0 (.fresh 0 0 (!w.params.followText "set-order")) }
  refine codeAny_mono (code_set_led1 v (E := E) (Q₁ := fun u s1 => u = .ref s.heap.objs.size ∧ s1 = { s with heap := s.heap.push ob }) ⟨rfl, rfl⟩) fun r s1 hr => ?_
  match r, hr with
  | .error e, hr => exact hr
  | .ok (.ret u), ⟨e1, e2⟩ =>
    subst e1
    subst e2
    have g0 : (s.heap.push ob).get? s.heap.objs.size = some ob := Heap.get?_push_size _ rfl
    have ty : Shared.TypeIs { s with heap := s.heap.push ob } (.ref s.heap.objs.size) "set" := ⟨_, g0, rfl⟩
    have k6 := F.called_set.init.lookup
    have k7 := F.called_set.init.bind (.ref s.heap.objs.size)
    repeat (any_goals (first | assumption | wp_step))
    refine codeAny_mono (codeAny_call_builtin (R := wants (fun r s2 => r = .none ∧ Q (.ref s.heap.objs.size) s2) E) F.called_set.init.plain F.entry_set_init (check_set_init_1 ty h)) fun r2 s2 hr2 => ?_
    match r2, hr2 with
    | .error e, hr2 => exact hr2
    | .ok (.ret v2), ⟨e1, q⟩ =>
      subst e1
      repeat (any_goals (first | assumption | wp_step))


/-- set(a), a no set and no dict: what its walk is to reach -/
theorem set_call_ref {l : Addr} {o : Obj} {T : String} {Q : Value → Shared → Prop} (ho : s.heap.get? l = some o) (hc : o.cls = .type T) (q1 : isSubtype (.type T) (.type "set") = pure false) (q2 : isSubtype (.type T) (.type "frozenset") = pure false)
    (q3 : (Value.type T == Value.type "dict") = false)
    (h : wpAny (model P w) A.in1.in1 (pyIter (.ref l)) (fun it s1 => wpAny (model P w) A.in1.in1 (runValue (.builtin "set.update.loop" ⟨[.ref s.heap.objs.size, it], []⟩)) (fun r s2 => r = .none ∧ Q (.ref s.heap.objs.size) s2) E s1) E
      { s with heap := s.heap.push { cls := .type "set", dict := none, data := .set #[] 0 (.fresh 0 0 (!w.params.followText "set-order")) } }) :
    wpAny (model P w) A (call (.type "set") [.ref l]) Q E s := by
  refine set_call ?_
  let ob : Obj := { cls := .type "set", dict := none, data := .set #[] 0 (.fresh 0 0 (!w.params.followText "set-order")) }
  have g0 : (s.heap.push ob).get? s.heap.objs.size = some ob := Heap.get?_push_size _ rfl
  have hol : (s.heap.push ob).get? l = some o := Heap.get?_push_of_some _ ho
  obtain ⟨ocls, odict, odata, oslots⟩ := o
  simp only at hc
  subst hc
  clear ho
  unfold Builtin.«set.__init__» noKeywords Builtin.Frozenset.updateFrom
  generalize hPI : pyIter = PI at h
  wp_walk
  refine wpAny_mono h (fun it s1 h1 => ?_) fun _ _ z => z
  refine wpAny_bind (wpAny_mono h1 (fun r s2 q => ?_) fun _ _ z => z)
  show wpAny _ _ _ _ _ _
  refine wpAny_pure ?_
  show wpAny _ _ (ret Value.none) _ _ _
  exact wpAny_pure ⟨rfl, q.2⟩

theorem set_of_list {l : Addr} {items : Array Value} {xs : List K} {Q : Value → Shared → Prop} (hh : A.handled = none) (hl : s.heap.IsList l items) (hz : items.size = xs.length) (hb : xs.length + 1 < scanBound)
    (hv : ∀ (i : Nat) (v : Value), items[i]? = some v → ∃ k, xs[i]? = some k ∧ knd.is k v = true ∧ v.scannable = true)
    (hQ : ∀ (h' : Heap) (tk : Nat), SetG knd h' s.heap.objs.size (once xs) → (∀ b o, s.heap.get? b = some o → h'.get? b = some o) → Q (.ref s.heap.objs.size) { s with heap := h', toks := tk }) :
    wpAny (model P w) A (call (.type "set") [.ref l]) Q E s := by
  obtain ⟨ol, hol, hcl, _⟩ := id hl
  refine set_call_ref hol hcl F.sub_list_set F.sub_list_frozenset (by decide) ?_
  let ob : Obj := { cls := .type "set", dict := none, data := .set #[] 0 (.fresh 0 0 (!w.params.followText "set-order")) }
  have g0 : (s.heap.push ob).get? s.heap.objs.size = some ob := Heap.get?_push_size _ rfl
  have hlt : l < s.heap.objs.size := Heap.lt_size hol
  have hl1 : (s.heap.push ob).IsList l items := hl.push _
  have nl1 : l ≠ (s.heap.push ob).objs.size := by rw [Heap.size_push]; exact Nat.ne_of_lt (Nat.lt_succ_of_lt hlt)
  have hSf : s.heap.objs.size ∉ [(s.heap.push ob).objs.size, l] := fun z => by
    rcases List.mem_cons.mp z with y | y
    · rw [Heap.size_push] at y
      exact absurd y (Nat.ne_of_lt (Nat.lt_succ_self _))
    · exact absurd (List.mem_singleton.mp y) (Nat.ne_of_gt hlt)
  refine wpAny_pyIter_list hl1 ?_
  refine wpAny_runValue ?_
  have hh3 : A.in1.in1.in1.handled = none := hh
  refine fill (knd := knd) ((Walks.list hh3 _ l nl1 items).toS) hSf hz hb hv (items.size - 0) 0 _ (by omega) (Nat.zero_le _) ⟨⟨_, Heap.get?_push_size _ rfl, rfl, rfl⟩, hl1.push _⟩ ?_ fun s3 mv hG => ?_
  · exact SetG.fresh (Heap.get?_push_of_some _ g0)
  · obtain ⟨h3, g3, d3, t3, o3⟩ := s3
    have e1 : g3 = s.gens := mv.gens
    have e2 : d3 = s.drawn := mv.drawn
    have e3 : o3 = s.os := mv.os
    subst e1 e2 e3
    refine ⟨rfl, hQ h3 t3 hG fun b o q => ?_⟩
    have b1 : b < s.heap.objs.size := Heap.lt_size q
    refine mv.heap b o (fun z => ?_) (Heap.get?_push_of_some _ (Heap.get?_push_of_some _ q))
    rcases List.mem_cons.mp z with y | y
    · exact absurd y (Nat.ne_of_lt b1)
    · have y2 := List.mem_singleton.mp y
      rw [Heap.size_push] at y2
      exact absurd y2 (Nat.ne_of_lt (Nat.lt_succ_of_lt b1))

theorem set_of_tuple {l : Addr} {items : Array Value} {xs : List K} {Q : Value → Shared → Prop} (hh : A.handled = none) (hl : s.heap.IsTuple l items) (hz : items.size = xs.length) (hb : xs.length + 1 < scanBound)
    (hv : ∀ (i : Nat) (v : Value), items[i]? = some v → ∃ k, xs[i]? = some k ∧ knd.is k v = true ∧ v.scannable = true)
    (hQ : ∀ (h' : Heap) (tk : Nat), SetG knd h' s.heap.objs.size (once xs) → (∀ b o, s.heap.get? b = some o → h'.get? b = some o) → Q (.ref s.heap.objs.size) { s with heap := h', toks := tk }) :
    wpAny (model P w) A (call (.type "set") [.ref l]) Q E s := by
  obtain ⟨ol, hol, hcl, _⟩ := id hl
  refine set_call_ref hol hcl F.sub_tuple_set F.sub_tuple_frozenset (by decide) ?_
  let ob : Obj := { cls := .type "set", dict := none, data := .set #[] 0 (.fresh 0 0 (!w.params.followText "set-order")) }
  have g0 : (s.heap.push ob).get? s.heap.objs.size = some ob := Heap.get?_push_size _ rfl
  have hlt : l < s.heap.objs.size := Heap.lt_size hol
  have hl1 : (s.heap.push ob).IsTuple l items := hl.push _
  have nl1 : l ≠ (s.heap.push ob).objs.size := by rw [Heap.size_push]; exact Nat.ne_of_lt (Nat.lt_succ_of_lt hlt)
  have hSf : s.heap.objs.size ∉ [(s.heap.push ob).objs.size, l] := fun z => by
    rcases List.mem_cons.mp z with y | y
    · rw [Heap.size_push] at y
      exact absurd y (Nat.ne_of_lt (Nat.lt_succ_self _))
    · exact absurd (List.mem_singleton.mp y) (Nat.ne_of_gt hlt)
  refine wpAny_pyIter_tuple hl1 ?_
  refine wpAny_runValue ?_
  have hh3 : A.in1.in1.in1.handled = none := hh
  refine fill (knd := knd) ((Walks.tuple hh3 _ l nl1 items).toS) hSf hz hb hv (items.size - 0) 0 _ (by omega) (Nat.zero_le _) ⟨⟨_, Heap.get?_push_size _ rfl, rfl, rfl⟩, hl1.push _⟩ ?_ fun s3 mv hG => ?_
  · exact SetG.fresh (Heap.get?_push_of_some _ g0)
  · obtain ⟨h3, g3, d3, t3, o3⟩ := s3
    have e1 : g3 = s.gens := mv.gens
    have e2 : d3 = s.drawn := mv.drawn
    have e3 : o3 = s.os := mv.os
    subst e1 e2 e3
    refine ⟨rfl, hQ h3 t3 hG fun b o q => ?_⟩
    have b1 : b < s.heap.objs.size := Heap.lt_size q
    refine mv.heap b o (fun z => ?_) (Heap.get?_push_of_some _ (Heap.get?_push_of_some _ q))
    rcases List.mem_cons.mp z with y | y
    · exact absurd y (Nat.ne_of_lt b1)
    · have y2 := List.mem_singleton.mp y
      rw [Heap.size_push] at y2
      exact absurd y2 (Nat.ne_of_lt (Nat.lt_succ_of_lt b1))
end
section
variable {P : Program} {w : World} {A : Around} {E : Value → Shared → Prop} {s : Shared} {a : Addr}
/-- the values of the rows, in any order -/
theorem ints_of_ents : ∀ {l : List (Int × Value)} {ks : List Int}, Paired (Ent (intKind P w)) l ks → IntsAre (l.map (·.2)) ks
  | _, _, .nil => .nil
  | _, _, .cons (a := e) h t => by
    obtain ⟨tk, z⟩ := Value.isInt_shape h.1
    show IntsAre (e.2 :: _) _
    rw [z]
    exact .cons _ tk (ints_of_ents t)
theorem strs_of_ents : ∀ {l : List (Int × Value)} {ks : List Str}, Paired (Ent (PySem.strKind P w)) l ks → StrsAre (l.map (·.2)) ks
  | _, _, .nil => .nil
  | _, _, .cons (a := e) h t => by
    obtain ⟨tk, z⟩ := Value.isStrOf_shape h.1
    show StrsAre (e.2 :: _) _
    rw [z]
    exact .cons _ tk (strs_of_ents t)
theorem ints_perm {us us' : List Value} (p : us'.Perm us) : ∀ {ks : List Int}, IntsAre us ks → ∃ ks', IntsAre us' ks' ∧ ks'.Perm ks := by
  induction p with
  | nil => intro ks h; exact ⟨ks, h, .refl _⟩
  | cons x _ ih =>
    intro ks h
    cases h with
    | cons k tk t =>
      obtain ⟨ks', a, b⟩ := ih t
      exact ⟨k :: ks', .cons k tk a, b.cons _⟩
  | swap x y l =>
    intro ks h
    cases h with
    | cons k tk t => cases t with
      | cons k2 tk2 t => exact ⟨k2 :: k :: _, .cons _ _ (.cons _ _ t), .swap _ _ _⟩
  | trans _ _ ih1 ih2 =>
    intro ks h
    obtain ⟨k2, a2, b2⟩ := ih2 h
    obtain ⟨k1, a1, b1⟩ := ih1 a2
    exact ⟨k1, a1, b1.trans b2⟩
theorem strs_perm {us us' : List Value} (p : us'.Perm us) : ∀ {ks : List Str}, StrsAre us ks → ∃ ks', StrsAre us' ks' ∧ ks'.Perm ks := by
  induction p with
  | nil => intro ks h; exact ⟨ks, h, .refl _⟩
  | cons x _ ih =>
    intro ks h
    cases h with
    | cons k tk t =>
      obtain ⟨ks', a, b⟩ := ih t
      exact ⟨k :: ks', .cons k tk a, b.cons _⟩
  | swap x y l =>
    intro ks h
    cases h with
    | cons k tk t => cases t with
      | cons k2 tk2 t => exact ⟨k2 :: k :: _, .cons _ _ (.cons _ _ t), .swap _ _ _⟩
  | trans _ _ ih1 ih2 =>
    intro ks h
    obtain ⟨k2, a2, b2⟩ := ih2 h
    obtain ⟨k1, a1, b1⟩ := ih1 a2
    exact ⟨k1, a1, b1.trans b2⟩
/-- sorted(a), a a set of ints -/
theorem sorted_ints_set {ks : List Int} {Q : Value → Shared → Prop} (R : SetG (intKind P w) s.heap a ks) (hh : A.handled = none) (few : ks.length < 64)
    (hQ : ∀ (s' : Shared) (p : Addr) (out : Array Value) (c : Nat) (ys : List Int), (∀ b o, s.heap.get? b = some o → s'.heap.get? b = some o) → s'.gens = s.gens → s'.os = s.os → s.heap.objs.size ≤ p → s'.heap.get? p = some (seqObj "list" out c) →
      IntsAre out.toList ys → ys.Perm ks → ys.Pairwise (· ≤ ·) → Q (.ref p) s') : wpAny (model P w) A (call (.builtin "sorted") [.ref a]) Q E s := by
  obtain ⟨o, es, ep, t, ls, ho, hex, hd, h1, h2, h3, h4, h5, h6, h7⟩ := R
  refine Calls.call_function_entry kind_sorted plain_sorted entry_sorted (args_sorted1 _) ?_
  unfold Builtin.«sorted»
  refine wpAny_bind (m := checkCount "sorted" 1 1 _) (wpAny_pure (wpAny_bind (collect_set (A := A.in1) hh ⟨o, ho, hex.1, hd⟩ h5 h4 h6 h7 fun s1 us k1 z1 g1 o1 pm => ?_)))
  obtain ⟨xs, x1, x2⟩ := ints_perm pm (ints_of_ents h1)
  have hl : us.length < 64 := by
    have q1 := pm.length_eq
    have q2 := ents_len h1
    have q3 := h2.length_eq
    rw [List.length_map] at q1
    omega
  refine wpAny_bind (wpAny_newList ?_ (by rw [sizeLine_eq]; omega))
  have at0 : (s1.heap.push (seqObj "list" us.toArray 0)).get? s1.heap.objs.size = some (seqObj "list" us.toArray 0) := Heap.get?_push_size _ rfl
  refine wpAny_bind (wpAny_holding (wpAny_call_entry slot_list_sort ⟨_, at0, rfl⟩ entry_list_sort (list_sort_tree at0 x1 hl fun out ys y1 y2 y3 => ⟨_, rfl, ?_⟩) (args_list_sort _)))
  obtain ⟨c, hc⟩ := sortedHeap_at (vs := us) (out := out) at0
  refine wpAny_pure ⟨_, rfl, hQ _ s1.heap.objs.size _ c _ (fun b u q => ?_) g1 o1 z1 hc y1 (y2.trans (x2.trans h2)) y3⟩
  have q1 := k1 b u q
  have lt := Heap.lt_size q1
  show (sortedHeap (s1.heap.push (seqObj "list" us.toArray 0)) s1.heap.objs.size us _).get? b = some u
  rw [sortedHeap_old (Nat.ne_of_lt lt) (by rw [size_push']; exact Nat.lt_succ_of_lt lt)]
  exact Heap.get?_push_of_some _ q1
/-- sorted(a), a a set of strs -/
theorem sorted_strs_set {ks : List Str} {Q : Value → Shared → Prop} (R : SetG (PySem.strKind P w) s.heap a ks) (hh : A.handled = none) (few : ks.length < 64)
    (hQ : ∀ (s' : Shared) (p : Addr) (out : Array Value) (c : Nat) (ys : List Str), (∀ b o, s.heap.get? b = some o → s'.heap.get? b = some o) → s'.gens = s.gens → s'.os = s.os → s.heap.objs.size ≤ p → s'.heap.get? p = some (seqObj "list" out c) →
      StrsAre out.toList ys → ys.Perm ks → sortedS ys = true → Q (.ref p) s') : wpAny (model P w) A (call (.builtin "sorted") [.ref a]) Q E s := by
  obtain ⟨o, es, ep, t, ls, ho, hex, hd, h1, h2, h3, h4, h5, h6, h7⟩ := R
  refine Calls.call_function_entry kind_sorted plain_sorted entry_sorted (args_sorted1 _) ?_
  unfold Builtin.«sorted»
  refine wpAny_bind (m := checkCount "sorted" 1 1 _) (wpAny_pure (wpAny_bind (collect_set (A := A.in1) hh ⟨o, ho, hex.1, hd⟩ h5 h4 h6 h7 fun s1 us k1 z1 g1 o1 pm => ?_)))
  obtain ⟨xs, x1, x2⟩ := strs_perm pm (strs_of_ents h1)
  have hl : us.length < 64 := by
    have q1 := pm.length_eq
    have q2 := ents_len h1
    have q3 := h2.length_eq
    rw [List.length_map] at q1
    omega
  refine wpAny_bind (wpAny_newList ?_ (by rw [sizeLine_eq]; omega))
  have at0 : (s1.heap.push (seqObj "list" us.toArray 0)).get? s1.heap.objs.size = some (seqObj "list" us.toArray 0) := Heap.get?_push_size _ rfl
  refine wpAny_bind (wpAny_holding (wpAny_call_entry slot_list_sort ⟨_, at0, rfl⟩ entry_list_sort (list_sort_treeK strKind_oneLt at0 x1.keysOf (fun v1 v2 r e => keyKind_strs (by rw [← e]; exact x1)) hl fun st' a1 a2 => ⟨_, rfl, ?_⟩) (args_list_sort _)))
  obtain ⟨ys, y1, y2, y3⟩ := sorted_out_str x1 a1 a2
  obtain ⟨c, hc⟩ := sortedHeap_at (vs := us) (out := (arrOf st').map (·.2)) at0
  refine wpAny_pure ⟨_, rfl, hQ _ s1.heap.objs.size _ c _ (fun b u q => ?_) g1 o1 z1 hc y1 (y2.trans (x2.trans h2)) y3⟩
  have q1 := k1 b u q
  have lt := Heap.lt_size q1
  show (sortedHeap (s1.heap.push (seqObj "list" us.toArray 0)) s1.heap.objs.size us _).get? b = some u
  rw [sortedHeap_old (Nat.ne_of_lt lt) (by rw [size_push']; exact Nat.lt_succ_of_lt lt)]
  exact Heap.get?_push_of_some _ q1
end
end UkS
namespace L2
open PySem PySem.Spec PyProof.Rows UkS
/-- the set at a: its keys -/
def SetGO {P : Program} {w : World} {K : Type} [DecidableEq K] (knd : KeyKind P w K) (a : Addr) (ks : List K) : HO := .ext fun h => SetG knd h a ks
section
variable {X : Cx} {K : Type} [DecidableEq K] {knd : KeyKind X.prog X.w K}
theorem setGO_new {P : Program} {w : World} {K : Type} [DecidableEq K] {knd : KeyKind P w K} {H : Hp} {h : Heap} {a : Addr} {ks : List K} (R : SetG knd h a ks) : ObjOk P w H h a (SetGO knd a ks) := by
  have ⟨o, _, _, _, _, ho, _⟩ := R
  exact ⟨R, ⟨o, ho⟩, fun h1 h2 p k => p.at k⟩
theorem setGO_get {pins : List (Addr × Obj)} {σ : St} {H : Hp} {s : Shared} {a : Addr} {ks : List K} (I : Inv X pins σ H s) (ha : H a = some (SetGO knd a ks)) : SetG knd s.heap a ks := (I.hok a _ ha).1
/-- set(xs), xs a list or a tuple of ints -/
def rSetOfI (K : PySem.W.Frag) (P : Program) (w : World) : List V → Hp → VK → Prop := fun vs H Q => ∃ (l : Addr) (ns : List Int), vs = [V.ref l] ∧ (SqL K H l (ns.map V.int) ∨ SqT K H l (ns.map V.int)) ∧ ns.length < 4000 ∧
  ∀ p, H p = none → Q (.ref p) (upd H p (SetGO (intKind P w) p (once ns)))
def rSetOfS (K : PySem.W.Frag) (P : Program) (w : World) : List V → Hp → VK → Prop := fun vs H Q => ∃ (l : Addr) (xs : List Str), vs = [V.ref l] ∧ (SqL K H l (xs.map V.str) ∨ SqT K H l (xs.map V.str)) ∧ xs.length < 4000 ∧
  ∀ p, H p = none → Q (.ref p) (upd H p (SetGO (PySem.strKind P w) p (once xs)))
theorem below_scan {n : Nat} (h : n < 4000) : n + 1 < scanBound := by
  have : scanBound = 4096 := rfl
  omega
theorem cr_setOfI (hc : X.calm = true) : CallR X (.type "set") (rSetOfI X.K X.prog X.w) := by
  intro pins s σ H vs us Q I r h
  obtain ⟨l, xs, rfl, hq, hn, q⟩ := h
  rw [Vals.ref1 r]
  have fr : H s.heap.objs.size = none := I.hok.fresh (Nat.le_refl _)
  have el : ∀ {its : List Value}, Vals (xs.map V.int) its → its.toArray.size = xs.length ∧ ∀ (i : Nat) (v : Value), its.toArray[i]? = some v → ∃ k, xs[i]? = some k ∧ (intKind X.prog X.w).is k v = true ∧ v.scannable = true := fun {its} rv => by
    have hl := rv.length
    rw [List.length_map] at hl
    refine ⟨by rw [List.size_toArray]; exact hl.symm, fun i v hv => ?_⟩
    rw [List.getElem?_toArray] at hv
    have hi : i < xs.length := by rw [hl]; exact (List.getElem?_eq_some_iff.mp hv).1
    obtain ⟨u, e1, t, e2⟩ := rv.get (i := i) (x := V.int xs[i]) (by rw [List.getElem?_map, List.getElem?_eq_getElem hi]; rfl)
    rw [hv] at e1
    cases e1
    subst e2
    exact ⟨xs[i], List.getElem?_eq_getElem hi, intKind_is _ _ _ _, rfl⟩
  have fin : ∀ (h' : Heap) (tk : Nat), SetG (intKind X.prog X.w) h' s.heap.objs.size (once xs) → (∀ b o, s.heap.get? b = some o → h'.get? b = some o) → EP X pins σ Q (.ref s.heap.objs.size) { s with heap := h', toks := tk } := fun h' tk G k =>
    ⟨.ref _, _, I.laid (t' := tk) k (Nat.le_refl _) (setGO_new G), rfl, q _ fr⟩
  rcases hq with hq | hq
  · obtain ⟨its, rv, hl, _⟩ := I.list hq
    exact set_of_list (knd := intKind X.prog X.w) (I.ok.hd hc) hl.isList (el rv).1 (below_scan hn) (el rv).2 fin
  · obtain ⟨its, rv, hl, _⟩ := I.tuple hq
    exact set_of_tuple (knd := intKind X.prog X.w) (I.ok.hd hc) hl (el rv).1 (below_scan hn) (el rv).2 fin
/-- sorted(a), a a set -/
theorem cr_sortedOfI (hc : X.calm = true) : CallR X (.builtin "sorted") (fun vs H Q => ∃ (a : Addr) (ks : List Int), vs = [V.ref a] ∧ H a = some (SetGO (intKind X.prog X.w) a ks) ∧ ks.length < 64 ∧
    ∀ (ys : List Int) (p : Addr), ys.Perm ks → ys.Pairwise (· ≤ ·) → H p = none → Q (.ref p) (upd H p (.lst (ys.map V.int)))) := by
  intro pins s σ H vs us Q I r h
  obtain ⟨a, ks, rfl, ha, few, q⟩ := h
  rw [Vals.ref1 r]
  refine sorted_ints_set (setGO_get I ha) (I.ok.hd hc) few fun s' p out c ys k g o hp hg hi hs hm => ?_
  have hn : H p = none := I.hok.fresh hp
  have hlen : (ys.map V.int).length ≤ sizeLine := by rw [List.length_map, hs.length_eq, sizeLine_eq]; omega
  obtain ⟨h1, g1, d1, t1, o1⟩ := s'
  have eo : o1 = s.os := o
  subst eo
  have J := I.call (h' := h1) (g' := g1) (d' := d1) (t' := t1) (ch := []) (Un.laid k hp hn) (I.hok.laid k hp (o := .lst (ys.map V.int)) ⟨hlen, out.toList, c, vals_of_ints hi, hg⟩) (by have e : g1 = s.gens := g; rw [e]; exact I.bare) (fun _ z => nomatch z)
  exact ⟨.ref p, _, J, rfl, q ys p hs hm hn⟩
theorem cr_setOfS (hc : X.calm = true) : CallR X (.type "set") (rSetOfS X.K X.prog X.w) := by
  intro pins s σ H vs us Q I r h
  obtain ⟨l, xs, rfl, hq, hn, q⟩ := h
  rw [Vals.ref1 r]
  have fr : H s.heap.objs.size = none := I.hok.fresh (Nat.le_refl _)
  have el : ∀ {its : List Value}, Vals (xs.map V.str) its → its.toArray.size = xs.length ∧ ∀ (i : Nat) (v : Value), its.toArray[i]? = some v → ∃ k, xs[i]? = some k ∧ (PySem.strKind X.prog X.w).is k v = true ∧ v.scannable = true := fun {its} rv => by
    have hl := rv.length
    rw [List.length_map] at hl
    refine ⟨by rw [List.size_toArray]; exact hl.symm, fun i v hv => ?_⟩
    rw [List.getElem?_toArray] at hv
    have hi : i < xs.length := by rw [hl]; exact (List.getElem?_eq_some_iff.mp hv).1
    obtain ⟨u, e1, t, e2⟩ := rv.get (i := i) (x := V.str xs[i]) (by rw [List.getElem?_map, List.getElem?_eq_getElem hi]; rfl)
    rw [hv] at e1
    cases e1
    subst e2
    exact ⟨xs[i], List.getElem?_eq_getElem hi, strKind_is _ _ _ _, rfl⟩
  have fin : ∀ (h' : Heap) (tk : Nat), SetG (PySem.strKind X.prog X.w) h' s.heap.objs.size (once xs) → (∀ b o, s.heap.get? b = some o → h'.get? b = some o) → EP X pins σ Q (.ref s.heap.objs.size) { s with heap := h', toks := tk } := fun h' tk G k =>
    ⟨.ref _, _, I.laid (t' := tk) k (Nat.le_refl _) (setGO_new G), rfl, q _ fr⟩
  rcases hq with hq | hq
  · obtain ⟨its, rv, hl, _⟩ := I.list hq
    exact set_of_list (knd := PySem.strKind X.prog X.w) (I.ok.hd hc) hl.isList (el rv).1 (below_scan hn) (el rv).2 fin
  · obtain ⟨its, rv, hl, _⟩ := I.tuple hq
    exact set_of_tuple (knd := PySem.strKind X.prog X.w) (I.ok.hd hc) hl (el rv).1 (below_scan hn) (el rv).2 fin
/-- sorted(a), a a set -/
theorem cr_sortedOfS (hc : X.calm = true) : CallR X (.builtin "sorted") (fun vs H Q => ∃ (a : Addr) (ks : List Str), vs = [V.ref a] ∧ H a = some (SetGO (PySem.strKind X.prog X.w) a ks) ∧ ks.length < 64 ∧
    ∀ (ys : List Str) (p : Addr), ys.Perm ks → sortedS ys = true → H p = none → Q (.ref p) (upd H p (.lst (ys.map V.str)))) := by
  intro pins s σ H vs us Q I r h
  obtain ⟨a, ks, rfl, ha, few, q⟩ := h
  rw [Vals.ref1 r]
  refine sorted_strs_set (setGO_get I ha) (I.ok.hd hc) few fun s' p out c ys k g o hp hg hi hs hm => ?_
  have hn : H p = none := I.hok.fresh hp
  have hlen : (ys.map V.str).length ≤ sizeLine := by rw [List.length_map, hs.length_eq, sizeLine_eq]; omega
  obtain ⟨h1, g1, d1, t1, o1⟩ := s'
  have eo : o1 = s.os := o
  subst eo
  have J := I.call (h' := h1) (g' := g1) (d' := d1) (t' := t1) (ch := []) (Un.laid k hp hn) (I.hok.laid k hp (o := .lst (ys.map V.str)) ⟨hlen, out.toList, c, vals_of_strs hi, hg⟩) (by have e : g1 = s.gens := g; rw [e]; exact I.bare) (fun _ z => nomatch z)
  exact ⟨.ref p, _, J, rfl, q ys p hs hm hn⟩
/-- len(a), a a set -/
theorem cr_lenSetS : CallR X (.builtin "len") (fun vs H Q => ∃ (a : Addr) (ks : List Str), vs = [V.ref a] ∧ H a = some (SetGO (PySem.strKind X.prog X.w) a ks) ∧ Q (.int (ks.length : Nat)) H) := by
  intro pins s σ H vs us Q I r h
  obtain ⟨a, ks, rfl, ha, q⟩ := h
  rw [Vals.ref1 r]
  obtain ⟨o, es, ep, t, ls, ho, hex, hd, h1, h2, h3, h4, h5, _⟩ := setGO_get I ha
  have e : es.size = ks.length := by
    have q1 := ents_len h1
    rw [Array.length_toList] at q1
    exact q1.trans h2.length_eq
  have b : scanBound = 4096 := rfl
  exact call_len_set ho hex hd h5 (by omega) ⟨.int (ks.length : Nat), H, I.tok _, ⟨_, by rw [e]⟩, q⟩
end
end L2
end
section
set_option linter.all false
set_option maxRecDepth 100000
set_option maxHeartbeats 4000000
/-! the text by places; what stands in the heap -/
namespace Uk
open PySem PySem.Spec PyProof.Rows L2 UkS
def topS (i : Nat) : Stmt := PySem.Challenge.pw_sumshare_k66_whole_unlike_marks_of_trees.main.body.getD i (.Pass ⟨0, 0, 0, 0⟩)
/-- day, mark, number, many -/
abbrev Thing := Int × Str × Int × Int
abbrev Row := Str × Int × Int
def thV (t : Thing) : List V := [.int t.1, .str t.2.1, .int t.2.2.1, .int t.2.2.2]
def rowV (k : Row) : List V := [.str k.1, .int k.2.1, .int k.2.2]
/-- vs: tuples with these items -/
structure TupsAt (H : Hp) (vs : List V) (rows : List (List V)) : Prop where
  len : vs.length = rows.length
  get : ∀ (i : Nat) (x : V), vs[i]? = some x → ∃ (t : Addr) (r : List V), x = .ref t ∧ rows[i]? = some r ∧ H t = some (.tup r)
def NetAt (H : Hp) (a : Addr) (net : List Row) : Prop := ∃ vs, H a = some (.tup vs) ∧ TupsAt H vs (net.map rowV)
/-- a list of marks with their rows -/
def SomeAt (H : Hp) (a : Addr) (some' : List Row) : Prop := ∃ vs, H a = some (.lst vs) ∧ TupsAt H vs (some'.map rowV)
def StreamAt (H : Hp) (a : Addr) (st : List Thing) : Prop := ∃ vs, H a = some (.lst vs) ∧ TupsAt H vs (st.map thV)
def marks (st : List Thing) : List Str := st.map (·.2.1)
def intsV (ns : List Int) : List V := ns.map V.int
def CellsAt (H : Hp) (a : Addr) (c : List Int × List Int) : Prop := ∃ r s, H a = some (.tup [.ref r, .ref s]) ∧ H r = some (.tup (intsV c.1)) ∧ H s = some (.tup (intsV c.2))
/-- tuples stay -/
def Tk (H H' : Hp) : Prop := ∀ b xs, H b = some (.tup xs) → H' b = some (.tup xs)
/-- all but p stays -/
def But (p : Addr) (H H' : Hp) : Prop := ∀ b o, b ≠ p → H b = some o → H' b = some o
section
variable {H H1 H' : Hp} {a p : Addr} {o : HO}
theorem same_tk (s : Same H H') : Tk H H' := fun b xs h => s b _ h
theorem same_new (h : H p = none) (o : HO) : Same H (upd H p o) := fun b x e => by
  rw [upd_ne (ne_of_none e h)]
  exact e
theorem same_more (s : Same H H') (h : H' p = none) (o : HO) : Same H (upd H' p o) := s.trans (same_new h o)
theorem same_but (s : Same H H') : But p H H' := fun b x _ h => s b x h
theorem But.trans (x : But p H H1) (y : But p H1 H') : But p H H' := fun b z hb h => y b z hb (x b z hb h)
theorem But.set (o : HO) : But p H (upd H p o) := fun b x hb h => by rw [upd_ne hb]; exact h
theorem But.new {q : Addr} (s : But p H H') (h : H' q = none) (o : HO) : But p H (upd H' q o) := s.trans (same_but (same_new h o))
/-- writes at an object that was new -/
theorem same_put (s : Same H H') (h : H p = none) (o : HO) : Same H (upd H' p o) := fun b x e => by
  rw [upd_ne (ne_of_none e h)]
  exact s b x e
theorem TupsAt.mono {vs : List V} {rows : List (List V)} (h : TupsAt H vs rows) (k : Tk H H') : TupsAt H' vs rows := ⟨h.len, fun i x e => by
  obtain ⟨t, r, e1, e2, e3⟩ := h.get i x e
  exact ⟨t, r, e1, e2, k t r e3⟩⟩
theorem NetAt.mono {net : List Row} (h : NetAt H a net) (k : Tk H H') : NetAt H' a net := by
  obtain ⟨vs, h1, h2⟩ := h
  exact ⟨vs, k _ _ h1, h2.mono k⟩
theorem SomeAt.mono {net : List Row} (h : SomeAt H a net) (s : Same H H') : SomeAt H' a net := by
  obtain ⟨vs, h1, h2⟩ := h
  exact ⟨vs, s _ _ h1, h2.mono (same_tk s)⟩
theorem StreamAt.mono {st : List Thing} (h : StreamAt H a st) (s : Same H H') : StreamAt H' a st := by
  obtain ⟨vs, h1, h2⟩ := h
  exact ⟨vs, s _ _ h1, h2.mono (same_tk s)⟩
theorem CellsAt.mono {c : List Int × List Int} (h : CellsAt H a c) (k : Tk H H') : CellsAt H' a c := by
  obtain ⟨r, s, h1, h2, h3⟩ := h
  exact ⟨r, s, k _ _ h1, k _ _ h2, k _ _ h3⟩
theorem TupsAt.nil : TupsAt H [] [] := ⟨rfl, fun i x e => by simp at e⟩
theorem TupsAt.at {α : Type} {f : α → List V} {vs : List V} {l : List α} (h : TupsAt H vs (l.map f)) {i : Nat} {x : V} (e : vs[i]? = some x) : ∃ (t : Addr) (k : α), x = .ref t ∧ l[i]? = some k ∧ H t = some (.tup (f k)) := by
  obtain ⟨t, r, e1, e2, e3⟩ := h.get i x e
  rw [List.getElem?_map] at e2
  cases q : l[i]? with
  | none => rw [q] at e2; cases e2
  | some k =>
    rw [q] at e2
    have er : f k = r := Option.some.inj e2
    exact ⟨t, k, e1, rfl, er ▸ e3⟩
theorem TupsAt.snoc {α : Type} {f : α → List V} {vs : List V} {l : List α} (h : TupsAt H vs (l.map f)) {t : Addr} {k : α} (e : H t = some (.tup (f k))) : TupsAt H (vs ++ [.ref t]) ((l ++ [k]).map f) := by
  have hl := h.len
  rw [List.length_map] at hl
  refine ⟨by rw [List.length_append, List.map_append, List.length_append, h.len]; rfl, fun i x q => ?_⟩
  rcases Nat.lt_trichotomy i vs.length with z | z | z
  · rw [List.getElem?_append_left z] at q
    obtain ⟨t', r, e1, e2, e3⟩ := h.get i x q
    refine ⟨t', r, e1, ?_, e3⟩
    rw [List.map_append, List.getElem?_append_left (by rw [List.length_map]; omega)]
    exact e2
  · subst z
    rw [List.getElem?_append_right (Nat.le_refl _), Nat.sub_self] at q
    have ex : V.ref t = x := Option.some.inj q
    refine ⟨t, f k, ex.symm, ?_, e⟩
    rw [List.map_append, List.getElem?_append_right (by rw [List.length_map]; omega), List.length_map, ← hl, Nat.sub_self]
    rfl
  · rw [List.getElem?_eq_none (by rw [List.length_append, List.length_singleton]; omega)] at q
    cases q
end
/-- the end of a comprehension's turn: one item more -/
theorem acc_end {H : Hp} {D : Addr} {ys ys' : List V} {y : V} (hl : ys.length < sizeLine) (e : ys' = ys ++ [y]) :
    ∃ acc, (upd H D (.lst ys)) D = some (.lst acc) ∧ acc.length < sizeLine ∧ upd (upd H D (.lst ys)) D (.lst (acc ++ [y])) = upd H D (.lst ys') := ⟨ys, upd_same, hl, by rw [upd_upd, e]⟩
theorem take_map_succ {α β : Type} {f : α → β} {l : List α} {i : Nat} {k : α} (h : l[i]? = some k) : (l.take (i + 1)).map f = (l.take i).map f ++ [f k] := by
  rw [List.take_add_one, h, List.map_append]
  rfl
theorem take_filter_succ {α β : Type} {f : α → β} {p : α → Bool} {l : List α} {i : Nat} {k : α} (h : l[i]? = some k) (hp : p k = true) : ((l.take (i + 1)).filter p).map f = ((l.take i).filter p).map f ++ [f k] := by
  rw [List.take_add_one, h, List.filter_append, List.map_append]
  show _ ++ List.map f (List.filter p [k]) = _
  rw [List.filter_cons_of_pos hp]
  rfl
theorem take_filter_same {α β : Type} {f : α → β} {p : α → Bool} {l : List α} {i : Nat} {k : α} (h : l[i]? = some k) (hp : p k = false) : ((l.take (i + 1)).filter p).map f = ((l.take i).filter p).map f := by
  rw [List.take_add_one, h, List.filter_append, List.map_append]
  show _ ++ List.map f (List.filter p [k]) = _
  rw [List.filter_cons_of_neg (by rw [hp]; simp)]
  exact List.append_nil _
/-! rules whose reading names the written part, for a comprehension's block -/
section
variable {X : Cx} {K : PySem.W.Frag}
theorem ix_tupK (h : X.K = K) : IxR X (rIxT K) := by subst h; exact ix_tup
theorem ix_listK (h : X.K = K) : IxR X (rIxL K) := by subst h; exact ix_list
theorem op_in_seqK (h : X.K = K) : OpR X (compareOp .In) (rIn K false) := by subst h; exact op_in_seq
theorem op_notIn_seqK (h : X.K = K) : OpR X (compareOp .NotIn) (rIn K true) := by subst h; exact op_notIn_seq
theorem pg_tupK {pos : Pos} {es : List Expr} {k : Nat} {t : TGs} {n : Nat} (hK : X.K = K) (hc : X.calm = true) (h : PGs X es t)
    (hn : (assignEach es X.env).length = n := by rfl) (hst : (assignEach es X.env).findIdx? (·.1) = none := by rfl) : PG X (.Tuple es k pos) (gTup K n t) := by subst hK; exact pg_tup hc h hn hst
end
theorem small {n : Nat} (h : n ≤ 1000) : n ≤ sizeLine := Nat.le_of_lt (small1000 h)
/-! what the text's defs lean on: built-ins that are not bound -/
structure Txt (mg : Str → Option Value) : Prop where
  len : mg "len" = none
  set : mg "set" = none
  sorted : mg "sorted" = none
  tuple : mg "tuple" = none
  list : mg "list" = none
  range : mg "range" = none
  int : mg "int" = none
  isinstance : mg "isinstance" = none

section
variable {P : Program} {w : World} {K : PySem.W.Frag} {mg : Str → Option Value} {base : Heap}
/-! ### unlike_in -/
abbrev sUnlike : Stmt := topS 5
theorem scUnlike : FnScope ["stream", "thing"] ["stream"] (defScope sUnlike) := ⟨rfl, rfl, rfl, by decide +kernel, rfl, by decide +kernel, by decide +kernel⟩
def spUnlike : Sp := fun vs H Q _ => ∃ (a : Addr) (st : List Thing), vs = [.ref a] ∧ StreamAt H a st ∧ st.length ≤ 1000 ∧ ∀ H', Same H H' → Q (.int ((once (marks st)).length : Nat)) H'
theorem ok_unlike {f : Addr} {fd : FuncData} (F : Fun K "unlike_in" "unlike_in" sUnlike f fd) (T : Txt mg) : FnOk P w K mg base CX0 1 f fd ["stream"] spUnlike := by
  refine F.ok scUnlike (fun vs H Q E h => ?_) (fun cdv A outer s H vs Q E hr h => ?_)
  · obtain ⟨a, st, rfl, _⟩ := h
    rfl
  obtain ⟨a, st, rfl, ⟨vs, h1, h2⟩, hn, q⟩ := h
  have hl := h2.len
  rw [List.length_map] at hl
  refine ⟨_, pss_one (ps_ret (pe_callB cr_lenSetS (by rfl) T.len PySem.boot_len (pa_cons (pe_callTy (cr_setOfS rfl) (by rfl) T.set (by decide +kernel) (pa_cons
    (pe_lc (own := [("thing", 1)]) (g := gName 1) (tt := tYes) rfl scUnlike.nd (pi_list (pv 0)) (blkOk_by (N := ["stream", "thing"]) (sc := defScope sUnlike) (by decide +kernel)) (fun _ _ _ _ _ => pg_name (i := 1) scUnlike.nd rfl (Or.inl rfl)) (fun _ _ _ _ _ => pts_nil)
      (fun _ _ _ _ _ => pe_ix (ix_tupK (K := K) rfl) (pv 1) pe_int (fun _ _ => rfl))) pa_nil)) pa_nil))), ?_⟩
  refine ⟨_, rfl, a, rfl, ⟨_, SqL.of h1⟩, fun D hD => lc_list (K := K) (a := a) (xs := vs) (fun i H' => H' = upd H D (.lst (((marks st).take i).map V.str))) rfl (fun i H' _ e => ?_) ?_ ?_⟩
  · subst e
    exact SqL.of (same_new hD _ _ _ h1)
  · rintro i x H' hx rfl
    obtain ⟨t, k, rfl, hk, ht⟩ := h2.at hx
    refine ⟨rfl, _, rfl, t, _, _, _, rfl, rfl, SqT.of (same_new hD _ _ _ ht), rfl, ?_⟩
    have hm : (marks st)[i]? = some k.2.1 := by unfold marks; rw [List.getElem?_map, hk]; rfl
    refine acc_end ?_ (take_map_succ hm)
    rw [List.length_map, List.length_take]
    exact small1000 (by unfold marks; rw [List.length_map]; omega)
  · rintro H' rfl
    have e : (marks st).take vs.length = marks st := List.take_of_length_le (by unfold marks; rw [List.length_map]; omega)
    rw [e]
    refine ⟨D, marks st, rfl, .inl (SqL.of upd_same), (by unfold marks; rw [List.length_map]; omega), fun p hp => ?_⟩
    exact ⟨p, _, rfl, upd_same, q _ (same_more (same_new hD _) hp _)⟩
end
end Uk
end
section
set_option linter.all false
set_option maxRecDepth 100000
set_option maxHeartbeats 4000000
namespace Uk
open PySem PySem.Spec PyProof.Rows L2 UkS
/-! ### cells -/
def cellOf (net : List Row) (m : Str) : Int × Int := ((net.find? fun k => decide (k.1 = m)).map (·.2)).getD (0, 0)
theorem cellOf_of {net : List Row} (nd : (net.map (·.1)).Nodup) {m : Str} {p : Int × Int} (h : (m, p) ∈ net) : cellOf net m = p := by
  unfold cellOf
  cases e : net.find? fun k => decide (k.1 = m) with
  | none => 
    have q := List.find?_eq_none.mp e (m, p) h
    simp at q
  | some k =>
    have q1 := List.mem_of_find?_eq_some e
    have q2 : k.1 = m := of_decide_eq_true (List.find?_some (p := fun k : Row => decide (k.1 = m)) e)
    show k.2 = p
    refine net_one nd (m := m) ?_ h
    rw [← q2]
    exact q1
def Known (net : List Row) (ms : List Str) : Prop := ∀ m ∈ ms, ∃ p, (m, p) ∈ net
theorem up_rows {net : List Row} (nd : (net.map (·.1)).Nodup) {ms : List Str} (hk : Known net ms) : up (ms.map fun m => (cellOf net m).1) = (met net ms).1 := met1_of fun r => by
  rw [List.mem_map]
  constructor
  · rintro ⟨m, hm, e⟩
    obtain ⟨p, hp⟩ := hk m hm
    rw [cellOf_of nd hp] at e
    exact ⟨(m, p), hp, hm, e⟩
  · rintro ⟨k, h1, h2, h3⟩
    exact ⟨k.1, h2, by rw [cellOf_of nd (show (k.1, k.2) ∈ net from h1)]; exact h3⟩
theorem up_cols {net : List Row} (nd : (net.map (·.1)).Nodup) {ms : List Str} (hk : Known net ms) : up (ms.map fun m => (cellOf net m).2) = (met net ms).2 := met2_of fun r => by
  rw [List.mem_map]
  constructor
  · rintro ⟨m, hm, e⟩
    obtain ⟨p, hp⟩ := hk m hm
    rw [cellOf_of nd hp] at e
    exact ⟨(m, p), hp, hm, e⟩
  · rintro ⟨k, h1, h2, h3⟩
    exact ⟨k.1, h2, by rw [cellOf_of nd (show (k.1, k.2) ∈ net from h1)]; exact h3⟩
theorem inV_ints {n : Int} : ∀ {ns : List Int}, inV (.int n) (intsV ns) = decide (n ∈ ns)
  | [] => rfl
  | m :: r => by
    show (eqV (.int m) (.int n) || inV (.int n) (intsV r)) = _
    rw [inV_ints (ns := r)]
    show ((m == n) || _) = _
    by_cases e : m = n
    · subst e; simp
    · have : ¬ n = m := fun q => e q.symm
      simp [e, this]
theorem flat_ints (ns : List Int) : (intsV ns).all flatV = true := by
  unfold intsV
  rw [List.all_map]
  exact List.all_eq_true.mpr fun _ _ => rfl
theorem tk_put {H : Hp} {D : Addr} {xs : List V} (h : H D = some (.lst xs)) (o : HO) : Tk H (upd H D o) := fun b ys e => by
  rw [upd_ne (ne_of e h (by intro z; cases z))]
  exact e
theorem le_lt {a : List Int} (h : a.Pairwise (· ≤ ·)) (nd : a.Nodup) : a.Pairwise (· < ·) := by
  refine List.Pairwise.imp₂ (fun a b (h1 : a ≤ b) (h2 : a ≠ b) => ?_) h nd
  show a < b
  omega

section
variable {P : Program} {w : World} {K : PySem.W.Frag} {mg : Str → Option Value} {base : Heap}
/-! ### cells_at -/
abbrev sCellsAt : Stmt := topS 7
theorem scCellsAt : FnScope ["net", "mark", "known", "row", "column"] ["net", "mark"] (defScope sCellsAt) := ⟨rfl, rfl, rfl, by decide +kernel, rfl, by decide +kernel, by decide +kernel⟩
def spCellsAt : Sp := fun vs H Q _ => ∃ (a : Addr) (net : List Row) (m : Str), vs = [.ref a, .str m] ∧ NetAt H a net ∧ (net.map (·.1)).Nodup ∧ (∃ p, (m, p) ∈ net) ∧
  ∀ p H', Same H H' → H' p = some (.tup [.int (cellOf net m).1, .int (cellOf net m).2]) → Q (.ref p) H'
theorem ok_cellsAt {f : Addr} {fd : FuncData} (F : Fun K "cells_at" "cells_at" sCellsAt f fd) : FnOk P w K mg base CX0 1 f fd ["net", "mark"] spCellsAt := by
  refine F.ok scCellsAt (fun vs H Q E h => ?_) (fun cdv A outer s H vs Q E hr h => ?_)
  · obtain ⟨a, net, m, rfl, _⟩ := h
    rfl
  obtain ⟨a, net, m, rfl, ⟨vs, h1, h2⟩, nd, ⟨p0, hp0⟩, q⟩ := h
  have hl := h2.len
  rw [List.length_map] at hl
  refine ⟨_, pss_cons (ps_for PassesOwn.never rfl (pi_tup (pv 0)) (pg_tup rfl (pgs_cons (pg_name (i := 2) scCellsAt.nd rfl (Or.inl rfl)) (pgs_cons (pg_name (i := 3) scCellsAt.nd rfl (Or.inl rfl)) (pgs_cons (pg_name (i := 4) scCellsAt.nd rfl (Or.inl rfl)) pgs_nil))))
      (pss_one (ps_if (pt_cmpR op_eq (pv 2) (pv 1) (nomark _)) (pss_one (ps_ret (pe_tup (pa_cons (pv 3) (pa_cons (pv 4) pa_nil))))) pss_nil)))
    (pss_one ps_never), ?_⟩
  refine ⟨_, rfl, a, rfl, ⟨_, SqT.of h1⟩, for_tup (K := K) (a := a) (xs := vs) (fun i σ H' => H' = H ∧ (∃ y2 y3 y4, σ = [some (.ref a), some (.str m), y2, y3, y4]) ∧ ∀ k ∈ net.take i, k.1 ≠ m)
    ⟨rfl, ⟨_, _, _, rfl⟩, fun k hk => by simp at hk⟩ (fun i σ H' _ ⟨e, _⟩ => e ▸ SqT.of h1) ?_ ?_⟩
  · rintro i x σ H' hx ⟨rfl, ⟨y2, y3, y4, rfl⟩, no⟩
    obtain ⟨t, k, rfl, hk, ht⟩ := h2.at hx
    refine ⟨t, rowV k, rfl, SqT.of ht, rfl, _, _, rfl, _, _, rfl, _, _, rfl, rfl, ?_⟩
    refine ⟨_, rfl, _, rfl, rfl, _, rfl, ?_⟩
    refine ite2 (fun c => ?_) (fun c => ?_)
    · have e : k.1 = m := by
        have := of_decide_eq_true c
        injection this
      have ek : cellOf net m = k.2 := cellOf_of nd (by rw [← e]; exact List.mem_of_getElem? hk)
      refine ⟨_, rfl, _, rfl, (by show 2 ≤ sizeLine; decide), fun p hp => ?_⟩
      refine q p _ (same_new hp _) ?_
      rw [ek]
      exact upd_same
    · have e : k.1 ≠ m := fun z => c (by rw [z]; exact decide_eq_true rfl)
      refine ⟨rfl, ⟨_, _, _, rfl⟩, fun k' hk' => ?_⟩
      rw [List.take_add_one, hk] at hk'
      rcases List.mem_append.mp hk' with z | z
      · exact no k' z
      · rw [List.mem_singleton.mp z]
        exact e
  · rintro σ H' ⟨rfl, _, no⟩
    exact no (m, p0) (by rw [List.take_of_length_le (by omega)]; exact hp0) rfl
/-! ### rising -/
abbrev sRising : Stmt := topS 9
theorem scRising : FnScope ["some"] ["some"] (defScope sRising) := ⟨rfl, rfl, rfl, by decide +kernel, rfl, by decide +kernel, by decide +kernel⟩
def spRising : Sp := fun vs H Q _ => ∃ (a : Addr) (ns : List Int), vs = [.ref a] ∧ (H a = some (.lst (intsV ns)) ∨ H a = some (.tup (intsV ns))) ∧ ns.length < 64 ∧
  ∀ p H', Same H H' → H' p = some (.tup (intsV (up ns))) → Q (.ref p) H'
theorem up_once {ns ys : List Int} (h1 : ys.Perm (once ns)) (h2 : ys.Pairwise (· ≤ ·)) : ys = up ns :=
  up_of (le_lt h2 (h1.nodup_iff.mpr (once_nd ns))) fun k => h1.mem_iff.trans mem_once
theorem ok_rising {f : Addr} {fd : FuncData} (F : Fun K "rising" "rising" sRising f fd) (T : Txt mg) : FnOk P w K mg base CX0 1 f fd ["some"] spRising := by
  refine F.ok scRising (fun vs H Q E h => ?_) (fun cdv A outer s H vs Q E hr h => ?_)
  · obtain ⟨a, ns, rfl, _⟩ := h
    rfl
  obtain ⟨a, ns, rfl, h1, hn, q⟩ := h
  refine ⟨_, pss_one (ps_ret (pe_callTy call_tuple_of (by rfl) T.tuple (by decide +kernel) (pa_cons (pe_callB (cr_sortedOfI rfl) (by rfl) T.sorted (by decide +kernel) (pa_cons (pe_callTy (cr_setOfI rfl) (by rfl) T.set (by decide +kernel) (pa_cons (pv 0) pa_nil)) pa_nil)) pa_nil))), ?_⟩
  have ol := once_len ns
  refine ⟨_, rfl, a, ns, rfl, h1.imp SqL.of SqT.of, by omega, fun p hp => ⟨p, _, rfl, upd_same, by omega, fun ys p2 e1 e2 hp2 => ?_⟩⟩
  have ey := up_once e1 e2
  subst ey
  exact ⟨p2, _, rfl, .inl ⟨SqL.of upd_same, fun p3 hp3 => q p3 _ (same_more (same_more (same_new hp _) hp2 _) hp3 _) upd_same⟩⟩
/-- a def of the text that keeps its promise -/
def IsDef (P : Program) (w : World) (K : PySem.W.Frag) (mg : Str → Option Value) (base : Heap) (name : Str) (k : Nat) (ps : List Str) (sp : Sp) : Prop :=
  ∃ (f : Addr) (fd : FuncData), FnOk P w K mg base CX0 k f fd ps sp ∧ mg name = some (.ref f) ∧ PySem.W.keepIn K (.ref f) = true ∧ Binds K fd ps []
/-! ### cells_of -/
abbrev sCellsOf : Stmt := topS 10
abbrev nCellsOf : List Str := ["net", "stream", "places", "day", "mark", "number", "many", "place"]
theorem scCellsOf : FnScope nCellsOf ["net", "stream"] (defScope sCellsOf) := ⟨rfl, rfl, rfl, by decide +kernel, rfl, by decide +kernel, by decide +kernel⟩
def spCellsOf : Sp := fun vs H Q _ => ∃ (a b : Addr) (net : List Row) (st : List Thing), vs = [.ref a, .ref b] ∧ NetAt H a net ∧ StreamAt H b st ∧ (net.map (·.1)).Nodup ∧ Known net (marks st) ∧ st.length < 64 ∧
  ∀ p H', Same H H' → CellsAt H' p (met net (marks st)) → Q (.ref p) H'
def cellV (net : List Row) (m : Str) : List V := [.int (cellOf net m).1, .int (cellOf net m).2]
/-- a comprehension of the items at a place of tuples -/
theorem ok_cellsOf {f : Addr} {fd : FuncData} (F : Fun K "cells_of" "cells_of" sCellsOf f fd) (DC : IsDef P w K mg base "cells_at" 1 ["net", "mark"] spCellsAt) (DR : IsDef P w K mg base "rising" 1 ["some"] spRising) :
    FnOk P w K mg base CX0 2 f fd ["net", "stream"] spCellsOf := by
  obtain ⟨fC, fdC, GC, mC, kC, bC⟩ := DC
  obtain ⟨fR, fdR, GR, mR, kR, bR⟩ := DR
  refine F.ok scCellsOf (fun vs H Q E h => ?_) (fun cdv A outer s H vs Q E hr h => ?_)
  · obtain ⟨a, b, net, st, rfl, _⟩ := h
    rfl
  obtain ⟨a, b, net, st, rfl, hN, ⟨vs, h1, h2⟩, nd, hk, hn, q⟩ := h
  have hl := h2.len
  rw [List.length_map] at hl
  refine ⟨_, pss_cons (ps_setLc (i := 2) (own := [("day", 3), ("mark", 4), ("number", 5), ("many", 6)]) (g := gTup K 4 (gCons (gName 3) (gCons (gName 4) (gCons (gName 5) (gCons (gName 6) gNil))))) (tt := tYes) rfl scCellsOf.nd rfl rfl (sw_true rfl rfl rfl (by decide +kernel))
      (pi_list (pv 1)) (blkOk_by (N := nCellsOf) (sc := defScope sCellsOf) (by decide +kernel))
      (fun _ _ _ _ _ => pg_tupK rfl rfl (pgs_cons (pg_name (i := 3) scCellsOf.nd rfl (Or.inl rfl)) (pgs_cons (pg_name (i := 4) scCellsOf.nd rfl (Or.inl rfl)) (pgs_cons (pg_name (i := 5) scCellsOf.nd rfl (Or.inl rfl)) (pgs_cons (pg_name (i := 6) scCellsOf.nd rfl (Or.inl rfl)) pgs_nil)))))
      (fun _ _ _ _ _ => pts_nil) (fun _ _ _ _ _ => pe_call GC hr rfl mC kC bC .nil pass0 (pa_cons (pv 0) (pa_cons (pv 4) pa_nil))))
    (pss_one (ps_ret (pe_tup (pa_cons
      (pe_call GR hr rfl mR kR bR .nil pass0 (pa_cons (pe_lc (own := [("place", 7)]) (g := gName 7) (tt := tYes) rfl scCellsOf.nd (pi_list (pv 2)) (blkOk_by (N := nCellsOf) (sc := defScope sCellsOf) (by decide +kernel)) (fun _ _ _ _ _ => pg_name (i := 7) scCellsOf.nd rfl (Or.inl rfl)) (fun _ _ _ _ _ => pts_nil)
        (fun _ _ _ _ _ => pe_ix (ix_tupK (K := K) rfl) (pv 7) pe_int (fun _ _ => rfl))) pa_nil))
      (pa_cons (pe_call GR hr rfl mR kR bR .nil pass0 (pa_cons (pe_lc (own := [("place", 7)]) (g := gName 7) (tt := tYes) rfl scCellsOf.nd (pi_list (pv 2)) (blkOk_by (N := nCellsOf) (sc := defScope sCellsOf) (by decide +kernel)) (fun _ _ _ _ _ => pg_name (i := 7) scCellsOf.nd rfl (Or.inl rfl)) (fun _ _ _ _ _ => pts_nil)
        (fun _ _ _ _ _ => pe_ix (ix_tupK (K := K) rfl) (pv 7) pe_int (fun _ _ => rfl))) pa_nil)) pa_nil))))), ?_⟩
  -- places
  refine ⟨_, rfl, b, rfl, ⟨_, SqL.of h1⟩, fun D hD => lc_list (K := K) (a := b) (xs := vs) (fun i H' => Same H H' ∧ ∃ acc, H' D = some (.lst acc) ∧ TupsAt H' acc (((marks st).take i).map (cellV net))) ⟨same_new hD _, [], upd_same, TupsAt.nil⟩ (fun i H' _ e => SqL.of (e.1 _ _ h1)) ?_ ?_⟩
  · rintro i x H' hx ⟨s1, acc, hA, hT⟩
    obtain ⟨t, k, rfl, hkk, ht⟩ := h2.at hx
    have hm : (marks st)[i]? = some k.2.1 := by unfold marks; rw [List.getElem?_map, hkk]; rfl
    have hi : i < (marks st).length := (List.getElem?_eq_some_iff.mp hm).1
    have hlen : acc.length = i := by
      rw [hT.len, List.length_map, List.length_take]
      omega
    have hi2 : i < st.length := by
      have : (marks st).length = st.length := List.length_map _
      omega
    refine ⟨t, thV k, rfl, SqT.of (s1 _ _ ht), rfl, _, _, rfl, _, _, rfl, _, _, rfl, _, _, rfl, rfl, rfl, ?_⟩
    refine ⟨_, rfl, _, rfl, a, net, _, rfl, hN.mono (same_tk s1), nd, hk _ (List.mem_of_getElem? hm), fun p H2 s2 hp => ?_⟩
    have hA2 := s2 _ _ hA
    refine ⟨acc, hA2, small1000 (by omega), same_put (s1.trans s2) hD _, _, upd_same, ?_⟩
    rw [List.take_add_one, hm]
    exact ((hT.mono (same_tk s2)).snoc hp).mono (tk_put hA2 _)
  · rintro H1 ⟨s1, ps, hA, hT⟩
    have ml : (marks st).length = st.length := List.length_map _
    rw [List.take_of_length_le (by omega)] at hT
    have pl : ps.length = st.length := by rw [hT.len, List.length_map, ml]
    -- rows
    refine ⟨_, rfl, D, rfl, ⟨_, SqL.of hA⟩, fun D2 hD2 => lc_list (K := K) (a := D) (xs := ps) (fun i H' => H' = upd H1 D2 (.lst ((((marks st).map fun m => (cellOf net m).1).take i).map V.int))) rfl (fun i H' _ e => ?_) ?_ ?_⟩
    · subst e
      exact SqL.of (same_new hD2 _ _ _ hA)
    · rintro i x H' hx rfl
      obtain ⟨t, m, rfl, hm, ht⟩ := hT.at hx
      refine ⟨rfl, _, rfl, t, _, _, _, rfl, rfl, SqT.of (same_new hD2 _ _ _ ht), rfl, ?_⟩
      refine acc_end ?_ (take_map_succ (by rw [List.getElem?_map, hm]; rfl))
      rw [List.length_map, List.length_take]
      exact small1000 (by rw [List.length_map]; omega)
    rintro H2 rfl
    rw [List.take_of_length_le (by rw [List.length_map]; omega)]
    refine ⟨D2, _, rfl, .inl upd_same, by rw [List.length_map]; omega, fun r H3 s3 hR => ?_⟩
    have hA3 := s3 _ _ (same_new hD2 _ _ _ hA)
    have hT3 : TupsAt H3 ps _ := hT.mono (same_tk ((same_new hD2 _).trans s3))
    have s03 : Same H H3 := s1.trans ((same_new hD2 _).trans s3)
    -- columns
    refine ⟨_, rfl, D, rfl, ⟨_, SqL.of hA3⟩, fun D3 hD3 => lc_list (K := K) (a := D) (xs := ps) (fun i H' => H' = upd H3 D3 (.lst ((((marks st).map fun m => (cellOf net m).2).take i).map V.int))) rfl (fun i H' _ e => ?_) ?_ ?_⟩
    · subst e
      exact SqL.of (same_new hD3 _ _ _ hA3)
    · rintro i x H' hx rfl
      obtain ⟨t, m, rfl, hm, ht⟩ := hT3.at hx
      refine ⟨rfl, _, rfl, t, _, _, _, rfl, rfl, SqT.of (same_new hD3 _ _ _ ht), rfl, ?_⟩
      refine acc_end ?_ (take_map_succ (by rw [List.getElem?_map, hm]; rfl))
      rw [List.length_map, List.length_take]
      exact small1000 (by rw [List.length_map]; omega)
    rintro H4 rfl
    rw [List.take_of_length_le (by rw [List.length_map]; omega)]
    refine ⟨D3, _, rfl, .inl upd_same, by rw [List.length_map]; omega, fun c H5 s5 hC => ?_⟩
    rw [up_rows nd hk] at hR
    rw [up_cols nd hk] at hC
    have s35 : Same H3 H5 := (same_new hD3 _).trans s5
    refine ⟨(by show 2 ≤ sizeLine; decide), fun p hp => ?_⟩
    refine q p _ (same_more (s03.trans s35) hp _) ⟨r, c, upd_same, ?_, ?_⟩
    · exact same_new hp _ _ _ (s35 _ _ hR)
    · exact same_new hp _ _ _ hC
end
end Uk
end
section
set_option linter.all false
set_option maxRecDepth 100000
set_option maxHeartbeats 4000000
namespace Uk
open PySem PySem.Spec PyProof.Rows L2 UkS
section
variable {P : Program} {w : World} {K : PySem.W.Frag} {mg : Str → Option Value} {base : Heap}
/-- t + u of tuples: some tuple of all items -/
theorem cat_at {H : Hp} {a b : Addr} {xs ys : List V} {Q : VK} (ha : H a = some (.tup xs)) (hb : H b = some (.tup ys)) (hz : xs.length + ys.length ≤ sizeLine) (h : ∀ t H', Same H H' → H' t = some (.tup (xs ++ ys)) → Q (.ref t) H') : rCatA K (.ref a) (.ref b) H Q := by
  refine ⟨a, b, xs, ys, rfl, rfl, SqT.of ha, SqT.of hb, hz, fun e => ?_, fun _ e => ?_, fun _ _ p hp => h p _ (same_new hp _) upd_same⟩
  · refine h b H (Same.refl H) ?_
    rw [e]
    exact hb
  · refine h a H (Same.refl H) ?_
    rw [e, List.append_nil]
    exact ha
/-! ### merged_cells -/
abbrev sMerged : Stmt := topS 11
theorem scMerged : FnScope ["one", "other"] ["one", "other"] (defScope sMerged) := ⟨rfl, rfl, rfl, by decide +kernel, rfl, by decide +kernel, by decide +kernel⟩
def spMerged : Sp := fun vs H Q _ => ∃ (a b : Addr) (c d : List Int × List Int), vs = [.ref a, .ref b] ∧ CellsAt H a c ∧ CellsAt H b d ∧ c.1.length + d.1.length < 64 ∧ c.2.length + d.2.length < 64 ∧
  ∀ p H', Same H H' → CellsAt H' p (up (c.1 ++ d.1), up (c.2 ++ d.2)) → Q (.ref p) H'
theorem ok_merged {f : Addr} {fd : FuncData} (F : Fun K "merged_cells" "merged_cells" sMerged f fd) (DR : IsDef P w K mg base "rising" 1 ["some"] spRising) :
    FnOk P w K mg base CX0 2 f fd ["one", "other"] spMerged := by
  obtain ⟨fR, fdR, GR, mR, kR, bR⟩ := DR
  refine F.ok scMerged (fun vs H Q E h => ?_) (fun cdv A outer s H vs Q E hr h => ?_)
  · obtain ⟨a, b, c, d, rfl, _⟩ := h
    rfl
  obtain ⟨a, b, c, d, rfl, ⟨r, s, h1, h2, h3⟩, ⟨r', s', g1, g2, g3⟩, z1, z2, q⟩ := h
  refine ⟨_, pss_one (ps_ret (pe_tup (pa_cons (pe_call GR hr rfl mR kR bR .nil pass0 (pa_cons (pe_op op_catA (pe_ix ix_tup (pv 0) pe_int (fun _ _ => rfl)) (pe_ix ix_tup (pv 1) pe_int (fun _ _ => rfl))) pa_nil))
    (pa_cons (pe_call GR hr rfl mR kR bR .nil pass0 (pa_cons (pe_op op_catA (pe_ix ix_tup (pv 0) pe_int (fun _ _ => rfl)) (pe_ix ix_tup (pv 1) pe_int (fun _ _ => rfl))) pa_nil)) pa_nil)))), ?_⟩
  refine ⟨_, rfl, a, _, _, _, rfl, rfl, SqT.of h1, rfl, _, rfl, b, _, _, _, rfl, rfl, SqT.of g1, rfl, cat_at h2 g2 ?_ fun t H1 s1 ht => ?_⟩
  · unfold intsV
    rw [List.length_map, List.length_map]
    exact small (by omega)
  have e1 : intsV c.1 ++ intsV d.1 = intsV (c.1 ++ d.1) := by unfold intsV; rw [List.map_append]
  rw [e1] at ht
  refine ⟨t, c.1 ++ d.1, rfl, .inr ht, by rw [List.length_append]; exact z1, fun p1 H2 s2 hp1 => ?_⟩
  have s02 : Same H H2 := s1.trans s2
  refine ⟨_, rfl, a, _, _, _, rfl, rfl, SqT.of (s02 _ _ h1), rfl, _, rfl, b, _, _, _, rfl, rfl, SqT.of (s02 _ _ g1), rfl, cat_at (s02 _ _ h3) (s02 _ _ g3) ?_ fun t2 H3 s3 ht2 => ?_⟩
  · unfold intsV
    rw [List.length_map, List.length_map]
    exact small (by omega)
  have e2 : intsV c.2 ++ intsV d.2 = intsV (c.2 ++ d.2) := by unfold intsV; rw [List.map_append]
  rw [e2] at ht2
  refine ⟨t2, c.2 ++ d.2, rfl, .inr ht2, by rw [List.length_append]; exact z2, fun p2 H4 s4 hp2 => ?_⟩
  refine ⟨(by show 2 ≤ sizeLine; decide), fun p hp => ?_⟩
  exact q p _ (same_more (s02.trans (s3.trans s4)) hp _) ⟨p1, p2, upd_same, same_new hp _ _ _ (s4 _ _ (s3 _ _ hp1)), same_new hp _ _ _ hp2⟩
/-! ### open_rows -/
abbrev sOpen : Stmt := topS 12
abbrev nOpen : List Str := ["net", "cells", "rows", "columns", "known"]
theorem scOpen : FnScope nOpen ["net", "cells"] (defScope sOpen) := ⟨rfl, rfl, rfl, by decide +kernel, rfl, by decide +kernel, by decide +kernel⟩
def spOpen : Sp := fun vs H Q _ => ∃ (a b : Addr) (net : List Row) (c : List Int × List Int), vs = [.ref a, .ref b] ∧ NetAt H a net ∧ CellsAt H b c ∧ net.length ≤ 1000 ∧
  ∀ p H', Same H H' → SomeAt H' p (openOf net c.1 c.2) → Q (.ref p) H'
theorem ok_open {f : Addr} {fd : FuncData} (F : Fun K "open_rows" "open_rows" sOpen f fd) : FnOk P w K mg base CX0 1 f fd ["net", "cells"] spOpen := by
  refine F.ok scOpen (fun vs H Q E h => ?_) (fun cdv A outer s H vs Q E hr h => ?_)
  · obtain ⟨a, b, net, c, rfl, _⟩ := h
    rfl
  obtain ⟨a, b, net, c, rfl, ⟨vs, h1, h2⟩, ⟨r, s, g1, g2, g3⟩, hn, q⟩ := h
  have hl := h2.len
  rw [List.length_map] at hl
  refine ⟨_, pss_cons (ps_asg (pv 1) (pg_tup rfl (pgs_cons (pg_name (i := 2) scOpen.nd rfl (Or.inr rfl)) (pgs_cons (pg_name (i := 3) scOpen.nd rfl (Or.inr rfl)) pgs_nil))))
    (pss_one (ps_ret (pe_lc (own := [("known", 4)]) (g := gName 4) rfl scOpen.nd (pi_tup (pv 0)) (blkOk_by (N := nOpen) (sc := defScope sOpen) (by decide +kernel)) (fun _ _ _ _ _ => pg_name (i := 4) scOpen.nd rfl (Or.inl rfl))
      (fun _ _ _ _ _ => pts_one (PW.pt (pw_and (pt_cmpR (op_in_seqK (K := K) rfl) (pe_ix (ix_tupK (K := K) rfl) (pv 4) pe_int (fun _ _ => rfl)) (pv 2) (by rfl)) (pw_and1 (pt_cmpR (op_in_seqK (K := K) rfl) (pe_ix (ix_tupK (K := K) rfl) (pv 4) pe_int (fun _ _ => rfl)) (pv 3) (by rfl))))))
      (fun _ _ _ _ _ => pv 4)))), ?_⟩
  refine ⟨_, rfl, b, _, rfl, SqT.of g1, rfl, _, _, rfl, _, _, rfl, rfl, ?_⟩
  refine ⟨_, rfl, a, rfl, ⟨_, SqT.of h1⟩, fun D hD => lc_tup (K := K) (a := a) (xs := vs) (fun i H' => ∃ acc, H' = upd H D (.lst acc) ∧ acc.length ≤ i ∧ TupsAt H acc (((net.take i).filter (isOpen c.1 c.2)).map rowV)) ⟨[], rfl, Nat.le_refl _, TupsAt.nil⟩ (fun i H' _ ⟨acc, e, _⟩ => ?_) ?_ ?_⟩
  · subst e
    exact SqT.of (same_new hD _ _ _ h1)
  · rintro i x H' hx ⟨acc, rfl, hle, hT⟩
    obtain ⟨t, k, rfl, hk, ht⟩ := h2.at hx
    have hi : i < net.length := (List.getElem?_eq_some_iff.mp hk).1
    have sn : Same H (upd H D (.lst acc)) := same_new hD _
    -- the tests
    refine ⟨rfl, _, rfl, t, _, _, _, rfl, rfl, SqT.of (sn _ _ ht), rfl, _, rfl, r, _, rfl, .inr (SqT.of (sn _ _ g2)), rfl, flat_ints _, _, rfl, ?_⟩
    show if (if false = true then _ else inV (V.int k.2.1) (intsV c.1)) = true then _ else _
    rw [if_neg Bool.false_ne_true, inV_ints]
    have keep : ∀ (h : isOpen c.1 c.2 k = true), ∃ acc', (upd H D (.lst acc)) D = some (.lst acc') ∧ acc'.length < sizeLine ∧ ∃ acc2, upd (upd H D (.lst acc)) D (.lst (acc' ++ [.ref t])) = upd H D (.lst acc2) ∧ acc2.length ≤ i + 1 ∧ TupsAt H acc2 (((net.take (i + 1)).filter (isOpen c.1 c.2)).map rowV) := fun h => by
      refine ⟨acc, upd_same, small1000 (by omega), acc ++ [.ref t], upd_upd, by rw [List.length_append, List.length_singleton]; omega, ?_⟩
      rw [take_filter_succ hk h, ← List.map_singleton (f := rowV), ← List.map_append]
      exact hT.snoc ht
    have skip : ∀ (h : isOpen c.1 c.2 k = false), ∃ acc2, upd H D (.lst acc) = upd H D (.lst acc2) ∧ acc2.length ≤ i + 1 ∧ TupsAt H acc2 (((net.take (i + 1)).filter (isOpen c.1 c.2)).map rowV) := fun h => by
      refine ⟨acc, rfl, by omega, ?_⟩
      rw [take_filter_same hk h]
      exact hT
    by_cases c1 : k.2.1 ∈ c.1
    · rw [if_pos (decide_eq_true c1)]
      refine ⟨_, rfl, t, _, _, _, rfl, rfl, SqT.of (sn _ _ ht), rfl, _, rfl, s, _, rfl, .inr (SqT.of (sn _ _ g3)), rfl, flat_ints _, _, rfl, ?_⟩
      show if (if false = true then _ else inV (V.int k.2.2) (intsV c.2)) = true then _ else _
      rw [if_neg Bool.false_ne_true, inV_ints]
      by_cases c2 : k.2.2 ∈ c.2
      · rw [if_pos (decide_eq_true c2)]
        exact ⟨_, rfl, keep (by unfold isOpen; simp [c1, c2])⟩
      · rw [if_neg (by simp [c2])]
        exact skip (by unfold isOpen; simp [c2])
    · rw [if_neg (by simp [c1])]
      exact iteF (skip (by unfold isOpen; simp [c1]))
  · rintro H' ⟨acc, rfl, _, hT⟩
    rw [List.take_of_length_le (by omega)] at hT
    exact q D _ (same_new hD _) ⟨acc, upd_same, hT.mono (same_tk (same_new hD _))⟩
/-! ### may_be -/
abbrev sMayBe : Stmt := topS 13
abbrev nMayBe : List Str := ["net", "cells", "some", "known"]
theorem scMayBe : FnScope nMayBe ["net", "cells"] (defScope sMayBe) := ⟨rfl, rfl, rfl, by decide +kernel, rfl, by decide +kernel, by decide +kernel⟩
def MayBe (net : List Row) (c : List Int × List Int) : Prop := up ((openOf net c.1 c.2).map (·.2.1)) = c.1 ∧ up ((openOf net c.1 c.2).map (·.2.2)) = c.2
def spMayBe : Sp := fun vs H Q _ => ∃ (a b : Addr) (net : List Row) (c : List Int × List Int), vs = [.ref a, .ref b] ∧ NetAt H a net ∧ CellsAt H b c ∧ net.length < 64 ∧ MayBe net c ∧ ∀ H', Same H H' → Q (.bl true) H'
/-- data of cells -/
def intsD (ns : List Int) : List PyData := ns.map PyData.int
def cellsD (c : List Int × List Int) : PyData := .tuple [.tuple (intsD c.1), .tuple (intsD c.2)]
theorem dp_ints {H : Hp} : ∀ ns : List Int, DpAll K H (intsV ns) (intsD ns)
  | [] => .nil
  | n :: r => .cons (.int n) (dp_ints r)
theorem dp_cells {H : Hp} {a : Addr} {c : List Int × List Int} (h : CellsAt H a c) : Dp K H (.ref a) (cellsD c) := by
  obtain ⟨r, s, h1, h2, h3⟩ := h
  exact .tup (SqT.of h1) (.cons (.tup (SqT.of h2) (dp_ints _)) (.cons (.tup (SqT.of h3) (dp_ints _)) .nil))
theorem ints_lay : ∀ ns : List Int, PyData.canLayAll0 (intsD ns) = true
  | [] => by simp [intsD, PyData.canLayAll0]
  | n :: r => by
    have := ints_lay r
    show PyData.canLayAll0 (.int n :: intsD r) = true
    rw [PyData.canLayAll0, this]
    simp [PyData.canLay0]
theorem ints_depth : ∀ ns : List Int, PyData.depthAll (intsD ns) ≤ 1
  | [] => by simp [intsD, PyData.depthAll]
  | n :: r => by
    have := ints_depth r
    show PyData.depthAll (.int n :: intsD r) ≤ 1
    rw [PyData.depthAll]
    simp only [PyData.depth]
    omega
theorem cells_lay (c : List Int × List Int) : (cellsD c).canLay0 = true := by
  simp [cellsD, PyData.canLay0, PyData.canLayAll0, ints_lay]
theorem cells_depth (c : List Int × List Int) : (cellsD c).depth ≤ 8 := by
  have h1 := ints_depth c.1
  have h2 := ints_depth c.2
  simp only [cellsD, PyData.depth, PyData.depthAll]
  omega
theorem cells_shaped (c : List Int × List Int) : SeqAt.shaped (cellsD c) = true := by
  have := cells_depth c
  unfold SeqAt.shaped
  rw [cells_lay, decide_eq_true (by omega : (cellsD c).depth ≤ 64)]
  rfl
theorem cells_eqv (c : List Int × List Int) : PyData.eqv (cellsD c) (cellsD c) = true := SeqAt.eqv_refl _ (cells_lay c)
theorem ok_mayBe {f : Addr} {fd : FuncData} (F : Fun K "may_be" "may_be" sMayBe f fd) (DO : IsDef P w K mg base "open_rows" 1 ["net", "cells"] spOpen) (DR : IsDef P w K mg base "rising" 1 ["some"] spRising) :
    FnOk P w K mg base CX0 2 f fd ["net", "cells"] spMayBe := by
  obtain ⟨fO, fdO, GO, mO, kO, bO⟩ := DO
  obtain ⟨fR, fdR, GR, mR, kR, bR⟩ := DR
  refine F.ok scMayBe (fun vs H Q E h => ?_) (fun cdv A outer s H vs Q E hr h => ?_)
  · obtain ⟨a, b, net, c, rfl, _⟩ := h
    rfl
  obtain ⟨a, b, net, c, rfl, hN, hC, hn, ⟨m1, m2⟩, q⟩ := h
  refine ⟨_, pss_cons (ps_set (i := 2) scMayBe.nd rfl (Or.inl rfl) (pe_call GO hr rfl mO kO bO .nil pass0 (pa_cons (pv 0) (pa_cons (pv 1) pa_nil))))
    (pss_one (ps_ret (pe_cmpR (op_eqD hr.units) (pv 1) (pe_tup (pa_cons
      (pe_call GR hr rfl mR kR bR .nil pass0 (pa_cons (pe_lc (own := [("known", 3)]) (g := gName 3) (tt := tYes) rfl scMayBe.nd (pi_list (pv 2)) (blkOk_by (N := nMayBe) (sc := defScope sMayBe) (by decide +kernel)) (fun _ _ _ _ _ => pg_name (i := 3) scMayBe.nd rfl (Or.inl rfl)) (fun _ _ _ _ _ => pts_nil)
        (fun _ _ _ _ _ => pe_ix (ix_tupK (K := K) rfl) (pv 3) pe_int (fun _ _ => rfl))) pa_nil))
      (pa_cons (pe_call GR hr rfl mR kR bR .nil pass0 (pa_cons (pe_lc (own := [("known", 3)]) (g := gName 3) (tt := tYes) rfl scMayBe.nd (pi_list (pv 2)) (blkOk_by (N := nMayBe) (sc := defScope sMayBe) (by decide +kernel)) (fun _ _ _ _ _ => pg_name (i := 3) scMayBe.nd rfl (Or.inl rfl)) (fun _ _ _ _ _ => pts_nil)
        (fun _ _ _ _ _ => pe_ix (ix_tupK (K := K) rfl) (pv 3) pe_int (fun _ _ => rfl))) pa_nil)) pa_nil))) (nomark _)))), ?_⟩
  refine ⟨_, rfl, _, rfl, a, b, net, c, rfl, hN, hC, by omega, fun p H1 s1 hS => ?_⟩
  obtain ⟨ps, hA, hT⟩ := hS
  have hlo : (openOf net c.1 c.2).length ≤ net.length := List.length_filter_le _ _
  have pl : ps.length = (openOf net c.1 c.2).length := by rw [hT.len, List.length_map]
  refine ⟨_, rfl, ?_⟩
  -- rows
  refine ⟨_, rfl, p, rfl, ⟨_, SqL.of hA⟩, fun D2 hD2 => lc_list (K := K) (a := p) (xs := ps) (fun i H' => H' = upd H1 D2 (.lst ((((openOf net c.1 c.2).map fun k => k.2.1).take i).map V.int))) rfl (fun i H' _ e => ?_) ?_ ?_⟩
  · subst e
    exact SqL.of (same_new hD2 _ _ _ hA)
  · rintro i x H' hx rfl
    obtain ⟨t, k, rfl, hm, ht⟩ := hT.at hx
    refine ⟨rfl, _, rfl, t, _, _, _, rfl, rfl, SqT.of (same_new hD2 _ _ _ ht), rfl, ?_⟩
    refine acc_end ?_ (take_map_succ (by rw [List.getElem?_map, hm]; rfl))
    rw [List.length_map, List.length_take, List.length_map]
    exact small1000 (by omega)
  rintro H2 rfl
  rw [List.take_of_length_le (by rw [List.length_map]; omega)]
  refine ⟨D2, _, rfl, .inl upd_same, by rw [List.length_map]; omega, fun r H3 s3 hR => ?_⟩
  have s13 : Same H1 H3 := (same_new hD2 _).trans s3
  have hA3 := s13 _ _ hA
  have hT3 : TupsAt H3 ps _ := hT.mono (same_tk s13)
  -- columns
  refine ⟨_, rfl, p, rfl, ⟨_, SqL.of hA3⟩, fun D3 hD3 => lc_list (K := K) (a := p) (xs := ps) (fun i H' => H' = upd H3 D3 (.lst ((((openOf net c.1 c.2).map fun k => k.2.2).take i).map V.int))) rfl (fun i H' _ e => ?_) ?_ ?_⟩
  · subst e
    exact SqL.of (same_new hD3 _ _ _ hA3)
  · rintro i x H' hx rfl
    obtain ⟨t, k, rfl, hm, ht⟩ := hT3.at hx
    refine ⟨rfl, _, rfl, t, _, _, _, rfl, rfl, SqT.of (same_new hD3 _ _ _ ht), rfl, ?_⟩
    refine acc_end ?_ (take_map_succ (by rw [List.getElem?_map, hm]; rfl))
    rw [List.length_map, List.length_take, List.length_map]
    exact small1000 (by omega)
  rintro H4 rfl
  rw [List.take_of_length_le (by rw [List.length_map]; omega)]
  refine ⟨D3, _, rfl, .inl upd_same, by rw [List.length_map]; omega, fun t H5 s5 hCc => ?_⟩
  have s35 : Same H3 H5 := (same_new hD3 _).trans s5
  rw [m1] at hR
  rw [m2] at hCc
  refine ⟨(by show 2 ≤ sizeLine; decide), fun z hz => ?_⟩
  have s05 : Same H (upd H5 z (.tup [.ref r, .ref t])) := same_more (s1.trans (s13.trans s35)) hz _
  have hC2 : CellsAt (upd H5 z (.tup [.ref r, .ref t])) z c := ⟨r, t, upd_same, same_new hz _ _ _ (s35 _ _ hR), same_new hz _ _ _ hCc⟩
  refine ⟨cellsD c, cellsD c, dp_cells (hC.mono (same_tk s05)), dp_cells hC2, cells_shaped c, cells_shaped c, ?_⟩
  rw [cells_eqv]
  exact q _ s05
end
end Uk
end
section
set_option linter.all false
set_option maxRecDepth 100000
set_option maxHeartbeats 4000000
namespace Uk
open PySem PySem.Spec PyProof.Rows L2 UkS
/-! ### loops over a locked dict's keys -/
theorem for_keys {d : Addr} {o : Obj} {kvs : List (Key × V)} {g : TG} {tb : TS} {D : Ends} {σ : L2.St} {H : Hp} (Pv : Nat → L2.St → Hp → Prop) (h0 : Pv 0 σ H) (hl : ∀ i σ H, i ≤ kvs.length → Pv i σ H → H d = some (.frz o (.dK kvs)))
    (hs : ∀ i k v σ H, kvs[i]? = some (k, v) → Pv i σ H → g (kV k) σ H fun σ2 H2 => tb { D with nx := Pv (i + 1), ct := Pv (i + 1), bk := D.nx } σ2 H2) (hd : ∀ σ H, Pv kvs.length σ H → D.nx σ H) :
    ∃ W : Nat → Nat → L2.St → Hp → Prop, (∃ m, W 0 m σ H) ∧ ∀ i m σ H, W i m σ H →
      ((Itk d o kvs).stop i H ∧ D.nx σ H) ∨ ((Itk d o kvs).go i H ∧ ∃ N : L2.St → Hp → Prop, (∀ σ' H', N σ' H' → ∃ m', m' < m ∧ W (i + 1) m' σ' H') ∧ ∀ x H', (Itk d o kvs).yld i H x H' → g x σ H' fun σ2 H2 => tb { D with nx := N, ct := N, bk := D.nx } σ2 H2) := by
  refine ⟨fun i m σ H => m = kvs.length - i ∧ i ≤ kvs.length ∧ Pv i σ H, ⟨_, rfl, Nat.zero_le _, h0⟩, ?_⟩
  rintro i m σ H ⟨rfl, hi, p⟩
  have q := hl i σ H hi p
  by_cases lt : i < kvs.length
  · refine .inr ⟨⟨q, lt⟩, Pv (i + 1), fun σ' H' p' => ⟨kvs.length - (i + 1), by omega, rfl, lt, p'⟩, ?_⟩
    rintro x H' ⟨rfl, k, v, e, rfl⟩
    exact hs i k v σ _ e p
  · have e : i = kvs.length := by omega
    subst e
    exact .inl ⟨⟨q, Nat.le_refl _⟩, hd σ H p⟩
theorem lc_keys {d : Addr} {o : Obj} {kvs : List (Key × V)} {g : TG} {tt : TT} {te : TE} {vs : List Nat} {σ : L2.St} {H1 : Hp} {D : Addr} {Qd : Hp → Prop} (Pv : Nat → Hp → Prop) (h0 : Pv 0 (upd H1 D (.lst []))) (hl : ∀ i H, i ≤ kvs.length → Pv i H → H d = some (.frz o (.dK kvs)))
    (hs : ∀ i k v H, kvs[i]? = some (k, v) → Pv i H → g (kV k) (wipe σ vs) H fun σ2 H2 => wipe σ2 vs = wipe σ vs ∧ tt σ2 H2 fun b H3 =>
      if b = true then te σ2 H3 fun y H4 => ∃ acc, H4 D = some (.lst acc) ∧ acc.length < sizeLine ∧ Pv (i + 1) (upd H4 D (.lst (acc ++ [y]))) else Pv (i + 1) H3) (hd : ∀ H, Pv kvs.length H → Qd H) :
    ∃ W : Nat → Nat → Hp → Prop, (∃ m, W 0 m (upd H1 D (.lst []))) ∧ ∀ i m H, W i m H →
      ((Itk d o kvs).stop i H ∧ Qd H) ∨ ((Itk d o kvs).go i H ∧ ∃ Nx : Hp → Prop, (∀ H', Nx H' → ∃ m', m' < m ∧ W (i + 1) m' H') ∧ ∀ x H', (Itk d o kvs).yld i H x H' → g x (wipe σ vs) H' fun σ2 H2 => wipe σ2 vs = wipe σ vs ∧ tt σ2 H2 fun b H3 =>
        if b = true then te σ2 H3 fun y H4 => ∃ acc, H4 D = some (.lst acc) ∧ acc.length < sizeLine ∧ Nx (upd H4 D (.lst (acc ++ [y]))) else Nx H3) := by
  refine ⟨fun i m H => m = kvs.length - i ∧ i ≤ kvs.length ∧ Pv i H, ⟨_, rfl, Nat.zero_le _, h0⟩, ?_⟩
  rintro i m H ⟨rfl, hi, p⟩
  have q := hl i H hi p
  by_cases lt : i < kvs.length
  · refine .inr ⟨⟨q, lt⟩, Pv (i + 1), fun H' p' => ⟨kvs.length - (i + 1), by omega, rfl, lt, p'⟩, ?_⟩
    rintro x H' ⟨rfl, k, v, e, rfl⟩
    exact hs i k v _ e p
  · have e : i = kvs.length := by omega
    subst e
    exact .inl ⟨⟨q, Nat.le_refl _⟩, hd H p⟩
/-! ### tables with number keys, in the heap -/
def toK {α : Type} (f : α → V) (l : AL α) : List (Key × V) := l.map fun p => (Sum.inl p.1, f p.2)
section
variable {α : Type} {f : α → V}
theorem toK_at {l : AL α} {i : Nat} {k : Key} {v : V} (h : (toK f l)[i]? = some (k, v)) : ∃ p, l[i]? = some p ∧ k = Sum.inl p.1 ∧ v = f p.2 := by
  unfold toK at h
  rw [List.getElem?_map] at h
  cases e : l[i]? with
  | none => rw [e] at h; cases h
  | some p =>
    rw [e] at h
    have q : ((Sum.inl p.1 : Key), f p.2) = (k, v) := Option.some.inj h
    cases q
    exact ⟨p, rfl, rfl, rfl⟩
theorem toK_val {k : Int} : ∀ {l : AL α}, valV (toK f l) (Sum.inl k) = (get l k).map f
  | [] => rfl
  | p :: r => by
    show valV ((Sum.inl p.1, f p.2) :: toK f r) (Sum.inl k) = _
    by_cases e : p.1 = k
    · rw [valV_pos (by rw [e]), get_pos e]
      rfl
    · rw [valV_neg (fun q => e (Sum.inl.inj q)), get_neg e, toK_val (l := r)]
theorem toK_len {l : AL α} : (toK f l).length = l.length := List.length_map _
theorem toK_put {l : AL α} {k : Int} {v : α} : putK (toK f l) (Sum.inl k) (f v) = toK f (put l k v) := by
  unfold putK put
  have e : ((toK f l).any fun kv => decide (kv.1 = Sum.inl k)) = l.any fun p => decide (p.1 = k) := by
    unfold toK
    rw [List.any_map]
    congr 1
    funext p
    show decide ((Sum.inl p.1 : Key) = Sum.inl k) = decide (p.1 = k)
    exact decide_eq_decide.mpr ⟨Sum.inl.inj, fun q => by rw [q]⟩
  rw [e]
  by_cases c : (l.any fun p => decide (p.1 = k)) = true
  · rw [if_pos c, if_pos c]
    unfold toK
    rw [List.map_map, List.map_map]
    refine List.map_congr_left fun p _ => ?_
    show (if (Sum.inl p.1 : Key) = Sum.inl k then (Sum.inl p.1, f v) else (Sum.inl p.1, f p.2)) = ((Sum.inl (if p.1 = k then (p.1, v) else p).1 : Key), f (if p.1 = k then (p.1, v) else p).2)
    by_cases q : p.1 = k
    · rw [if_pos q, if_pos (by rw [q])]
    · rw [if_neg q, if_neg fun z => q (Sum.inl.inj z)]
  · rw [if_neg c, if_neg c]
    unfold toK
    rw [List.map_append]
    rfl
theorem put_same {l : AL α} {k : Int} {v : α} (nd : (keys l).Nodup) (h : get l k = some v) : put l k v = l := by
  rw [put_old (key_of_get h)]
  have q : ∀ p ∈ l, (if p.1 = k then (p.1, v) else p) = p := fun p hp => by
    by_cases e : p.1 = k
    · rw [if_pos e]
      have z := get_of_mem nd (show (p.1, p.2) ∈ l from hp)
      rw [e, h] at z
      rw [Option.some.inj z]
    · rw [if_neg e]
  rw [List.map_congr_left q]
  exact List.map_id _
theorem get_mapv {β : Type} {g : α → β} {k : Int} : ∀ {l : AL α}, get (l.map fun p => (p.1, g p.2)) k = (get l k).map g
  | [] => rfl
  | p :: r => by
    rw [List.map_cons]
    by_cases e : p.1 = k
    · rw [get_pos (p := (p.1, g p.2)) e, get_pos e]; rfl
    · rw [get_neg (p := (p.1, g p.2)) e, get_neg e, get_mapv (l := r)]
theorem keys_mapv {β : Type} {g : α → β} {l : AL α} : keys (l.map fun p => (p.1, g p.2)) = keys l := by
  unfold keys
  rw [List.map_map]
  rfl
theorem put_mapv {β : Type} {g : α → β} {l : AL α} {k : Int} {v : α} : (put l k v).map (fun p => (p.1, g p.2)) = put (l.map fun p => (p.1, g p.2)) k (g v) := by
  by_cases h : k ∈ keys l
  · rw [put_old h, put_old (by rw [keys_mapv]; exact h), List.map_map, List.map_map]
    refine List.map_congr_left fun p _ => ?_
    show ((if p.1 = k then (p.1, v) else p).1, g (if p.1 = k then (p.1, v) else p).2) = if p.1 = k then (p.1, g v) else (p.1, g p.2)
    by_cases e : p.1 = k
    · rw [if_pos e, if_pos e]
    · rw [if_neg e, if_neg e]
  · rw [put_new h, put_new (by rw [keys_mapv]; exact h), List.map_append]
    rfl
theorem mem_put {l : AL α} {k : Int} {v : α} {p : Int × α} (h : p ∈ put l k v) : p = (k, v) ∨ (p ∈ l ∧ p.1 ≠ k) := by
  by_cases hk : k ∈ keys l
  · rw [put_old hk] at h
    obtain ⟨q, hq, e⟩ := List.mem_map.mp h
    by_cases c : q.1 = k
    · rw [if_pos c] at e
      exact .inl (by rw [← e, c])
    · rw [if_neg c] at e
      exact .inr ⟨e ▸ hq, e ▸ c⟩
  · rw [put_new hk] at h
    rcases List.mem_append.mp h with z | z
    · exact .inr ⟨z, fun e => hk (e ▸ List.mem_map.mpr ⟨p, z, rfl⟩)⟩
    · exact .inl (List.mem_singleton.mp z)
end
/-! ### the table of ways, in the heap -/
abbrev Ways := AL (AL Str)
abbrev WaysA := AL (Addr × AL Str)
structure WaysAt (H : Hp) (d : Addr) (W : Ways) (A : WaysA) : Prop where
  val : A.map (fun p => (p.1, p.2.2)) = W
  out : Rd H d (.dK (toK (fun x : Addr × AL Str => V.ref x.1) A))
  inn : ∀ p ∈ A, H p.2.1 = some (.dK (toK V.str p.2.2))
theorem WaysAt.mono {H H' : Hp} {d : Addr} {W : Ways} {A : WaysA} (h : WaysAt H d W A) (s : Same H H') : WaysAt H' d W A :=
  ⟨h.val, h.out.elim (fun z => .inl (s _ _ z)) fun ⟨o, z⟩ => .inr ⟨o, s _ _ z⟩, fun p hp => s _ _ (h.inn p hp)⟩
theorem WaysAt.row {H : Hp} {d : Addr} {W : Ways} {A : WaysA} (h : WaysAt H d W A) {r : Int} (hr : r ∈ keys W) :
    ∃ (a : Addr) (l : AL Str), get W r = some l ∧ get A r = some (a, l) ∧ H a = some (.dK (toK V.str l)) ∧ DGet H d (.int r) (some (.ref a)) := by
  have hr' : r ∈ keys A := by
    rw [← h.val] at hr
    exact keys_mapv (g := fun x : Addr × AL Str => x.2) ▸ hr
  obtain ⟨⟨a, l⟩, e⟩ := get_some_of hr'
  have hi := h.inn _ (mem_of_get e)
  refine ⟨a, l, ?_, e, hi, ?_⟩
  · rw [← h.val, get_mapv (g := fun x : Addr × AL Str => x.2), e]
    rfl
  · refine .inl ⟨_, Sum.inl r, h.out, rfl, ?_⟩
    rw [toK_val, e]
    rfl
section
variable {P : Program} {w : World} {K : PySem.W.Frag} {mg : Str → Option Value} {base : Heap}
/-! ### ways_of -/
abbrev sWays : Stmt := topS 15
abbrev nWays : List Str := ["some", "ways", "mark", "row", "column"]
theorem scWays : FnScope nWays ["some"] (defScope sWays) := ⟨rfl, rfl, rfl, by decide +kernel, rfl, by decide +kernel, by decide +kernel⟩
def spWays : Sp := fun vs H Q _ => ∃ (a : Addr) (S : List Row), vs = [.ref a] ∧ SomeAt H a S ∧ S.length ≤ 1000 ∧ ∀ (d : Addr) (H' : Hp) (W : Ways) (A : WaysA), Same H H' → WaysOk S W → WaysAt H' d W A → H' d = some (.dK (toK (fun x : Addr × AL Str => V.ref x.1) A)) → Q (.ref d) H'
/-- between two turns: all dicts are new, none stands twice -/
structure WInv (H H' : Hp) (d : Addr) (S : List Row) (A : WaysA) : Prop where
  same : Same H H'
  ok : WaysOk S (A.map fun p => (p.1, p.2.2))
  out : H' d = some (.dK (toK (fun x : Addr × AL Str => V.ref x.1) A))
  inn : ∀ p ∈ A, H' p.2.1 = some (.dK (toK V.str p.2.2)) ∧ H p.2.1 = none ∧ p.2.1 ≠ d
  dif : ∀ p ∈ A, ∀ q ∈ A, p.2.1 = q.2.1 → p = q
theorem ok_ways {f : Addr} {fd : FuncData} (F : Fun K "ways_of" "ways_of" sWays f fd) : FnOk P w K mg base CX0 1 f fd ["some"] spWays := by
  refine F.ok scWays (fun vs H Q E h => ?_) (fun cdv A outer s H vs Q E hr h => ?_)
  · obtain ⟨a, S, rfl, _⟩ := h
    rfl
  obtain ⟨a, S, rfl, ⟨vs, h1, h2⟩, hn, q⟩ := h
  have hl := h2.len
  rw [List.length_map] at hl
  refine ⟨_, pss_cons (ps_set (i := 1) scWays.nd rfl (Or.inl rfl) pe_dnewK)
    (pss_cons (ps_for PassesOwn.never rfl (pi_list (pv 0)) (pg_tup rfl (pgs_cons (pg_name (i := 2) scWays.nd rfl (Or.inl rfl)) (pgs_cons (pg_name (i := 3) scWays.nd rfl (Or.inl rfl)) (pgs_cons (pg_name (i := 4) scWays.nd rfl (Or.inl rfl)) pgs_nil))))
      (pss_one (ps_expr (pe_dsetd (pe_dsetd (pv 1) (pv 3) pe_dnewK ⟨rfl, rfl, rfl, rfl⟩) (pv 4) (pv 2) ⟨rfl, rfl, rfl, rfl⟩))))
    (pss_one (ps_ret (pv 1)))), ?_⟩
  refine fun d hd => ?_
  refine ⟨_, rfl, a, rfl, ⟨_, SqL.of (same_new hd _ _ _ h1)⟩, for_list (K := K) (a := a) (xs := vs) (fun i σ H' => (∃ y2 y3 y4, σ = [some (.ref a), some (.ref d), y2, y3, y4]) ∧ ∃ A, WInv H H' d (S.take i) A)
    ⟨⟨_, _, _, rfl⟩, [], same_new hd _, WaysOk.start, upd_same, (fun p hp => by cases hp), fun p hp => by cases hp⟩ (fun i σ H' _ ⟨_, A, I⟩ => SqL.of (I.same _ _ h1)) ?_ ?_⟩
  · rintro i x σ H' hx ⟨⟨y2, y3, y4, rfl⟩, A, I⟩
    obtain ⟨t, k, rfl, hk, ht⟩ := h2.at hx
    obtain ⟨m, r, c⟩ := k
    have hi : i < S.length := (List.getElem?_eq_some_iff.mp hk).1
    have ti : S.take (i + 1) = S.take i ++ [(m, r, c)] := by rw [List.take_add_one, hk]; rfl
    have O2 := I.ok.more (m, r, c)
    -- the counts are small
    have few : ∀ {W : Ways}, WaysOk (S.take i) W → W.length ≤ 1000 ∧ ∀ r' l, get W r' = some l → l.length ≤ 1000 := fun {W} O => by
      have sub : ∀ (l : List Int), l.Nodup → (∀ z ∈ l, z ∈ (S.take i).map (·.2.1) ∨ z ∈ (S.take i).map (·.2.2)) → l.length ≤ 2 * i := fun l nd hz => by
        have := nd_le (l := l) (l' := (S.take i).map (·.2.1) ++ (S.take i).map (·.2.2)) nd fun z h => List.mem_append.mpr (hz z h)
        rw [List.length_append, List.length_map, List.length_map, List.length_take] at this
        omega
      have one : ∀ (l : List Int) (g : Row → Int), l.Nodup → (∀ z ∈ l, z ∈ (S.take i).map g) → l.length ≤ 1000 := fun l g nd hz => by
        have := nd_le nd hz
        rw [List.length_map, List.length_take] at this
        omega
      refine ⟨?_, fun r' l e => ?_⟩
      · rw [← keys_len]
        refine one _ (fun z => z.2.1) O.nd fun z hz => ?_
        obtain ⟨m', c', q⟩ := (O.row z).mp hz
        exact List.mem_map.mpr ⟨_, q, rfl⟩
      · obtain ⟨a1, a2, a3⟩ := O.inner r' l e
        rw [← keys_len]
        refine one _ (fun z => z.2.2) a1 fun z hz => ?_
        obtain ⟨m', e'⟩ := get_some_of hz
        exact List.mem_map.mpr ⟨_, a2 z m' e', rfl⟩
    have lA : A.length ≤ 1000 := by
      have := (few I.ok).1
      rw [List.length_map] at this
      exact this
    have ndA : (keys A).Nodup := by
      have := I.ok.nd
      rw [keys_mapv (g := fun x : Addr × AL Str => x.2)] at this
      exact this
    refine ⟨t, rowV (m, r, c), rfl, SqT.of (I.same _ _ ht), rfl, _, _, rfl, _, _, rfl, _, _, rfl, rfl, ?_⟩
    -- ways.setdefault(row, {})
    refine ⟨_, rfl, d, rfl, .inl ⟨_, .inl I.out⟩, _, rfl, fun e he => ?_⟩
    have ned : e ≠ d := (ne_of_none I.out he).symm
    have hHe : H e = none := Same.free I.same he
    have outE : (upd H' e (.dK [])) d = some (.dK (toK (fun x : Addr × AL Str => V.ref x.1) A)) := by
      rw [upd_ne ned.symm]
      exact I.out
    have sE : Same H (upd H' e (.dK [])) := same_more I.same he _
    have innE : ∀ p ∈ A, (upd H' e (.dK [])) p.2.1 = some (.dK (toK V.str p.2.2)) ∧ p.2.1 ≠ e := fun p hp => by
      have ne : p.2.1 ≠ e := ne_of_none (I.inn p hp).1 he
      exact ⟨by rw [upd_ne ne]; exact (I.inn p hp).1, ne⟩
    refine ⟨_, Sum.inl r, outE, rfl, small1000 (by rw [toK_len]; exact lA), fun v hv => ?_, fun hv => ?_⟩
    · -- the row is there
      rw [toK_val] at hv
      cases e1 : get A r with
      | none => rw [e1] at hv; cases hv
      | some al =>
        obtain ⟨a0, l⟩ := al
        rw [e1] at hv
        have ev : V.ref a0 = v := Option.some.inj hv
        subst ev
        have hp := mem_of_get e1
        have eW : get (A.map fun p => (p.1, p.2.2)) r = some l := by
          rw [get_mapv (g := fun x : Addr × AL Str => x.2), e1]
          rfl
        have hin := (innE _ hp).1
        have new : H a0 = none := (I.inn _ hp).2.1
        have ll := (few I.ok).2 r l eW
        refine ⟨a0, rfl, .inl ⟨_, .inl hin⟩, _, rfl, _, rfl, _, Sum.inl c, hin, rfl, small1000 (by rw [toK_len]; exact ll), fun v2 hv2 => ?_, fun hv2 => ?_⟩
        · -- the column too
          refine ⟨⟨_, _, _, rfl⟩, A, sE, ?_, outE, fun p hp => ⟨(innE p hp).1, (I.inn p hp).2⟩, I.dif⟩
          rw [ti]
          have es : wput (A.map fun p => (p.1, p.2.2)) (m, r, c) = A.map fun p => (p.1, p.2.2) := by
            unfold wput
            rw [eW]
            show put _ r (setd l c m) = _
            rw [toK_val] at hv2
            have e3 : setd l c m = l := by
              unfold setd
              cases e2 : get l c with
              | none => rw [e2] at hv2; cases hv2
              | some z => rfl
            rw [e3]
            exact put_same I.ok.nd eW
          rw [es] at O2
          exact O2
        · -- a new column
          rw [toK_val] at hv2
          have e2 : get l c = none := by
            cases z : get l c with
            | none => rfl
            | some y => rw [z] at hv2; cases hv2
          have e3 : putK (toK V.str l) (Sum.inl c) (V.str m) = toK V.str (setd l c m) := by
            rw [toK_put, put_new (get_none.mp e2)]
            unfold setd
            rw [e2]
          rw [e3]
          have key : (put A r (a0, setd l c m)).map (fun p => (p.1, p.2.2)) = wput (A.map fun p => (p.1, p.2.2)) (m, r, c) := by
            rw [put_mapv (g := fun x : Addr × AL Str => x.2)]
            unfold wput
            rw [eW]
            rfl
          have a0d : a0 ≠ d := (I.inn _ hp).2.2
          have outs : toK (fun x : Addr × AL Str => V.ref x.1) (put A r (a0, setd l c m)) = toK (fun x : Addr × AL Str => V.ref x.1) A := by
            rw [← toK_put (f := fun x : Addr × AL Str => V.ref x.1) (l := A) (k := r) (v := (a0, setd l c m))]
            show putK _ _ ((fun x : Addr × AL Str => V.ref x.1) (a0, l)) = _
            rw [toK_put, put_same ndA e1]
          have only : ∀ p ∈ put A r (a0, setd l c m), p = (r, a0, setd l c m) ∨ (p ∈ A ∧ p.2.1 ≠ a0) := fun p hp2 => by
            rcases mem_put hp2 with z | ⟨z, zr⟩
            · exact .inl z
            · refine .inr ⟨z, fun y => zr ?_⟩
              have := I.dif p z _ hp y
              rw [this]
          refine ⟨⟨_, _, _, rfl⟩, put A r (a0, setd l c m), same_put sE new _, ?_, ?_, fun p hp2 => ?_, fun p h1' p' h2' e4 => ?_⟩
          · rw [ti, key]; exact O2
          · rw [outs, upd_ne a0d.symm]; exact outE
          · rcases only p hp2 with z | ⟨z, zn⟩
            · rw [z]; exact ⟨upd_same, new, a0d⟩
            · exact ⟨by rw [upd_ne zn]; exact (innE p z).1, (I.inn p z).2⟩
          · rcases only p h1' with z | ⟨z, zn⟩
            · rcases only p' h2' with y | ⟨y, yn⟩
              · rw [z, y]
              · rw [z] at e4
                exact absurd e4.symm yn
            · rcases only p' h2' with y | ⟨y, yn⟩
              · rw [y] at e4
                exact absurd e4 zn
              · exact I.dif p z p' y e4
    · -- a new row
      rw [toK_val] at hv
      have e1 : get A r = none := by
        cases z : get A r with
        | none => rfl
        | some y => rw [z] at hv; cases hv
      have e2 : putK (toK (fun x : Addr × AL Str => V.ref x.1) A) (Sum.inl r) (V.ref e) = toK (fun x : Addr × AL Str => V.ref x.1) (put A r (e, [(c, m)])) := toK_put (f := fun x : Addr × AL Str => V.ref x.1) (v := (e, [(c, m)]))
      rw [e2]
      have h3 : (upd (upd H' e (.dK [])) d (.dK (toK (fun x : Addr × AL Str => V.ref x.1) (put A r (e, [(c, m)]))))) e = some (.dK []) := by rw [upd_ne ned, upd_same]
      refine ⟨e, rfl, .inl ⟨_, .inl h3⟩, _, rfl, _, rfl, _, Sum.inl c, h3, rfl, small1000 (Nat.zero_le _), fun v2 hv2 => (by cases hv2), fun _ => ?_⟩
      have key : (put A r (e, [(c, m)])).map (fun p => (p.1, p.2.2)) = wput (A.map fun p => (p.1, p.2.2)) (m, r, c) := by
        rw [put_mapv (g := fun x : Addr × AL Str => x.2)]
        unfold wput
        rw [get_mapv (g := fun x : Addr × AL Str => x.2), e1]
        rfl
      have only : ∀ p ∈ put A r (e, [(c, m)]), p = (r, e, [(c, m)]) ∨ (p ∈ A ∧ p.2.1 ≠ e) := fun p hp2 => by
        rcases mem_put hp2 with z | ⟨z, _⟩
        · exact .inl z
        · exact .inr ⟨z, (innE p z).2⟩
      refine ⟨⟨_, _, _, rfl⟩, put A r (e, [(c, m)]), same_put (same_put sE hd _) hHe _, ?_, ?_, fun p hp2 => ?_, fun p h1' p' h2' e4 => ?_⟩
      · rw [ti, key]; exact O2
      · rw [upd_ne ned.symm, upd_same]
      · rcases only p hp2 with z | ⟨z, zn⟩
        · rw [z]; exact ⟨upd_same, hHe, ned⟩
        · exact ⟨by rw [upd_ne zn, upd_ne (I.inn p z).2.2]; exact (innE p z).1, (I.inn p z).2⟩
      · rcases only p h1' with z | ⟨z, zn⟩
        · rcases only p' h2' with y | ⟨y, yn⟩
          · rw [z, y]
          · rw [z] at e4
            exact absurd e4.symm yn
        · rcases only p' h2' with y | ⟨y, yn⟩
          · rw [y] at e4
            exact absurd e4 zn
          · exact I.dif p z p' y e4
  · rintro σ H' ⟨⟨y2, y3, y4, rfl⟩, A, I⟩
    have O := I.ok
    rw [List.take_of_length_le (by omega)] at O
    exact ⟨_, rfl, q d H' _ A I.same O ⟨rfl, .inl I.out, fun p hp => (I.inn p hp).1⟩ I.out⟩
end
end Uk
end
section
set_option linter.all false
set_option maxRecDepth 100000
set_option maxHeartbeats 4000000
namespace Uk
open PySem PySem.Spec PyProof.Rows L2 UkS
theorem upd_comm {H : Hp} {a b : Addr} {x y : HO} (h : a ≠ b) : upd (upd H a x) b y = upd (upd H b y) a x := by
  funext c
  unfold upd
  by_cases c1 : c = b
  · subst c1
    rw [if_pos rfl, if_neg (fun e => h e.symm), if_pos rfl]
  · rw [if_neg c1]
    by_cases c2 : c = a
    · rw [if_pos c2, if_pos c2]
    · rw [if_neg c2, if_neg c2, if_neg c1]
theorem upd_back {H : Hp} {a : Addr} {x u : HO} (h : H a = some u) : upd (upd H a x) a u = H := by
  rw [upd_upd]
  funext c
  unfold upd
  split
  · rename_i e; rw [e, h]
  · rfl
/-- what is read of a dict is read while another, or it itself, is locked -/
theorem rd_lock {H : Hp} {a b : Addr} {o : Obj} {k kv : List (Key × V)} (ha : H a = some (.dK k)) (h : Rd H b (.dK kv)) : Rd (upd H a (.frz o (.dK k))) b (.dK kv) := by
  by_cases e : b = a
  · subst e
    rcases h with h | ⟨o', h⟩
    · rw [ha] at h
      cases h
      exact .inr ⟨o, upd_same⟩
    · rw [ha] at h; cases h
  · rcases h with h | ⟨o', h⟩
    · exact .inl (by rw [upd_ne e]; exact h)
    · exact .inr ⟨o', by rw [upd_ne e]; exact h⟩
theorem rd_same {H H' : Hp} {b : Addr} {u : HO} (s : Same H H') (h : Rd H b u) : Rd H' b u := h.elim (fun z => .inl (s _ _ z)) fun ⟨o, z⟩ => .inr ⟨o, s _ _ z⟩
theorem dget_of {α : Type} {f : α → V} {H : Hp} {a : Addr} {l : AL α} (h : Rd H a (.dK (toK f l))) (k : Int) : DGet H a (.int k) ((get l k).map f) := .inl ⟨_, Sum.inl k, h, rfl, toK_val.symm⟩
theorem isSome_key {α : Type} {f : α → V} {l : AL α} {k : Int} : ((get l k).map f).isSome = decide (k ∈ keys l) := by
  rw [Option.isSome_map]
  cases e : (get l k).isSome with
  | true => exact (decide_eq_true (get_isSome.mp e)).symm
  | false =>
    refine (decide_eq_false fun z => ?_).symm
    rw [get_isSome.mpr z] at e
    cases e
theorem keys_toK {α : Type} {f : α → V} {l : AL α} : (toK f l).length = (keys l).length := by rw [toK_len, keys_len]
section
variable {P : Program} {w : World} {K : PySem.W.Frag} {mg : Str → Option Value} {base : Heap}
/-! ### reached -/
abbrev sReached : Stmt := topS 16
abbrev nReached : List Str := ["ways", "held", "begins", "came", "waiting", "row", "column"]
theorem scReached : FnScope nReached ["ways", "held", "begins"] (defScope sReached) := ⟨rfl, rfl, rfl, by decide +kernel, rfl, by decide +kernel, by decide +kernel⟩
def spReached : Sp := fun vs H Q _ => ∃ (d e b : Addr) (W : Ways) (A : WaysA) (held : AL Int) (begins cols : List Int), vs = [.ref d, .ref e, .ref b] ∧ WaysAt H d W A ∧ Rd H e (.dK (toK V.int held)) ∧ H b = some (.lst (intsV begins)) ∧
  (∀ r ∈ begins, r ∈ keys W) ∧ (∀ c r, get held c = some r → r ∈ keys W) ∧ (∀ r ∈ keys W, ∀ c ∈ nb W r, c ∈ cols) ∧ begins.length + cols.length ≤ 1000 ∧
  ∀ (p : Addr) (H' : Hp) (came : AL Int), Same H H' → H p = none → H' p = some (.dK (toK V.int came)) → CameOk (nb W) held begins came → Closed (nb W) held begins came → (∀ c ∈ keys came, c ∈ cols) → Q (.ref p) H'
structure RInv (H U : Hp) (p q : Addr) (cols : List Int) (ws : List Int) (came : AL Int) (n : Nat) : Prop where
  same : Same H U
  newP : H p = none
  newQ : H q = none
  ne : p ≠ q
  cameAt : U p = some (.dK (toK V.int came))
  waitAt : U q = some (.lst (intsV ws))
  sub : ∀ c ∈ keys came, c ∈ cols
  big : ws.length + cols.length ≤ n + came.length
  few : ws.length + cols.length ≤ 1000 + came.length
theorem nb_get {W : Ways} {r : Int} {l : AL Str} (h : get W r = some l) : nb W r = keys l := by
  unfold nb
  rw [h]
  rfl
theorem ok_reached {f : Addr} {fd : FuncData} (F : Fun K "reached" "reached" sReached f fd) (T : Txt mg) : FnOk P w K mg base CX0 1 f fd ["ways", "held", "begins"] spReached := by
  refine F.ok scReached (fun vs H Q E h => ?_) (fun cdv A outer s H vs Q E hr h => ?_)
  · obtain ⟨d, e, b, W, A, held, begins, cols, rfl, _⟩ := h
    rfl
  obtain ⟨d, e, b, W, A, held, begins, cols, rfl, hW, hE, hB, b1, b2, b3, b4, q⟩ := h
  have hu := hu_of hr
  refine ⟨_, pss_cons (ps_set (i := 3) scReached.nd rfl (Or.inl rfl) pe_dnewK)
    (pss_cons (ps_set (i := 4) scReached.nd rfl (Or.inl rfl) (pe_callTy call_list_of (by rfl) T.list (by decide +kernel) (pa_cons (pv 2) pa_nil)))
    (pss_cons (ps_while PassesOwn.never (pt_cmpR op_gt (pe_callB call_len_seq (by rfl) T.len PySem.boot_len (pa_cons (pv 4) pa_nil)) pe_int (nomark _))
      (pss_cons (ps_set (i := 5) scReached.nd rfl (Or.inl rfl) (pe_bm PySem.F.plainAttrs_list PySem.F.slot_list_pop PySem.F.type_list_pop mt_popAt (pv 4) (pa_cons pe_int pa_nil)))
      (pss_one (ps_lock (ps_for PassesOwn.never rfl (pi_keys (pe_dget hu (pv 0) (pv 5) (fun _ _ => rfl))) (pg_name (i := 6) scReached.nd rfl (Or.inl rfl))
        (pss_one (ps_if (pt_cmp (pc_dnotin hu (pv 6) (pv 3)))
          (pss_cons (ps_dput hu (pv 3) (pv 6) (pv 5) rfl)
          (pss_one (ps_if (pt_cmp (pc_din hu (pv 6) (pv 1)))
            (pss_one (ps_expr (pe_bm PySem.F.plainAttrs_list PySem.F.slot_list_append PySem.F.type_list_append mt_append (pv 4) (pa_cons (pe_dget hu (pv 1) (pv 6) (fun _ _ => rfl)) pa_nil)))) pss_nil))) pss_nil)))))))
    (pss_one (ps_ret (pv 3))))), ?_⟩
  intro p hp
  have s1 : Same H (upd H p (.dK [])) := same_new hp _
  refine ⟨_, rfl, b, _, rfl, .inl (SqL.of (s1 _ _ hB)), fun w' hw' => ?_⟩
  have hwn : H w' = none := Same.free s1 hw'
  have pw : p ≠ w' := fun z => by rw [← z, upd_same] at hw'; cases hw'
  refine ⟨fun m σ H' => ∃ (ws : List Int) (came : AL Int) (y5 y6 : Option V), σ = [some (.ref d), some (.ref e), some (.ref b), some (.ref p), some (.ref w'), y5, y6] ∧ RInv H H' p w' cols ws came m ∧ Wait (nb W) held begins ws came,
    ⟨begins.length + cols.length, begins, [], none, none, rfl, ⟨same_more s1 hw' _, hp, hwn, pw, by rw [upd_ne pw, upd_same]; rfl, upd_same, fun c hc => (by cases hc), (by show begins.length + cols.length ≤ _ + 0; omega), (by show begins.length + cols.length ≤ 1000 + 0; omega)⟩, Wait.start⟩, ?_⟩
  rintro m σ H' ⟨ws, came, y5, y6, rfl, I, Wt⟩
  have cl : came.length ≤ cols.length := by
    rw [← keys_len]
    exact nd_le Wt.ok.nd I.sub
  refine ⟨_, rfl, w', _, rfl, .inl (SqL.of I.waitAt), _, _, rfl, rfl, _, rfl, ?_⟩
  refine ite2 (fun c => ?_) (fun c => ?_)
  · -- a turn
    have c' : (0 : Int) < (((intsV ws).length : Nat) : Int) := of_decide_eq_true c
    obtain ⟨row, ws1, rfl⟩ : ∃ row ws1, ws = row :: ws1 := by
      cases ws with
      | nil => exact absurd c' (by decide)
      | cons x r => exact ⟨x, r, rfl⟩
    refine ⟨fun σ' H2 => ∃ (ws : List Int) (came : AL Int) (y5 y6 : Option V), σ' = [some (.ref d), some (.ref e), some (.ref b), some (.ref p), some (.ref w'), y5, y6] ∧ RInv H H2 p w' cols ws came (m - 1) ∧ Wait (nb W) held begins ws came, fun σ' H2 z => ⟨m - 1, ?_, z⟩, ?_⟩
    · have b := I.big
      rw [List.length_cons] at b
      omega
    have nA := I.ne
    refine ⟨_, rfl, .inl ⟨rfl, _, SqL.of I.waitAt⟩, w', _, 0, 0, V.int row, rfl, rfl, I.waitAt, by decide, by decide, by unfold seqIndex?; simp [intsV], rfl, ?_⟩
    have W2 := Wt.pop
    have rowIn : row ∈ keys W := by
      rcases W2.own with z | ⟨c1, _, z⟩
      · exact b1 row z
      · exact b2 c1 row z
    have I2 : RInv H (upd H' w' (.lst (intsV ws1))) p w' cols ws1 came (m - 1) := by
      have b := I.big
      have f := I.few
      rw [List.length_cons] at b f
      exact ⟨same_put I.same hwn _, hp, hwn, pw, by rw [upd_ne pw]; exact I.cameAt, upd_same, I.sub, by omega, by omega⟩
    have eqw : upd H' w' (.lst ((intsV (row :: ws1)).eraseIdx 0)) = upd H' w' (.lst (intsV ws1)) := rfl
    rw [eqw]
    generalize upd H' w' (.lst (intsV ws1)) = U0 at I2
    -- for column in ways[row]
    obtain ⟨a0, l, gW, gA, hin, dg⟩ := (hW.mono I2.same).row rowIn
    have ha0 : H a0 ≠ none := fun z => by
      have y := hW.inn _ (mem_of_get gA)
      rw [z] at y; cases y
    have pa0 : p ≠ a0 := fun z => ha0 (z ▸ hp)
    have wa0 : w' ≠ a0 := fun z => ha0 (z ▸ hwn)
    have nbl : nb W row = keys l := nb_get gW
    have inH : ∀ {U : Hp}, Same H U → U a0 = some (.dK (toK V.str l)) := fun {U} sU => sU _ _ (hW.inn _ (mem_of_get gA))
    refine ⟨a0, _, hin, trivial, fun od => ?_⟩
    refine ⟨_, rfl, _, rfl, d, .ref a0, rfl, ?_, a0, od, rfl, .inl ⟨toK V.str l, upd_same, ?_⟩⟩
    · obtain ⟨kvs, k, x1, x2, x3⟩ | ⟨kvs, k, b', _, x2, _⟩ := dg
      · exact .inl ⟨kvs, k, rd_lock hin x1, x2, x3⟩
      · cases x2
    refine for_keys (fun k σ H3 => ∃ (U : Hp) (ws : List Int) (came : AL Int) (y6 : Option V), σ = [some (.ref d), some (.ref e), some (.ref b), some (.ref p), some (.ref w'), some (.int row), y6] ∧ H3 = upd U a0 (.frz od (.dK (toK V.str l))) ∧ RInv H U p w' cols ws came (m - 1) ∧ Wait2 (nb W) held begins row k ws came)
      ⟨U0, ws1, came, y6, rfl, rfl, I2, W2⟩ (fun k σ H3 _ ⟨U, _, _, _, _, z, _⟩ => by rw [z]; exact upd_same) ?_ ?_
    · rintro k key v σ H3 hk ⟨U, ws2, came2, y6', rfl, rfl, J, V2⟩
      obtain ⟨pr, hpr, rfl, _⟩ := toK_at hk
      have hc : (nb W row)[k]? = some pr.1 := by rw [nbl]; unfold keys; rw [List.getElem?_map, hpr]; rfl
      have colIn : pr.1 ∈ cols := b3 row rowIn _ (List.mem_of_getElem? hc)
      have camp : (upd U a0 (.frz od (.dK (toK V.str l)))) p = some (.dK (toK V.int came2)) := by rw [upd_ne pa0]; exact J.cameAt
      -- if column not in came
      refine ⟨_, rfl, _, rfl, p, _, rfl, dget_of (.inl camp) pr.1, _, rfl, ?_⟩
      rw [isSome_key]
      by_cases c1 : pr.1 ∈ keys came2
      · rw [decide_eq_true c1]
        exact iteF ⟨U, ws2, came2, _, rfl, rfl, J, V2.old hc c1⟩
      rw [decide_eq_false c1]
      refine iteT ?_
      have cl2 : came2.length + 1 ≤ cols.length := by
        have z := nd_le (l := keys came2 ++ [pr.1]) (l' := cols) (nd_snoc V2.ok.nd c1) fun x hx => by
          rcases List.mem_append.mp hx with y | y
          · exact J.sub x y
          · rw [List.mem_singleton.mp y]; exact colIn
        rw [List.length_append, List.length_singleton, keys_len] at z
        exact z
      refine ⟨_, rfl, _, rfl, _, rfl, p, _, rfl, DPut.k (k := Sum.inl pr.1) camp (small1000 (by rw [toK_len]; omega)), ?_⟩
      have eput : putK (toK V.int came2) (Sum.inl pr.1) (V.int row) = toK V.int (came2 ++ [(pr.1, row)]) := by rw [toK_put, put_new c1]
      rw [eput, upd_comm (fun z => pa0 z.symm)]
      -- the next state of came
      have sub3 : ∀ c ∈ keys (came2 ++ [(pr.1, row)]), c ∈ cols := fun c hc3 => by
        rw [keys_snoc] at hc3
        rcases List.mem_append.mp hc3 with y | y
        · exact J.sub c y
        · rw [List.mem_singleton.mp y]; exact colIn
      have sU3 : Same H (upd U p (.dK (toK V.int (came2 ++ [(pr.1, row)])))) := same_put J.same hp _
      have heldR : Rd (upd (upd U p (.dK (toK V.int (came2 ++ [(pr.1, row)])))) a0 (.frz od (.dK (toK V.str l)))) e (.dK (toK V.int held)) := rd_lock (inH sU3) (rd_same sU3 hE)
      have lng : (came2 ++ [(pr.1, row)]).length = came2.length + 1 := by rw [List.length_append, List.length_singleton]
      -- if column in held
      refine ⟨_, rfl, _, rfl, e, _, rfl, dget_of heldR pr.1, _, rfl, ?_⟩
      rw [isSome_key]
      by_cases c2 : pr.1 ∈ keys held
      · rw [decide_eq_true c2]
        refine iteT ?_
        obtain ⟨r', hr'⟩ := get_some_of c2
        have wt3 : (upd (upd U p (.dK (toK V.int (came2 ++ [(pr.1, row)])))) a0 (.frz od (.dK (toK V.str l)))) w' = some (.lst (intsV ws2)) := by rw [upd_ne wa0, upd_ne pw.symm]; exact J.waitAt
        have dg2 := dget_of heldR pr.1
        rw [hr'] at dg2
        have fw := J.few
        refine ⟨_, rfl, .inl ⟨rfl, _, SqL.of wt3⟩, _, rfl, _, rfl, e, V.int r', rfl, dg2, w', _, _, rfl, rfl, wt3, small1000 (by unfold intsV; rw [List.length_map]; omega), ?_⟩
        have ea : intsV ws2 ++ [V.int r'] = intsV (ws2 ++ [r']) := by unfold intsV; rw [List.map_append]; rfl
        rw [ea, upd_comm (fun z => wa0 z.symm)]
        refine ⟨_, ws2 ++ [r'], came2 ++ [(pr.1, row)], _, rfl, rfl, ⟨same_put sU3 hwn _, hp, hwn, pw, by rw [upd_ne pw, upd_same], upd_same, sub3, ?_, ?_⟩, V2.newHeld hc c1 hr'⟩
        · have := J.big
          rw [lng, List.length_append, List.length_singleton]
          omega
        · rw [lng, List.length_append, List.length_singleton]
          omega
      · rw [decide_eq_false c2]
        refine iteF ?_
        refine ⟨_, ws2, came2 ++ [(pr.1, row)], _, rfl, rfl, ⟨sU3, hp, hwn, pw, upd_same, by rw [upd_ne pw.symm]; exact J.waitAt, sub3, ?_, ?_⟩, V2.newFree hc c1 (get_none.mpr c2)⟩
        · have := J.big
          rw [lng]
          omega
        · have := J.few
          rw [lng]
          omega
    · rintro σ H3 ⟨U, ws2, came2, y6', rfl, rfl, J, V2⟩
      refine ⟨upd_same, ?_⟩
      rw [upd_back (inH J.same)]
      have e1 : (toK V.str l).length = (nb W row).length := by rw [keys_toK, nbl]
      rw [e1] at V2
      exact ⟨ws2, came2, _, _, rfl, J, V2.end⟩
  · -- the end
    have c' : ¬ (0 : Int) < (((intsV ws).length : Nat) : Int) := fun z => c (decide_eq_true z)
    have ew : ws = [] := by
      cases ws with
      | nil => rfl
      | cons x r => exact absurd (by unfold intsV; rw [List.length_map, List.length_cons]; omega) c'
    subst ew
    exact ⟨_, rfl, q p H' came I.same hp I.cameAt Wt.ok Wt.closed I.sub⟩
end
end Uk
end
section
set_option linter.all false
set_option maxRecDepth 100000
set_option maxHeartbeats 4000000
namespace Uk
open PySem PySem.Spec PyProof.Rows L2 UkS
theorem same_unlock {H H' : Hp} {d : Addr} {x u : HO} (s : Same (upd H d x) H') (h : H d = some u) : Same H (upd H' d u) := fun b o e => by
  by_cases c : b = d
  · subst c
    rw [upd_same, ← h, e]
  · rw [upd_ne c]
    exact s b o (by rw [upd_ne c]; exact e)
theorem ways_ne {H : Hp} {d : Addr} {W : Ways} {A : WaysA} (h : WaysAt H d W A) (hd : H d = some (.dK (toK (fun x : Addr × AL Str => V.ref x.1) A))) : ∀ p ∈ A, p.2.1 ≠ d := fun p hp e => by
  have q := h.inn p hp
  rw [e, hd] at q
  have z : toK (fun x : Addr × AL Str => V.ref x.1) A = toK V.str p.2.2 := by
    have := Option.some.inj q
    injection this
  cases A with
  | nil => cases hp
  | cons a r =>
    cases hl : p.2.2 with
    | nil => rw [hl] at z; cases z
    | cons b t =>
      rw [hl] at z
      have y := (List.cons.inj z).1
      have y2 := (Prod.mk.inj y).2
      cases y2
theorem ways_lock {H : Hp} {d : Addr} {W : Ways} {A : WaysA} {o : Obj} (h : WaysAt H d W A) (hd : H d = some (.dK (toK (fun x : Addr × AL Str => V.ref x.1) A))) :
    WaysAt (upd H d (.frz o (.dK (toK (fun x : Addr × AL Str => V.ref x.1) A)))) d W A :=
  ⟨h.val, .inr ⟨o, upd_same⟩, fun p hp => by rw [upd_ne (ways_ne h hd p hp)]; exact h.inn p hp⟩
theorem upd_self {H : Hp} {a : Addr} {u : HO} (h : H a = some u) : upd H a u = H := by
  funext c
  unfold upd
  split
  · rename_i e; rw [e, h]
  · rfl
theorem filter_take {α : Type} {p : α → Bool} {l : List α} {i : Nat} {k : α} (h : l[i]? = some k) : (l.take (i + 1)).filter p = if p k = true then (l.take i).filter p ++ [k] else (l.take i).filter p := by
  rw [List.take_add_one, h, List.filter_append]
  show _ ++ List.filter p [k] = _
  by_cases c : p k = true
  · rw [if_pos c, List.filter_cons_of_pos c]
    rfl
  · rw [if_neg c, List.filter_cons_of_neg c]
    exact List.append_nil _
/-- behind a comprehension over a locked thing: the new list alone is more -/
theorem unlock_new {H : Hp} {p D : Addr} {x y u : HO} (hp : H p = some u) (hD : (upd H p x) D = none) : upd (upd (upd H p x) D y) p u = upd H D y := by
  have ne : p ≠ D := fun z => by rw [← z, upd_same] at hD; cases hD
  rw [upd_comm (fun z => ne z.symm), upd_back hp]
section
variable {P : Program} {w : World} {K : PySem.W.Frag} {mg : Str → Option Value} {base : Heap}
/-! ### paired -/
abbrev sPaired : Stmt := topS 17
abbrev nPaired : List Str := ["ways", "held", "begin", "came", "column", "free", "row", "ahead", "other"]
theorem scPaired : FnScope nPaired ["ways"] (defScope sPaired) := ⟨rfl, rfl, rfl, by decide +kernel, rfl, by decide +kernel, by decide +kernel⟩
def spPaired : Sp := fun vs H Q _ => ∃ (d : Addr) (W : Ways) (A : WaysA) (cols : List Int), vs = [.ref d] ∧ WaysAt H d W A ∧ H d = some (.dK (toK (fun x : Addr × AL Str => V.ref x.1) A)) ∧ (keys W).Nodup ∧
  (∀ r ∈ keys W, ∀ c ∈ nb W r, c ∈ cols) ∧ cols.length ≤ 900 ∧
  ∀ (p : Addr) (H' : Hp) (held : AL Int), Same H H' → H p = none → H' p = some (.dK (toK V.int held)) → Mat (nb W) (keys W) held → (∀ c ∈ keys held, c ∈ cols) → Q (.ref p) H'
theorem int_list {xs : List Int} : (intsV xs).length = xs.length := List.length_map _
theorem ok_paired {f : Addr} {fd : FuncData} (F : Fun K "paired" "paired" sPaired f fd) (T : Txt mg) (DR : IsDef P w K mg base "reached" 1 ["ways", "held", "begins"] spReached) : FnOk P w K mg base CX0 2 f fd ["ways"] spPaired := by
  obtain ⟨fR, fdR, GR, mR, kR, bR⟩ := DR
  refine F.ok scPaired (fun vs H Q E h => ?_) (fun cdv A' outer s H vs Q E hr h => ?_)
  · obtain ⟨d, W, A, cols, rfl, _⟩ := h
    rfl
  obtain ⟨d, W, A, cols, rfl, hW, hd, ndW, b3, b4, q⟩ := h
  have hu := hu_of hr
  refine ⟨_, pss_cons (ps_set (i := 1) scPaired.nd rfl (Or.inr rfl) pe_dnewK)
    (pss_cons (ps_lock (ps_for PassesOwn.never rfl (pi_keys (pv 0)) (pg_name (i := 2) scPaired.nd rfl (Or.inl rfl))
      (pss_cons (ps_set (i := 3) scPaired.nd rfl (Or.inl rfl) (pe_call GR hr rfl mR kR bR .nil pass0 (pa_cons (pv 0) (pa_cons (pv 1) (pa_cons (pe_lst (pa_cons (pv 2) pa_nil)) pa_nil)))))
      (pss_cons (ps_lock (ps_setLc (i := 5) (own := [("column", 4)]) (g := gName 4) rfl scPaired.nd rfl rfl (sw_true rfl rfl rfl (by decide +kernel)) (pi_keys (pv 3)) (blkOk_by (N := nPaired) (sc := defScope sPaired) (by decide +kernel))
          (fun _ _ _ _ _ => pg_name (i := 4) scPaired.nd rfl (Or.inl rfl)) (fun _ _ _ _ _ => pts_one (pt_cmp (pc_dnotin hu (pv 4) (pv 1)))) (fun _ _ _ _ _ => pv 4)))
      (pss_one (ps_if (pt_cmpR op_gt (pe_callB call_len_seq (by rfl) T.len PySem.boot_len (pa_cons (pv 5) pa_nil)) pe_int (nomark _))
        (pss_cons (ps_set (i := 4) scPaired.nd rfl (Or.inl rfl) (pe_ix ix_list (pv 5) pe_int (fun _ _ => rfl)))
        (pss_one (ps_while PassesOwn.never (pt_cmpR op_notN (pv 4) pe_non (nomark _))
          (pss_cons (ps_set (i := 6) scPaired.nd rfl (Or.inr rfl) (pe_dget hu (pv 3) (pv 4) (fun _ _ => rfl)))
          (pss_cons (ps_lock (ps_setLc (i := 7) (own := [("other", 8)]) (g := gName 8) rfl scPaired.nd rfl rfl (sw_true rfl rfl rfl (by decide +kernel)) (pi_keys (pv 1)) (blkOk_by (N := nPaired) (sc := defScope sPaired) (by decide +kernel))
              (fun _ _ _ _ _ => pg_name (i := 8) scPaired.nd rfl (Or.inl rfl)) (fun _ _ _ _ _ => pts_one (pt_cmpR op_eq (pe_dget hu (pv 1) (pv 8) (fun _ _ => rfl)) (pv 6) (nomark _))) (fun _ _ _ _ _ => pv 8)))
          (pss_cons (ps_dput hu (pv 1) (pv 4) (pv 6) rfl)
          (pss_cons (ps_set (i := 4) scPaired.nd rfl (Or.inl rfl) pe_non)
          (pss_one (ps_if (pt_cmpR op_gt (pe_callB call_len_seq (by rfl) T.len PySem.boot_len (pa_cons (pv 7) pa_nil)) pe_int (nomark _))
            (pss_one (ps_set (i := 4) scPaired.nd rfl (Or.inl rfl) (pe_ix ix_list (pv 7) pe_int (fun _ _ => rfl)))) pss_nil))))))))) pss_nil))))))
    (pss_one (ps_ret (pv 1)))), ?_⟩
  intro e he
  have se : Same H (upd H e (.dK [])) := same_new he _
  have ned : e ≠ d := fun z => by rw [z, hd] at he; cases he
  have hd1 := se _ _ hd
  refine ⟨d, _, hd1, trivial, fun od => ?_⟩
  -- the heap with ways locked, ahead of held
  have hW1 : WaysAt (upd H d (.frz od (.dK (toK (fun x : Addr × AL Str => V.ref x.1) A)))) d W A := ways_lock hW hd
  have hle : (upd H d (.frz od (.dK (toK (fun x : Addr × AL Str => V.ref x.1) A)))) e = none := by rw [upd_ne ned]; exact he
  have s0 : Same (upd H d (.frz od (.dK (toK (fun x : Addr × AL Str => V.ref x.1) A)))) (upd (upd H e (.dK [])) d (.frz od (.dK (toK (fun x : Addr × AL Str => V.ref x.1) A)))) := by
    rw [upd_comm ned]
    exact same_new hle _
  have he0 : (upd (upd H e (.dK [])) d (.frz od (.dK (toK (fun x : Addr × AL Str => V.ref x.1) A)))) e = some (.dK (toK V.int [])) := by rw [upd_ne ned, upd_same]; rfl
  have fin0 : ∀ H' : Hp, Same (upd H d (.frz od (.dK (toK (fun x : Addr × AL Str => V.ref x.1) A)))) H' → Same H (upd H' d (.dK (toK (fun x : Addr × AL Str => V.ref x.1) A))) := fun H' z => same_unlock z hd
  have lk0 : (upd (upd H e (.dK [])) d (.frz od (.dK (toK (fun x : Addr × AL Str => V.ref x.1) A)))) d = some (.frz od (.dK (toK (fun x : Addr × AL Str => V.ref x.1) A))) := upd_same
  have lkH : ∀ {H' : Hp}, Same (upd H d (.frz od (.dK (toK (fun x : Addr × AL Str => V.ref x.1) A)))) H' → H' d = some (.frz od (.dK (toK (fun x : Addr × AL Str => V.ref x.1) A))) := fun z => z _ _ upd_same
  have kA : keys A = keys W := by
    have := keys_mapv (g := fun x : Addr × AL Str => x.2) (l := A)
    rw [← this]
    exact congrArg keys hW.val
  generalize upd (upd H e (.dK [])) d (.frz od (.dK (toK (fun x : Addr × AL Str => V.ref x.1) A))) = G0 at s0 he0 lk0 ⊢
  generalize upd H d (.frz od (.dK (toK (fun x : Addr × AL Str => V.ref x.1) A))) = Hl at s0 hW1 hle fin0 lkH
  refine ⟨_, rfl, d, od, rfl, .inl ⟨_, lk0, for_keys (fun i σ H3 => (∃ y2 y3 y4 y5 y6 y7 y8, σ = [some (.ref d), some (.ref e), y2, y3, y4, y5, y6, y7, y8]) ∧ ∃ held : AL Int, Same Hl H3 ∧ H3 e = some (.dK (toK V.int held)) ∧ Mat (nb W) ((keys W).take i) held ∧ ∀ c ∈ keys held, c ∈ cols)
    ⟨⟨_, _, _, _, _, _, _, rfl⟩, [], s0, he0, Mat.start, fun c hc => by cases hc⟩ (fun i σ H3 _ ⟨_, _, z, _⟩ => lkH z) ?_ ?_⟩⟩
  · rintro i key v σ H3 hk ⟨⟨y2, y3, y4, y5, y6, y7, y8, rfl⟩, held, s3, h3, Mt, sub⟩
    obtain ⟨pr, hpr, rfl, _⟩ := toK_at hk
    obtain ⟨r, a0, l0⟩ := pr
    have hrw : (keys W)[i]? = some r := by rw [← kA]; unfold keys; rw [List.getElem?_map, hpr]; rfl
    have rW : r ∈ keys W := List.mem_of_getElem? hrw
    have ti : (keys W).take (i + 1) = (keys W).take i ++ [r] := by rw [List.take_add_one, hrw]; rfl
    have nr : r ∉ (keys W).take i := fun z => by
      have y : ((keys W).take (i + 1)).Nodup := ndW.sublist (List.take_sublist _ _)
      rw [ti] at y
      exact (List.nodup_append.mp y).2.2 r z r List.mem_cons_self rfl
    -- came = reached(ways, held, [begin])
    refine ⟨_, rfl, _, rfl, _, rfl, (by show 1 ≤ sizeLine; decide), fun b hb => ?_⟩
    have s4 : Same H3 (upd H3 b (.lst [.int r])) := same_new hb _
    refine ⟨d, e, b, W, A, held, [r], cols, rfl, hW1.mono (s3.trans s4), .inl (s4 _ _ h3), upd_same, fun x hx => (by rw [List.mem_singleton.mp hx]; exact rW), fun c x hx => List.mem_of_mem_take (Mt.adj c x hx).2, b3, (by show 1 + cols.length ≤ 1000; omega), fun p H5 came s5 hp0 hp ok cl csub => ?_⟩
    have s35 : Same H3 H5 := s4.trans s5
    have hpl : H3 p = none := Same.free s4 hp0
    have hpe : p ≠ e := fun z => by rw [z, h3] at hpl; cases hpl
    have h5e := s35 _ _ h3
    have clen : came.length ≤ cols.length := by
      rw [← keys_len]
      exact nd_le ok.nd csub
    -- free = [column for column in came if column not in held]
    refine ⟨p, _, hp, trivial, fun o2 => ?_⟩
    have h5e' : Rd (upd H5 p (.frz o2 (.dK (toK V.int came)))) e (.dK (toK V.int held)) := .inl (by rw [upd_ne hpe.symm]; exact h5e)
    refine ⟨_, rfl, p, o2, rfl, .inl ⟨_, upd_same, fun D hD => lc_keys (fun k H' => H' = upd (upd H5 p (.frz o2 (.dK (toK V.int came)))) D (.lst (intsV (((keys came).take k).filter fun c => !decide (c ∈ keys held))))) rfl (fun k H' _ z => ?_) ?_ ?_⟩⟩
    · rw [z]
      exact same_new hD _ _ _ upd_same
    · rintro k key v H' hk' rfl
      obtain ⟨pr, hpr', rfl, _⟩ := toK_at hk'
      have hck : (keys came)[k]? = some pr.1 := by unfold keys; rw [List.getElem?_map, hpr']; rfl
      have kl : k < came.length := (List.getElem?_eq_some_iff.mp hpr').1
      refine ⟨rfl, _, rfl, _, rfl, e, _, rfl, dget_of (rd_same (same_new hD _) h5e') pr.1, _, rfl, ?_⟩
      rw [isSome_key]
      have fl := filter_take (p := fun c => !decide (c ∈ keys held)) hck
      by_cases c : pr.1 ∈ keys held
      · rw [decide_eq_true c]
        refine iteF ?_
        rw [fl, if_neg (by simp [c])]
      · rw [decide_eq_false c]
        refine iteT ⟨_, rfl, acc_end ?_ ?_⟩
        · rw [int_list]
          have z := List.length_filter_le (fun c => !decide (c ∈ keys held)) ((keys came).take k)
          rw [List.length_take] at z
          exact small1000 (by omega)
        · rw [fl, if_pos (by simp [c])]
          unfold intsV
          rw [List.map_append]
          rfl
    rintro H6 rfl
    refine ⟨same_new hD _ _ _ upd_same, ?_⟩
    rw [unlock_new hp hD, show (keys came).take (toK V.int came).length = keys came from List.take_of_length_le (by rw [keys_toK]; exact Nat.le_refl _)]
    have hD5 : H5 D = none := by
      have ne : D ≠ p := fun z => by rw [z, upd_same] at hD; cases hD
      rw [upd_ne ne] at hD
      exact hD
    have s36 : Same H3 (upd H5 D (.lst (intsV ((keys came).filter fun c => !decide (c ∈ keys held))))) := same_more s35 hD5 _
    have hp6 := same_new hD5 (.lst (intsV ((keys came).filter fun c => !decide (c ∈ keys held)))) _ _ hp
    have fr6 : (upd H5 D (.lst (intsV ((keys came).filter fun c => !decide (c ∈ keys held))))) D = some (.lst (intsV ((keys came).filter fun c => !decide (c ∈ keys held)))) := upd_same
    generalize upd H5 D (.lst (intsV ((keys came).filter fun c => !decide (c ∈ keys held)))) = H6 at s36 hp6 fr6 ⊢
    -- if len(free) > 0
    refine ⟨_, rfl, D, _, rfl, .inl (SqL.of fr6), _, _, rfl, rfl, _, rfl, ?_⟩
    cases hf : (keys came).filter fun c => !decide (c ∈ keys held) with
    | nil =>
      refine iteF ?_
      refine ⟨⟨_, _, _, _, _, _, _, rfl⟩, held, s3.trans s36, s36 _ _ h3, ?_, sub⟩
      rw [ti]
      refine Mt.stay nr ok cl fun c hc => ?_
      by_cases z : c ∈ keys held
      · exact z
      · have y : c ∈ (keys came).filter fun c => !decide (c ∈ keys held) := List.mem_filter.mpr ⟨hc, by simp [z]⟩
        rw [hf] at y
        cases y
    | cons c0 rest =>
      rw [hf] at fr6
      have inF : c0 ∈ (keys came).filter fun c => !decide (c ∈ keys held) := by rw [hf]; exact List.mem_cons_self
      obtain ⟨f1, f2⟩ := List.mem_filter.mp inF
      have nh0 : c0 ∉ keys held := by simpa using f2
      obtain ⟨j0, hj0, ej0⟩ := List.mem_iff_getElem.mp f1
      have at0 : (keys came)[j0]? = some c0 := by rw [List.getElem?_eq_getElem hj0, ej0]
      refine ite2 (fun _ => ?_) (fun z => absurd (decide_eq_true (show (0 : Int) < (((intsV (c0 :: rest)).length : Nat) : Int) by rw [int_list, List.length_cons]; omega)) z)
      refine ⟨_, rfl, D, _, _, _, rfl, rfl, SqL.of fr6, atI_nat (j := 0) rfl, ?_⟩
      obtain ⟨R, Tc, c1, c2, c3, c4⟩ := Mt.cert
      -- while column is not None
      refine ⟨fun m σ H7 => (∃ (x4 : V) (y6 y7 y8 : Option V), σ = [some (.ref d), some (.ref e), some (.int r), some (.ref p), some x4, some (.ref D), y6, y7, y8] ∧ ∃ h : AL Int, Same H3 (upd H7 e (.dK (toK V.int held))) ∧ H7 e = some (.dK (toK V.int h)) ∧ H7 p = some (.dK (toK V.int came)) ∧ (∀ c ∈ keys h, c ∈ cols) ∧
          ((∃ (c : Int) (j : Nat), x4 = .int c ∧ m = j + 1 ∧ Aug (nb W) ((keys W).take i) held Tc came h j c) ∨ (x4 = .non ∧ Mat (nb W) ((keys W).take (i + 1)) h))),
        ⟨j0 + 1, .int c0, _, _, _, rfl, held, ?_, s36 _ _ h3, hp6, sub, .inl ⟨c0, j0, rfl, rfl, Aug.start Mt c4 at0 nh0⟩⟩, ?_⟩
      · rw [upd_self (s36 _ _ h3)]
        exact s36
      rintro m σ H7 ⟨x4, y6', y7', y8', rfl, h, s7, h7, p7, sub7, alt⟩
      have pe : p ≠ e := hpe
      rcases alt with ⟨c, j, rfl, rfl, Ag⟩ | ⟨rfl, Mt7⟩
      · refine ⟨_, rfl, rfl, _, rfl, iteT ?_⟩
        refine ⟨fun σ' H8 => (∃ (x4 : V) (y6 y7 y8 : Option V), σ' = [some (.ref d), some (.ref e), some (.int r), some (.ref p), some x4, some (.ref D), y6, y7, y8] ∧ ∃ h : AL Int, Same H3 (upd H8 e (.dK (toK V.int held))) ∧ H8 e = some (.dK (toK V.int h)) ∧ H8 p = some (.dK (toK V.int came)) ∧ (∀ c ∈ keys h, c ∈ cols) ∧
          ((∃ (c : Int) (j' : Nat), x4 = .int c ∧ j' < j ∧ Aug (nb W) ((keys W).take i) held Tc came h j' c) ∨ (x4 = .non ∧ Mat (nb W) ((keys W).take (i + 1)) h))), ?_, ?_⟩
        · rintro σ' H8 ⟨x4, z6, z7, z8, e1, h', g1, g2, g3, g4, alt⟩
          rcases alt with ⟨c', j', e2, lt, Ag'⟩ | ⟨e2, M'⟩
          · exact ⟨j' + 1, by omega, x4, z6, z7, z8, e1, h', g1, g2, g3, g4, .inl ⟨c', j', e2, rfl, Ag'⟩⟩
          · exact ⟨0, by omega, x4, z6, z7, z8, e1, h', g1, g2, g3, g4, .inr ⟨e2, M'⟩⟩
        obtain ⟨row, hrow, grow⟩ := came_at ok.nd Ag.at'
        have cIn : c ∈ cols := csub c (List.mem_of_getElem? Ag.at')
        have dgc := dget_of (.inl p7) c
        rw [grow] at dgc
        have hl7 : h.length ≤ cols.length := by
          rw [← keys_len]
          exact nd_le Ag.nd sub7
        -- row = came[column]
        refine ⟨_, rfl, _, rfl, p, V.int row, rfl, dgc, ?_⟩
        -- ahead
        refine ⟨e, _, h7, trivial, fun o3 => ?_⟩
        refine ⟨_, rfl, e, o3, rfl, .inl ⟨_, upd_same, fun D2 hD2 => lc_keys (fun k H' => H' = upd (upd H7 e (.frz o3 (.dK (toK V.int h)))) D2 (.lst (intsV (((h.take k).filter fun z => decide (z.2 = row)).map (·.1))))) rfl (fun k H' _ z => ?_) ?_ ?_⟩⟩
        · rw [z]
          exact same_new hD2 _ _ _ upd_same
        · rintro k key v H' hk' rfl
          obtain ⟨pr, hpr', rfl, _⟩ := toK_at hk'
          have kl : k < h.length := (List.getElem?_eq_some_iff.mp hpr').1
          have gp : get h pr.1 = some pr.2 := get_of_mem Ag.nd (List.mem_of_getElem? hpr')
          have dgh : DGet (upd (upd H7 e (.frz o3 (.dK (toK V.int h)))) D2 (.lst (intsV (((h.take k).filter fun z => decide (z.2 = row)).map (·.1))))) e (.int pr.1) (some (.int pr.2)) := by
            have z := dget_of (f := V.int) (l := h) (.inr ⟨o3, same_new hD2 (.lst (intsV (((h.take k).filter fun z => decide (z.2 = row)).map (·.1)))) _ _ upd_same⟩) pr.1
            rw [gp] at z
            exact z
          refine ⟨rfl, _, rfl, _, rfl, e, _, rfl, dgh, _, rfl, rfl, _, rfl, ?_⟩
          have fl := filter_take (p := fun z : Int × Int => decide (z.2 = row)) hpr'
          by_cases c9 : pr.2 = row
          · have t9 : decide (V.int pr.2 = V.int row) = true := decide_eq_true (by rw [c9])
            rw [t9]
            refine iteT ⟨_, rfl, acc_end ?_ ?_⟩
            · rw [int_list, List.length_map]
              have z := List.length_filter_le (fun z : Int × Int => decide (z.2 = row)) (h.take k)
              rw [List.length_take] at z
              exact small1000 (by omega)
            · rw [fl, if_pos (by simp [c9])]
              unfold intsV
              rw [List.map_append, List.map_append]
              rfl
          · have t9 : decide (V.int pr.2 = V.int row) = false := decide_eq_false fun z => c9 (by injection z)
            rw [t9]
            refine iteF ?_
            rw [fl, if_neg (by simp [c9])]
        rintro H8 rfl
        refine ⟨same_new hD2 _ _ _ upd_same, ?_⟩
        rw [unlock_new h7 hD2, show h.take (toK V.int h).length = h from List.take_of_length_le (by rw [toK_len]; exact Nat.le_refl _)]
        have ehb : ((h.filter fun z => decide (z.2 = row)).map (·.1)) = heldBy h row := rfl
        rw [ehb]
        have neD : e ≠ D2 := fun z => by rw [← z, upd_same] at hD2; cases hD2
        have hD7 : H7 D2 = none := by
          rw [upd_ne neD.symm] at hD2
          exact hD2
        have s8 : Same H3 (upd (upd H7 D2 (.lst (intsV (heldBy h row)))) e (.dK (toK V.int held))) := by
          rw [upd_comm neD.symm]
          exact same_more s7 (by rw [upd_ne neD.symm]; exact hD7) _
        have e8 := same_new hD7 (.lst (intsV (heldBy h row))) _ _ h7
        have p8 := same_new hD7 (.lst (intsV (heldBy h row))) _ _ p7
        have a8 : (upd H7 D2 (.lst (intsV (heldBy h row)))) D2 = some (.lst (intsV (heldBy h row))) := upd_same
        generalize upd H7 D2 (.lst (intsV (heldBy h row))) = H8 at s8 e8 p8 a8 ⊢
        -- held[column] = row
        refine ⟨_, rfl, _, rfl, _, rfl, e, _, rfl, DPut.k (k := Sum.inl c) e8 (small1000 (by rw [toK_len]; omega)), ?_⟩
        rw [toK_put]
        have a9 : (upd H8 e (.dK (toK V.int (put h c row)))) D2 = some (.lst (intsV (heldBy h row))) := by rw [upd_ne neD.symm]; exact a8
        have p9 : (upd H8 e (.dK (toK V.int (put h c row)))) p = some (.dK (toK V.int came)) := by rw [upd_ne pe]; exact p8
        have s9 : Same H3 (upd (upd H8 e (.dK (toK V.int (put h c row)))) e (.dK (toK V.int held))) := by rw [upd_upd]; exact s8
        have sub9 : ∀ c' ∈ keys (put h c row), c' ∈ cols := fun c' hc' => (mem_keys_put.mp hc').elim (sub7 c') fun z => z ▸ cIn
        -- column = None; if len(ahead) > 0
        refine ⟨_, rfl, D2, _, rfl, .inl (SqL.of a9), _, _, rfl, rfl, _, rfl, ?_⟩
        cases hh : heldBy h row with
        | nil =>
          refine iteF ⟨.non, _, _, _, rfl, put h c row, s9, upd_same, p9, sub9, .inr ⟨rfl, ?_⟩⟩
          rw [ti]
          refine Ag.end Mt nr ok c1 c2 c3 c4 hrow fun x hx => ?_
          have y := (mem_heldBy Ag.nd).mpr hx
          rw [hh] at y
          cases y
        | cons x0 rest' =>
          rw [hh] at a9
          refine ite2 (fun _ => ?_) (fun z => absurd (decide_eq_true (show (0 : Int) < (((intsV (x0 :: rest')).length : Nat) : Int) by rw [int_list, List.length_cons]; omega)) z)
          refine ⟨_, rfl, D2, _, _, _, rfl, rfl, SqL.of a9, atI_nat (j := 0) rfl, ?_⟩
          have hx0 : get h x0 = some row := (mem_heldBy Ag.nd).mp (by rw [hh]; exact List.mem_cons_self)
          obtain ⟨j', lt, Ag'⟩ := Ag.next Mt nr ok c3 c4 hrow hx0
          exact ⟨.int x0, _, _, _, rfl, put h c row, s9, upd_same, p9, sub9, .inl ⟨x0, j', rfl, lt, Ag'⟩⟩
      · refine ⟨_, rfl, rfl, _, rfl, iteF ?_⟩
        refine ⟨⟨_, _, _, _, _, _, _, rfl⟩, h, ?_, h7, Mt7, sub7⟩
        intro b' o' q'
        have ne : b' ≠ e := fun z => by rw [z, hle] at q'; cases q'
        have y := (s3.trans s7) b' o' q'
        rw [upd_ne ne] at y
        exact y
  · rintro σ H3 ⟨⟨y2, y3, y4, y5, y6, y7, y8, rfl⟩, held, s3, h3, Mt, sub⟩
    refine ⟨lkH s3, _, rfl, ?_⟩
    have le : (keys W).take (toK (fun x : Addr × AL Str => V.ref x.1) A).length = keys W := List.take_of_length_le (by rw [keys_toK, kA]; exact Nat.le_refl _)
    rw [le] at Mt
    exact q e _ held (fin0 H3 s3) he (by rw [upd_ne ned]; exact h3) Mt sub
end
end Uk
end
section
set_option linter.all false
set_option maxRecDepth 100000
set_option maxHeartbeats 4000000
namespace Uk
open PySem PySem.Spec PyProof.Rows L2 UkS
/-! ### sorted of pairs of a text and a number -/
abbrev encTI (b : Str × Int) : PyData := .tuple [.str b.1, .int b.2]
section
variable {X : Cx}
theorem each_ti {pins : List (Addr × Obj)} {σ : L2.St} {H : Hp} {s : Shared} (I : Inv X pins σ H s) : ∀ {xs : List V} {us : List Value}, Vals xs us → (∀ x ∈ xs, ∃ t z i, x = V.ref t ∧ H t = some (.tup [.str z, .int i])) →
    ∃ bs : List (Str × Int), PySem.W.EachIs (fun v b => ∃ as, Reads s.heap v (encTI b) as) us bs ∧ PySem.W.EachIs (fun v (_ : Str × Int) => ∃ a, v = Value.ref a) us bs
  | _, _, .nil, _ => ⟨[], .nil, .nil⟩
  | _, _, .cons r t, h => by
    obtain ⟨bs, e1, e2⟩ := each_ti I t fun x hx => h x (List.mem_cons_of_mem _ hx)
    obtain ⟨t, z, i, rfl, ht⟩ := h _ List.mem_cons_self
    have d : Dp X.K H (.ref t) (encTI (z, i)) := .tup (SqT.of ht) (.cons (.str z) (.cons (.int i) .nil))
    exact ⟨(z, i) :: bs, .cons (Dp.reads I _ _ _ d r) e1, .cons ⟨t, r⟩ e2⟩
theorem refs_back : ∀ {us : List Value} {bs : List (Str × Int)}, PySem.W.EachIs (fun v (_ : Str × Int) => ∃ a, v = Value.ref a) us bs → ∃ ys : List V, Vals ys us
  | _, _, .nil => ⟨[], .nil⟩
  | _, _, .cons ⟨a, e⟩ t => by
    obtain ⟨ys, h⟩ := refs_back t
    exact ⟨.ref a :: ys, .cons e h⟩
theorem cr_sortedTI (hu : X.A.units + 64 < cLine) : CallR X (.builtin "sorted") (fun vs H Q => ∃ (a : Addr) (xs : List V), vs = [V.ref a] ∧ H a = some (.lst xs) ∧ xs.length ≤ 1000 ∧ (∀ x ∈ xs, ∃ t z i, x = V.ref t ∧ H t = some (.tup [.str z, .int i])) ∧
    ∀ (p : Addr) (ys : List V), H p = none → Q (.ref p) (upd H p (.lst ys))) := by
  intro pins s σ H vs us Q I r h
  obtain ⟨a, xs, rfl, ha, hz, hx, q⟩ := h
  rw [Vals.ref1 r]
  obtain ⟨its, rv, hl, _⟩ := I.list (SqL.of ha)
  obtain ⟨bs, e1, e2⟩ := each_ti I rv hx
  have lb : bs.length = xs.length := by rw [← e1.length, ← rv.length]
  have dep : ∀ b : Str × Int, (encTI b).depth ≤ 8 := fun b => by simp [PyData.depth, PyData.depthAll]
  refine PySem.W.sorted_data hl.isList e2 e1 (PySem.W.AllAlike.of fun b b' => by simp [PySem.W.alike, PySem.W.alikeAll]) (PySem.W.Sortable.tuples fun b => ⟨_, _, rfl⟩) (by rw [lb]; exact small hz) (fun b _ => ?_) fun out ho eo => ?_
  · have := dep b
    omega
  · obtain ⟨ys, hy⟩ := refs_back eo
    obtain ⟨ep, he⟩ := PyProof.Rows.sortedAll_at s.heap its out.toArray
    have hlen : ys.length ≤ sizeLine := by rw [hy.length, ho, lb]; exact small hz
    exact ⟨.ref _, upd H (s.heap.objs.size + 1) (.lst ys), I.laid (t' := s.toks) (fun _ _ => PyProof.Rows.sortedAll_old) (Nat.le_succ _) ⟨hlen, out, ep, hy, he⟩, rfl, q _ ys (I.hok.fresh (Nat.le_succ _))⟩
end
section
variable {P : Program} {w : World} {K : PySem.W.Frag} {mg : Str → Option Value} {base : Heap}
/-! ### few_marks -/
abbrev sFew : Stmt := topS 18
abbrev nFew : List Str := ["some", "ways", "held", "column", "found", "rows", "row", "mark", "own", "known"]
theorem scFew : FnScope nFew ["some", "ways", "held"] (defScope sFew) := ⟨rfl, rfl, rfl, by decide +kernel, rfl, by decide +kernel, by decide +kernel⟩
def colsOf (S : List Row) : List Int := up (S.map fun k => k.2.2)
def spFew : Sp := fun vs H Q _ => ∃ (a d e : Addr) (S : List Row) (W : Ways) (A : WaysA) (held : AL Int), vs = [.ref a, .ref d, .ref e] ∧ SomeAt H a S ∧ WaysAt H d W A ∧ H d = some (.dK (toK (fun x : Addr × AL Str => V.ref x.1) A)) ∧
  H e = some (.dK (toK V.int held)) ∧ WaysOk S W ∧ Mat (nb W) (keys W) held ∧ S.length < 64 ∧ fewN held (keys W) (colsOf S) < 64 ∧
  ∀ (p : Addr) (H' : Hp) (ys : List Str), Same H H' → H' p = some (.lst (ys.map V.str)) → ys.length = fewN held (keys W) (colsOf S) → Q (.ref p) H'
theorem strs_snoc {fs : List Str} {m : Str} : fs.map V.str ++ [V.str m] = (fs ++ [m]).map V.str := by rw [List.map_append]; rfl
theorem filter_snoc_len {α : Type} {p : α → Bool} {l : List α} {i : Nat} {k : α} (h : l[i]? = some k) : ((l.take (i + 1)).filter p).length = ((l.take i).filter p).length + (if p k = true then 1 else 0) := by
  rw [filter_take h]
  by_cases c : p k = true
  · rw [if_pos c, if_pos c, List.length_append, List.length_singleton]
  · rw [if_neg c, if_neg c, Nat.add_zero]
theorem filter_take_le {α : Type} (p : α → Bool) (l : List α) (i : Nat) : ((l.take i).filter p).length ≤ (l.filter p).length := (List.Sublist.filter p (List.take_sublist i l)).length_le
theorem ok_few {f : Addr} {fd : FuncData} (F : Fun K "few_marks" "few_marks" sFew f fd) (T : Txt mg) : FnOk P w K mg base CX0 1 f fd ["some", "ways", "held"] spFew := by
  refine F.ok scFew (fun vs H Q E h => ?_) (fun cdv A' outer s H vs Q E hr h => ?_)
  · obtain ⟨a, d, e, S, W, A, held, rfl, _⟩ := h
    rfl
  obtain ⟨a, d, e, S, W, A, held, rfl, ⟨vs, h1, h2⟩, hW, hd, he, ok, Mt, hS, hfew, q⟩ := h
  have hu := hu_of hr
  have hl := h2.len
  rw [List.length_map] at hl
  refine ⟨_, pss_cons (ps_lock (ps_setLc (i := 4) (own := [("column", 3)]) (g := gName 3) (tt := tYes) rfl scFew.nd rfl rfl (sw_true rfl rfl rfl (by decide +kernel)) (pi_keys (pv 2)) (blkOk_by (N := nFew) (sc := defScope sFew) (by decide +kernel))
      (fun _ _ _ _ _ => pg_name (i := 3) scFew.nd rfl (Or.inl rfl)) (fun _ _ _ _ _ => pts_nil) (fun _ _ _ _ _ => pe_dget hu (pe_dget hu (pv 1) (pe_dget hu (pv 2) (pv 3) (fun _ _ => rfl)) (fun _ _ => rfl)) (pv 3) (fun _ _ => rfl))))
    (pss_cons (ps_lock (ps_setLc (i := 5) (own := [("column", 3)]) (g := gName 3) (tt := tYes) rfl scFew.nd rfl rfl (sw_true rfl rfl rfl (by decide +kernel)) (pi_keys (pv 2)) (blkOk_by (N := nFew) (sc := defScope sFew) (by decide +kernel))
      (fun _ _ _ _ _ => pg_name (i := 3) scFew.nd rfl (Or.inl rfl)) (fun _ _ _ _ _ => pts_nil) (fun _ _ _ _ _ => pe_dget hu (pv 2) (pv 3) (fun _ _ => rfl))))
    (pss_cons (ps_lock (ps_for PassesOwn.never rfl (pi_keys (pv 1)) (pg_name (i := 6) scFew.nd rfl (Or.inr rfl))
      (pss_one (ps_if (pt_cmpR op_notIn_seq (pv 6) (pv 5) (by rfl))
        (pss_one (ps_expr (pe_bm PySem.F.plainAttrs_list PySem.F.slot_list_append PySem.F.type_list_append mt_append (pv 4) (pa_cons (pe_ix ix_list
          (pe_lc (own := [("mark", 7), ("own", 8), ("column", 3)]) (g := gTup K 3 (gCons (gName 7) (gCons (gName 8) (gCons (gName 3) gNil)))) rfl scFew.nd (pi_list (pv 0)) (blkOk_by (N := nFew) (sc := defScope sFew) (by decide +kernel))
            (fun _ _ _ _ _ => pg_tupK rfl rfl (pgs_cons (pg_name (i := 7) scFew.nd rfl (Or.inl rfl)) (pgs_cons (pg_name (i := 8) scFew.nd rfl (Or.inl rfl)) (pgs_cons (pg_name (i := 3) scFew.nd rfl (Or.inl rfl)) pgs_nil))))
            (fun _ _ _ _ _ => pts_one (pt_cmpR op_eq (pv 8) (pv 6) (nomark _))) (fun _ _ _ _ _ => pv 7)) pe_int (fun _ _ => rfl)) pa_nil)))) pss_nil))))
    (pss_cons (ps_for PassesOwn.never rfl (pi_list (pe_callB (cr_sortedOfI rfl) (by rfl) T.sorted (by decide +kernel) (pa_cons (pe_callTy (cr_setOfI rfl) (by rfl) T.set (by decide +kernel) (pa_cons
        (pe_lc (own := [("known", 9)]) (g := gName 9) (tt := tYes) rfl scFew.nd (pi_list (pv 0)) (blkOk_by (N := nFew) (sc := defScope sFew) (by decide +kernel)) (fun _ _ _ _ _ => pg_name (i := 9) scFew.nd rfl (Or.inl rfl)) (fun _ _ _ _ _ => pts_nil)
          (fun _ _ _ _ _ => pe_ix (ix_tupK (K := K) rfl) (pv 9) pe_int (fun _ _ => rfl))) pa_nil)) pa_nil))) (pg_name (i := 3) scFew.nd rfl (Or.inr rfl))
      (pss_one (ps_if (pt_cmp (pc_dnotin hu (pv 3) (pv 2)))
        (pss_one (ps_expr (pe_bm PySem.F.plainAttrs_list PySem.F.slot_list_append PySem.F.type_list_append mt_append (pv 4) (pa_cons (pe_ix ix_list
          (pe_lc (own := [("mark", 7), ("row", 6), ("own", 8)]) (g := gTup K 3 (gCons (gName 7) (gCons (gName 6) (gCons (gName 8) gNil)))) rfl scFew.nd (pi_list (pv 0)) (blkOk_by (N := nFew) (sc := defScope sFew) (by decide +kernel))
            (fun _ _ _ _ _ => pg_tupK rfl rfl (pgs_cons (pg_name (i := 7) scFew.nd rfl (Or.inl rfl)) (pgs_cons (pg_name (i := 6) scFew.nd rfl (Or.inl rfl)) (pgs_cons (pg_name (i := 8) scFew.nd rfl (Or.inl rfl)) pgs_nil))))
            (fun _ _ _ _ _ => pts_one (pt_cmpR op_eq (pv 8) (pv 3) (nomark _))) (fun _ _ _ _ _ => pv 7)) pe_int (fun _ _ => rfl)) pa_nil)))) pss_nil)))
    (pss_one (ps_ret (pe_callB cr_sortedS (by rfl) T.sorted (by decide +kernel) (pa_cons (pv 4) pa_nil))))))), ?_⟩
  have kA : keys A = keys W := by
    have := keys_mapv (g := fun x : Addr × AL Str => x.2) (l := A)
    rw [← this]
    exact congrArg keys hW.val
  have hlen : held.length ≤ fewN held (keys W) (colsOf S) := by unfold fewN; omega
  -- found
  refine ⟨e, _, he, trivial, fun o1 => ?_⟩
  refine ⟨_, rfl, e, o1, rfl, .inl ⟨_, upd_same, fun D hD => lc_keys (fun i H' => ∃ fs : List Str, fs.length = i ∧ H' = upd (upd H e (.frz o1 (.dK (toK V.int held)))) D (.lst (fs.map V.str))) ⟨[], rfl, rfl⟩ (fun i H' _ ⟨_, _, z⟩ => ?_) ?_ ?_⟩⟩
  · rw [z]
    exact same_new hD _ _ _ upd_same
  · rintro i key v H' hk ⟨fs, hfs, rfl⟩
    obtain ⟨pr, hpr, rfl, _⟩ := toK_at hk
    have il : i < held.length := (List.getElem?_eq_some_iff.mp hpr).1
    have gp : get held pr.1 = some pr.2 := get_of_mem Mt.nd (List.mem_of_getElem? hpr)
    obtain ⟨cN, rW⟩ := Mt.adj _ _ gp
    obtain ⟨a0, l, gW, gA, hin, dg⟩ := hW.row rW
    rw [nb_get gW] at cN
    obtain ⟨m, gm⟩ := get_some_of cN
    have sD := same_new hD (.lst (fs.map V.str))
    have dg1 := dget_of (rd_same sD (.inr ⟨o1, upd_same⟩)) pr.1 (l := held) (f := V.int)
    rw [gp] at dg1
    have dg2 := dget_of (rd_same sD (rd_lock he hW.out)) pr.2
    rw [gA] at dg2
    have dg3 := dget_of (rd_same sD (rd_lock he (.inl hin))) pr.1
    rw [gm] at dg3
    refine ⟨rfl, _, rfl, _, rfl, _, rfl, e, V.int pr.2, rfl, dg1, d, V.ref a0, rfl, dg2, _, rfl, a0, V.str m, rfl, dg3, ?_⟩
    refine ⟨fs.map V.str, upd_same, small1000 (by rw [List.length_map]; omega), fs ++ [m], by rw [List.length_append, List.length_singleton, hfs], ?_⟩
    rw [upd_upd, strs_snoc]
  rintro H1 ⟨fs, hfs, rfl⟩
  refine ⟨same_new hD _ _ _ upd_same, ?_⟩
  rw [unlock_new he hD]
  rw [toK_len] at hfs
  have hD0 : H D = none := by
    have ne : D ≠ e := fun z => by rw [z, upd_same] at hD; cases hD
    rw [upd_ne ne] at hD
    exact hD
  have s1 : Same H (upd H D (.lst (fs.map V.str))) := same_new hD0 _
  have f1 : (upd H D (.lst (fs.map V.str))) D = some (.lst (fs.map V.str)) := upd_same
  generalize upd H D (.lst (fs.map V.str)) = H1 at s1 f1 ⊢
  -- rows
  have he1 := s1 _ _ he
  refine ⟨e, _, he1, trivial, fun o2 => ?_⟩
  refine ⟨_, rfl, e, o2, rfl, .inl ⟨_, upd_same, fun D2 hD2 => lc_keys (fun i H' => H' = upd (upd H1 e (.frz o2 (.dK (toK V.int held)))) D2 (.lst (intsV ((held.take i).map (·.2))))) rfl (fun i H' _ z => ?_) ?_ ?_⟩⟩
  · rw [z]
    exact same_new hD2 _ _ _ upd_same
  · rintro i key v H' hk rfl
    obtain ⟨pr, hpr, rfl, _⟩ := toK_at hk
    have il : i < held.length := (List.getElem?_eq_some_iff.mp hpr).1
    have gp : get held pr.1 = some pr.2 := get_of_mem Mt.nd (List.mem_of_getElem? hpr)
    have dg1 := dget_of (rd_same (same_new hD2 (.lst (intsV ((held.take i).map (·.2))))) (.inr ⟨o2, upd_same⟩)) pr.1 (l := held) (f := V.int)
    rw [gp] at dg1
    refine ⟨rfl, _, rfl, _, rfl, e, V.int pr.2, rfl, dg1, acc_end ?_ ?_⟩
    · rw [int_list, List.length_map, List.length_take]
      exact small1000 (by omega)
    · rw [take_map_succ hpr]
      unfold intsV
      rw [List.map_append]
      rfl
  rintro H2 rfl
  refine ⟨same_new hD2 _ _ _ upd_same, ?_⟩
  rw [unlock_new he1 hD2, show held.take (toK V.int held).length = held from List.take_of_length_le (by rw [toK_len]; exact Nat.le_refl _)]
  have hD20 : H1 D2 = none := by
    have ne : D2 ≠ e := fun z => by rw [z, upd_same] at hD2; cases hD2
    rw [upd_ne ne] at hD2
    exact hD2
  have ndd : D ≠ D2 := fun z => by rw [← z, f1] at hD20; cases hD20
  have s2 : Same H (upd H1 D2 (.lst (intsV (held.map (·.2))))) := same_more s1 hD20 _
  have f2 : (upd H1 D2 (.lst (intsV (held.map (·.2))))) D = some (.lst (fs.map V.str)) := by rw [upd_ne ndd]; exact f1
  have r2 : (upd H1 D2 (.lst (intsV (held.map (·.2))))) D2 = some (.lst (intsV (held.map (·.2)))) := upd_same
  have hD2H : H D2 = none := Same.free s1 hD20
  generalize upd H1 D2 (.lst (intsV (held.map (·.2)))) = H2 at s2 f2 r2 ⊢
  -- for row in ways
  have hd2 := s2 _ _ hd
  refine ⟨d, _, hd2, trivial, fun od => ?_⟩
  have Dd : D ≠ d := fun z => by rw [z, hd] at hD0; cases hD0
  have D2d : D2 ≠ d := fun z => by rw [z, hd] at hD2H; cases hD2H
  have ad : a ≠ d := ne_of h1 hd (by intro z; cases z)
  have lockS : ∀ {U : Hp}, Same H U → Same (upd H d (.frz od (.dK (toK (fun x : Addr × AL Str => V.ref x.1) A)))) (upd U d (.frz od (.dK (toK (fun x : Addr × AL Str => V.ref x.1) A)))) := fun {U} sU b o q' => by
    by_cases z : b = d
    · rw [z, upd_same] at q'
      rw [z, upd_same]
      exact q'
    · rw [upd_ne z] at q' ⊢
      exact sU b o q'
  refine ⟨_, rfl, d, od, rfl, .inl ⟨_, upd_same, for_keys (fun i σ H3 => (∃ y3 y6 y7 y8 y9, σ = [some (.ref a), some (.ref d), some (.ref e), y3, some (.ref D), some (.ref D2), y6, y7, y8, y9]) ∧ ∃ (U : Hp) (fs : List Str), H3 = upd U d (.frz od (.dK (toK (fun x : Addr × AL Str => V.ref x.1) A))) ∧ Same H U ∧ U D = some (.lst (fs.map V.str)) ∧ U D2 = some (.lst (intsV (held.map (·.2)))) ∧
      fs.length = held.length + (((keys W).take i).filter fun r => !decide (r ∈ held.map (·.2))).length)
    ⟨⟨_, _, _, _, _, rfl⟩, H2, fs, rfl, s2, f2, r2, by rw [hfs]; simp⟩ (fun i σ H3 _ ⟨_, U, _, z, _⟩ => by rw [z]; exact upd_same) ?_ ?_⟩⟩
  · rintro i key v σ H3 hk ⟨⟨y3, y6, y7, y8, y9, rfl⟩, U, fs, rfl, sU, fU, rU, lf⟩
    obtain ⟨pr, hpr, rfl, _⟩ := toK_at hk
    obtain ⟨r, x0⟩ := pr
    have hrw : (keys W)[i]? = some r := by rw [← kA]; unfold keys; rw [List.getElem?_map, hpr]; rfl
    have rW : r ∈ keys W := List.mem_of_getElem? hrw
    have fl := filter_snoc_len (p := fun r => !decide (r ∈ held.map (·.2))) hrw
    have fle := filter_take_le (fun r => !decide (r ∈ held.map (·.2))) (keys W) i
    have lfN : fs.length ≤ fewN held (keys W) (colsOf S) := by unfold fewN; omega
    have r3 : (upd U d (.frz od (.dK (toK (fun x : Addr × AL Str => V.ref x.1) A)))) D2 = some (.lst (intsV (held.map (·.2)))) := by rw [upd_ne D2d]; exact rU
    have f3 : (upd U d (.frz od (.dK (toK (fun x : Addr × AL Str => V.ref x.1) A)))) D = some (.lst (fs.map V.str)) := by rw [upd_ne Dd]; exact fU
    refine ⟨_, rfl, _, rfl, D2, _, rfl, .inl (SqL.of r3), rfl, flat_ints _, _, rfl, ?_⟩
    show if (if true = true then !inV (V.int r) (intsV (held.map (·.2))) else _) = true then _ else _
    rw [if_pos rfl, inV_ints]
    by_cases c : r ∈ held.map (·.2)
    · rw [decide_eq_true c]
      refine iteF ⟨⟨_, _, _, _, _, rfl⟩, U, fs, rfl, sU, fU, rU, ?_⟩
      rw [fl, if_neg (by simp [c]), Nat.add_zero]
      exact lf
    · rw [decide_eq_false c]
      refine iteT ?_
      have h1U : (upd U d (.frz od (.dK (toK (fun x : Addr × AL Str => V.ref x.1) A)))) a = some (.lst vs) := by rw [upd_ne ad]; exact sU _ _ h1
      have tkU : Tk H (upd U d (.frz od (.dK (toK (fun x : Addr × AL Str => V.ref x.1) A)))) := fun b xs q' => by
        rw [upd_ne (ne_of q' hd (by intro z; cases z))]
        exact sU _ _ q'
      generalize hV : upd U d (.frz od (.dK (toK (fun x : Addr × AL Str => V.ref x.1) A))) = U' at r3 f3 h1U tkU ⊢
      -- found.append([mark for mark, own, column in some if own == row][0])
      refine ⟨_, rfl, .inl ⟨rfl, _, SqL.of f3⟩, ?_⟩
      refine ⟨_, rfl, a, rfl, ⟨_, SqL.of h1U⟩, fun D3 hD3 => lc_list (K := K) (a := a) (xs := vs) (fun k H' => H' = upd U' D3 (.lst (((S.take k).filter fun z => decide (z.2.1 = r)).map fun z => V.str z.1))) rfl (fun k H' _ z => ?_) ?_ ?_⟩
      · rw [z]
        exact SqL.of (same_new hD3 _ _ _ h1U)
      · rintro k x H' hx rfl
        obtain ⟨t, z, rfl, hz, ht⟩ := h2.at hx
        have kl : k < S.length := (List.getElem?_eq_some_iff.mp hz).1
        refine ⟨t, rowV z, rfl, SqT.of (same_new hD3 _ _ _ (tkU _ _ ht)), rfl, _, _, rfl, _, _, rfl, _, _, rfl, rfl, rfl, ?_⟩
        refine ⟨_, rfl, _, rfl, rfl, _, rfl, ?_⟩
        by_cases c9 : z.2.1 = r
        · have t9 : decide (V.int z.2.1 = kV (Sum.inl (r, x0).1)) = true := decide_eq_true (show V.int z.2.1 = V.int r by rw [c9])
          rw [t9]
          refine iteT ⟨_, rfl, acc_end ?_ (take_filter_succ hz (by simp [c9]))⟩
          rw [List.length_map]
          have := List.length_filter_le (fun z : Row => decide (z.2.1 = r)) (S.take k)
          rw [List.length_take] at this
          exact small1000 (by omega)
        · have t9 : decide (V.int z.2.1 = kV (Sum.inl (r, x0).1)) = false := decide_eq_false (show ¬ V.int z.2.1 = V.int r from fun y => c9 (by injection y))
          rw [t9]
          refine iteF ?_
          rw [take_filter_same hz (by simp [c9])]
      rintro H4 rfl
      rw [show S.take vs.length = S from List.take_of_length_le (by omega)]
      obtain ⟨m, c0, hmc⟩ := (ok.row r).mp rW
      have nonE : (m, r, c0) ∈ S.filter fun z => decide (z.2.1 = r) := List.mem_filter.mpr ⟨hmc, by simp⟩
      have nD3 : D ≠ D3 := fun z => by rw [z, hD3] at f3; cases f3
      cases hp : S.filter fun z => decide (z.2.1 = r) with
      | nil => rw [hp] at nonE; cases nonE
      | cons z0 rest =>
        refine ⟨D3, _, _, V.str z0.1, rfl, rfl, SqL.of upd_same, atI_nat (j := 0) rfl, ?_⟩
        have f4 : (upd U' D3 (.lst ((z0 :: rest).map fun z => V.str z.1))) D = some (.lst (fs.map V.str)) := by rw [upd_ne nD3]; exact f3
        refine ⟨D, _, _, rfl, rfl, f4, small1000 (by rw [List.length_map]; omega), ?_⟩
        rw [strs_snoc]
        have hD3d : D3 ≠ d := fun y => by rw [← hV, y, upd_same] at hD3; cases hD3
        have hD3U : U D3 = none := by rw [← hV, upd_ne hD3d] at hD3; exact hD3
        have nD23 : D2 ≠ D3 := fun y => by rw [← y, rU] at hD3U; cases hD3U
        refine ⟨⟨_, _, _, _, _, rfl⟩, upd (upd U D3 (.lst ((z0 :: rest).map fun z => V.str z.1))) D (.lst ((fs ++ [z0.1]).map V.str)), fs ++ [z0.1], ?_, same_put (same_more sU hD3U _) hD0 _, upd_same, ?_, ?_⟩
        · rw [← hV, upd_comm (fun y => hD3d y.symm), upd_comm (fun y => Dd y.symm)]
        · rw [upd_ne ndd.symm, upd_ne nD23]
          exact rU
        · rw [List.length_append, List.length_singleton, fl, if_pos (by simp [c]), lf]
          omega
  rintro σ H3 ⟨⟨y3, y6, y7, y8, y9, rfl⟩, U, fs, rfl, sU, fU, rU, lf⟩
  refine ⟨upd_same, ?_⟩
  rw [upd_back (sU _ _ hd)]
  rw [show (keys W).take (toK (fun x : Addr × AL Str => V.ref x.1) A).length = keys W from List.take_of_length_le (by rw [keys_toK, kA]; exact Nat.le_refl _)] at lf
  -- for column in sorted(set([known[2] for known in some]))
  refine ⟨_, rfl, a, rfl, ⟨_, SqL.of (sU _ _ h1)⟩, fun D4 hD4 => lc_list (K := K) (a := a) (xs := vs) (fun k H' => H' = upd U D4 (.lst (((S.map fun z => z.2.2).take k).map V.int))) rfl (fun k H' _ z => ?_) ?_ ?_⟩
  · rw [z]
    exact SqL.of (same_new hD4 _ _ _ (sU _ _ h1))
  · rintro k x H' hx rfl
    obtain ⟨t, z, rfl, hz, ht⟩ := h2.at hx
    have kl : k < S.length := (List.getElem?_eq_some_iff.mp hz).1
    refine ⟨rfl, _, rfl, t, _, _, _, rfl, rfl, SqT.of (same_new hD4 _ _ _ (sU _ _ ht)), rfl, acc_end ?_ (take_map_succ (by rw [List.getElem?_map, hz]; rfl))⟩
    rw [List.length_map, List.length_take, List.length_map]
    exact small1000 (by omega)
  rintro H4 rfl
  rw [show (S.map fun z => z.2.2).take vs.length = S.map fun z => z.2.2 from List.take_of_length_le (by rw [List.length_map]; omega)]
  have sl : (S.map fun z : Row => z.2.2).length < 64 := by rw [List.length_map]; exact hS
  refine ⟨D4, _, rfl, .inl (SqL.of upd_same), by omega, fun p1 hp1 => ⟨p1, _, rfl, upd_same, Nat.lt_of_le_of_lt (once_len _) sl, fun ns p2 e1 e2 hp2 => ?_⟩⟩
  have en : ns = colsOf S := up_once e1 e2
  subst en
  have nD4 : D ≠ D4 := fun z => by rw [z, hD4] at fU; cases fU
  have sU4 := same_more sU hD4 (.lst ((S.map fun z : Row => z.2.2).map V.int))
  have sU5 := same_more sU4 hp1 (SetGO (intKind P w) p1 (once (S.map fun z : Row => z.2.2)))
  have sU6 := same_more sU5 hp2 (.lst (intsV (colsOf S)))
  have fU6 : (upd (upd (upd U D4 (.lst ((S.map fun z : Row => z.2.2).map V.int))) p1 (SetGO (intKind P w) p1 (once (S.map fun z : Row => z.2.2)))) p2 (.lst (intsV (colsOf S)))) D = some (.lst (fs.map V.str)) := same_new hp2 _ _ _ (same_new hp1 _ _ _ (same_new hD4 _ _ _ fU))
  have np2 : D ≠ p2 := ne_of_none (same_new hp1 _ _ _ (same_new hD4 _ _ _ fU)) hp2
  refine ⟨p2, rfl, ⟨_, SqL.of upd_same⟩, for_list (K := K) (a := p2) (xs := intsV (colsOf S)) (fun i σ H3 => (∃ y3 y6 y7 y8 y9, σ = [some (.ref a), some (.ref d), some (.ref e), y3, some (.ref D), some (.ref D2), y6, y7, y8, y9]) ∧ ∃ (fs : List Str), Same H H3 ∧ H3 D = some (.lst (fs.map V.str)) ∧ H3 p2 = some (.lst (intsV (colsOf S))) ∧
      fs.length = held.length + ((keys W).filter fun r => !decide (r ∈ held.map (·.2))).length + (((colsOf S).take i).filter fun c => !decide (c ∈ keys held)).length)
    ⟨⟨_, _, _, _, _, rfl⟩, fs, sU6, fU6, upd_same, by rw [lf]; simp⟩ (fun i σ H3 _ ⟨_, _, _, _, z, _⟩ => SqL.of z) ?_ ?_⟩
  · rintro i x σ H3 hx ⟨⟨y3, y6, y7, y8, y9, rfl⟩, fs, s3, f3, p3, lf3⟩
    obtain ⟨c, rfl, hc⟩ : ∃ c, x = V.int c ∧ (colsOf S)[i]? = some c := by
      unfold intsV at hx
      rw [List.getElem?_map] at hx
      cases z : (colsOf S)[i]? with
      | none => rw [z] at hx; cases hx
      | some c => rw [z] at hx; exact ⟨c, (Option.some.inj hx).symm, rfl⟩
    have fl := filter_snoc_len (p := fun c => !decide (c ∈ keys held)) hc
    have fle := filter_take_le (fun c => !decide (c ∈ keys held)) (colsOf S) i
    have fleN : fs.length ≤ fewN held (keys W) (colsOf S) := by unfold fewN; omega
    refine ⟨_, rfl, _, rfl, e, _, rfl, dget_of (.inl (s3 _ _ he)) c, _, rfl, ?_⟩
    rw [isSome_key]
    by_cases c1 : c ∈ keys held
    · rw [decide_eq_true c1]
      refine iteF ⟨⟨_, _, _, _, _, rfl⟩, fs, s3, f3, p3, ?_⟩
      rw [fl, if_neg (by simp [c1]), Nat.add_zero]
      exact lf3
    · rw [decide_eq_false c1]
      refine iteT ?_
      have h13 := s3 _ _ h1
      refine ⟨_, rfl, .inl ⟨rfl, _, SqL.of f3⟩, ?_⟩
      refine ⟨_, rfl, a, rfl, ⟨_, SqL.of h13⟩, fun D5 hD5 => lc_list (K := K) (a := a) (xs := vs) (fun k H' => H' = upd H3 D5 (.lst (((S.take k).filter fun z => decide (z.2.2 = c)).map fun z => V.str z.1))) rfl (fun k H' _ z => ?_) ?_ ?_⟩
      · rw [z]
        exact SqL.of (same_new hD5 _ _ _ h13)
      · rintro k x H' hx rfl
        obtain ⟨t, z, rfl, hz, ht⟩ := h2.at hx
        have kl : k < S.length := (List.getElem?_eq_some_iff.mp hz).1
        refine ⟨t, rowV z, rfl, SqT.of (same_new hD5 _ _ _ (s3 _ _ ht)), rfl, _, _, rfl, _, _, rfl, _, _, rfl, rfl, rfl, ?_⟩
        refine ⟨_, rfl, _, rfl, rfl, _, rfl, ?_⟩
        by_cases c9 : z.2.2 = c
        · have t9 : decide (V.int z.2.2 = V.int c) = true := decide_eq_true (by rw [c9])
          rw [t9]
          refine iteT ⟨_, rfl, acc_end ?_ (take_filter_succ hz (by simp [c9]))⟩
          rw [List.length_map]
          have := List.length_filter_le (fun z : Row => decide (z.2.2 = c)) (S.take k)
          rw [List.length_take] at this
          exact small1000 (by omega)
        · have t9 : decide (V.int z.2.2 = V.int c) = false := decide_eq_false fun y => c9 (by injection y)
          rw [t9]
          refine iteF ?_
          rw [take_filter_same hz (by simp [c9])]
      rintro H4 rfl
      rw [show S.take vs.length = S from List.take_of_length_le (by omega)]
      have cIn : c ∈ S.map fun z => z.2.2 := mem_up.mp (List.mem_of_getElem? hc)
      obtain ⟨z1, hz1, ez1⟩ := List.mem_map.mp cIn
      have nonE : z1 ∈ S.filter fun z => decide (z.2.2 = c) := List.mem_filter.mpr ⟨hz1, by simp [ez1]⟩
      have nD5 : D ≠ D5 := fun z => by rw [z, hD5] at f3; cases f3
      have np5 : p2 ≠ D5 := fun z => by rw [z, hD5] at p3; cases p3
      cases hp : S.filter fun z => decide (z.2.2 = c) with
      | nil => rw [hp] at nonE; cases nonE
      | cons z0 rest =>
        refine ⟨D5, _, _, V.str z0.1, rfl, rfl, SqL.of upd_same, atI_nat (j := 0) rfl, ?_⟩
        have f4 : (upd H3 D5 (.lst ((z0 :: rest).map fun z => V.str z.1))) D = some (.lst (fs.map V.str)) := by rw [upd_ne nD5]; exact f3
        refine ⟨D, _, _, rfl, rfl, f4, small1000 (by rw [List.length_map]; omega), ?_⟩
        rw [strs_snoc]
        refine ⟨⟨_, _, _, _, _, rfl⟩, fs ++ [z0.1], same_put (same_more s3 hD5 _) hD0 _, upd_same, by rw [upd_ne np2.symm, upd_ne np5]; exact p3, ?_⟩
        rw [List.length_append, List.length_singleton, fl, if_pos (by simp [c1]), lf3]
        omega
  · rintro σ H3 ⟨⟨y3, y6, y7, y8, y9, rfl⟩, fs, s3, f3, p3, lf3⟩
    rw [show (colsOf S).take (intsV (colsOf S)).length = colsOf S from List.take_of_length_le (by rw [int_list]; exact Nat.le_refl _)] at lf3
    have lN : fs.length = fewN held (keys W) (colsOf S) := by unfold fewN; exact lf3
    refine ⟨_, rfl, D, fs, rfl, SqL.of f3, by rw [lN]; exact hfew, fun ys p z1 z2 hp => ?_⟩
    exact q p _ ys (same_more s3 hp _) upd_same (by rw [z1.length_eq, lN])
end
end Uk
end
section
set_option linter.all false
set_option maxRecDepth 100000
set_option maxHeartbeats 4000000
namespace Uk
open PySem PySem.Spec PyProof.Rows L2 UkS
/-- each is a pair of a text and a number -/
def TIs (H : Hp) (xs : List V) : Prop := ∀ x ∈ xs, ∃ t z i, x = V.ref t ∧ H t = some (.tup [.str z, .int i])
theorem TIs.mono {H H' : Hp} {xs : List V} (h : TIs H xs) (k : Tk H H') : TIs H' xs := fun x hx => by
  obtain ⟨t, z, i, e, q⟩ := h x hx
  exact ⟨t, z, i, e, k _ _ q⟩
theorem TIs.snoc {H : Hp} {xs : List V} {t : Addr} {z : Str} {i : Int} (h : TIs H xs) (e : H t = some (.tup [.str z, .int i])) : TIs H (xs ++ [.ref t]) := fun x hx => by
  rcases List.mem_append.mp hx with y | y
  · exact h x y
  · exact ⟨t, z, i, List.mem_singleton.mp y, e⟩
theorem ways_len {S : List Row} {W : Ways} (ok : WaysOk S W) : (keys W).length ≤ S.length := by
  have := nd_le (l := keys W) (l' := S.map fun k => k.2.1) ok.nd fun r hr => by
    obtain ⟨m, c, z⟩ := (ok.row r).mp hr
    exact List.mem_map.mpr ⟨_, z, rfl⟩
  rw [List.length_map] at this
  exact this
theorem ways_cols {S : List Row} {W : Ways} (ok : WaysOk S W) : ∀ r ∈ keys W, ∀ c ∈ nb W r, c ∈ S.map fun k => k.2.2 := fun r hr c hc => by
  obtain ⟨m, z⟩ := (mem_nb ok hr).mp hc
  exact List.mem_map.mpr ⟨_, z, rfl⟩
section
variable {P : Program} {w : World} {K : PySem.W.Frag} {mg : Str → Option Value} {base : Heap}
/-! ### far_spots -/
abbrev sFar : Stmt := topS 19
abbrev nFar : List Str := ["some", "ways", "held", "column", "rows", "row", "begins", "came", "found", "known"]
theorem scFar : FnScope nFar ["some", "ways", "held"] (defScope sFar) := ⟨rfl, rfl, rfl, by decide +kernel, rfl, by decide +kernel, by decide +kernel⟩
def spFar : Sp := fun vs H Q _ => ∃ (a d e : Addr) (S : List Row) (W : Ways) (A : WaysA) (held : AL Int), vs = [.ref a, .ref d, .ref e] ∧ SomeAt H a S ∧ WaysAt H d W A ∧ H d = some (.dK (toK (fun x : Addr × AL Str => V.ref x.1) A)) ∧
  H e = some (.dK (toK V.int held)) ∧ WaysOk S W ∧ Mat (nb W) (keys W) held ∧ S.length < 64 ∧ (∀ c ∈ keys held, c ∈ S.map fun k => k.2.2) ∧
  ∀ (p : Addr) (H' : Hp), Same H H' → Q (.ref p) H'
theorem ok_far {f : Addr} {fd : FuncData} (F : Fun K "far_spots" "far_spots" sFar f fd) (T : Txt mg) (DR : IsDef P w K mg base "reached" 1 ["ways", "held", "begins"] spReached) : FnOk P w K mg base CX0 2 f fd ["some", "ways", "held"] spFar := by
  obtain ⟨fR, fdR, GR, mR, kR, bR⟩ := DR
  refine F.ok scFar (fun vs H Q E h => ?_) (fun cdv A' outer s H vs Q E hr h => ?_)
  · obtain ⟨a, d, e, S, W, A, held, rfl, _⟩ := h
    rfl
  obtain ⟨a, d, e, S, W, A, held, rfl, ⟨vs, h1, h2⟩, hW, hd, he, ok, Mt, hS, hsub, q⟩ := h
  have hu := hu_of hr
  have hl := h2.len
  rw [List.length_map] at hl
  refine ⟨_, pss_cons (ps_lock (ps_set (i := 4) scFar.nd rfl (Or.inr rfl) (pe_lc (own := [("column", 3)]) (g := gName 3) (tt := tYes) rfl scFar.nd (pi_keys (pv 2)) (blkOk_by (N := nFar) (sc := defScope sFar) (by decide +kernel))
      (fun _ _ _ _ _ => pg_name (i := 3) scFar.nd rfl (Or.inl rfl)) (fun _ _ _ _ _ => pts_nil) (fun _ _ _ _ _ => pe_dget hu (pv 2) (pv 3) (fun _ _ => rfl)))))
    (pss_cons (ps_lock (ps_setLc (i := 6) (own := [("row", 5)]) (g := gName 5) rfl scFar.nd rfl rfl (sw_true rfl rfl rfl (by decide +kernel)) (pi_keys (pv 1)) (blkOk_by (N := nFar) (sc := defScope sFar) (by decide +kernel))
      (fun _ _ _ _ _ => pg_name (i := 5) scFar.nd rfl (Or.inl rfl)) (fun _ _ _ _ _ => pts_one (pt_cmpR (op_notIn_seqK (K := K) rfl) (pv 5) (pv 4) (by rfl))) (fun _ _ _ _ _ => pv 5)))
    (pss_cons (ps_set (i := 7) scFar.nd rfl (Or.inl rfl) (pe_call GR hr rfl mR kR bR .nil pass0 (pa_cons (pv 1) (pa_cons (pv 2) (pa_cons (pv 6) pa_nil)))))
    (pss_cons (ps_setLc (i := 8) (own := [("row", 5)]) (g := gName 5) (tt := tYes) rfl scFar.nd rfl rfl (sw_true rfl rfl rfl (by decide +kernel)) (pi_list (pv 6)) (blkOk_by (N := nFar) (sc := defScope sFar) (by decide +kernel))
      (fun _ _ _ _ _ => pg_name (i := 5) scFar.nd rfl (Or.inl rfl)) (fun _ _ _ _ _ => pts_nil) (fun _ _ _ _ _ => pe_tup (pa_cons pe_str (pa_cons (pv 5) pa_nil))))
    (pss_cons (ps_for PassesOwn.never rfl (pi_list (pe_callB (cr_sortedOfI rfl) (by rfl) T.sorted (by decide +kernel) (pa_cons (pe_callTy (cr_setOfI rfl) (by rfl) T.set (by decide +kernel) (pa_cons
        (pe_lc (own := [("known", 9)]) (g := gName 9) (tt := tYes) rfl scFar.nd (pi_list (pv 0)) (blkOk_by (N := nFar) (sc := defScope sFar) (by decide +kernel)) (fun _ _ _ _ _ => pg_name (i := 9) scFar.nd rfl (Or.inl rfl)) (fun _ _ _ _ _ => pts_nil)
          (fun _ _ _ _ _ => pe_ix (ix_tupK (K := K) rfl) (pv 9) pe_int (fun _ _ => rfl))) pa_nil)) pa_nil))) (pg_name (i := 3) scFar.nd rfl (Or.inl rfl))
      (pss_one (ps_if (pt_cmp (pc_dnotin hu (pv 3) (pv 7)))
        (pss_one (ps_expr (pe_bm PySem.F.plainAttrs_list PySem.F.slot_list_append PySem.F.type_list_append mt_append (pv 8) (pa_cons (pe_tup (pa_cons pe_str (pa_cons (pv 3) pa_nil))) pa_nil))))
        (pss_one (ps_if (pt_cmp (pc_din hu (pv 3) (pv 2)))
          (pss_one (ps_expr (pe_bm PySem.F.plainAttrs_list PySem.F.slot_list_append PySem.F.type_list_append mt_append (pv 8) (pa_cons (pe_tup (pa_cons pe_str (pa_cons (pe_dget hu (pv 2) (pv 3) (fun _ _ => rfl)) pa_nil))) pa_nil)))) pss_nil)))))
    (pss_one (ps_ret (pe_callB (cr_sortedTI hr.units) (by rfl) T.sorted (by decide +kernel) (pa_cons (pv 8) pa_nil)))))))), ?_⟩
  have kA : keys A = keys W := by
    have := keys_mapv (g := fun x : Addr × AL Str => x.2) (l := A)
    rw [← this]
    exact congrArg keys hW.val
  have wl := ways_len ok
  have hlen : held.length ≤ S.length := by
    have z := nd_le Mt.nd hsub
    rw [keys_len, List.length_map] at z
    exact z
  -- rows
  refine ⟨e, _, he, trivial, fun o1 => ?_⟩
  refine ⟨_, rfl, e, o1, rfl, .inl ⟨_, upd_same, fun D hD => lc_keys (fun i H' => H' = upd (upd H e (.frz o1 (.dK (toK V.int held)))) D (.lst (intsV ((held.take i).map (·.2))))) rfl (fun i H' _ z => ?_) ?_ ?_⟩⟩
  · rw [z]
    exact same_new hD _ _ _ upd_same
  · rintro i key v H' hk rfl
    obtain ⟨pr, hpr, rfl, _⟩ := toK_at hk
    have il : i < held.length := (List.getElem?_eq_some_iff.mp hpr).1
    have gp : get held pr.1 = some pr.2 := get_of_mem Mt.nd (List.mem_of_getElem? hpr)
    have dg1 := dget_of (rd_same (same_new hD (.lst (intsV ((held.take i).map (·.2))))) (.inr ⟨o1, upd_same⟩)) pr.1 (l := held) (f := V.int)
    rw [gp] at dg1
    refine ⟨rfl, _, rfl, _, rfl, e, V.int pr.2, rfl, dg1, acc_end ?_ ?_⟩
    · rw [int_list, List.length_map, List.length_take]
      exact small1000 (by omega)
    · rw [take_map_succ hpr]
      unfold intsV
      rw [List.map_append]
      rfl
  rintro H1 rfl
  refine ⟨same_new hD _ _ _ upd_same, ?_⟩
  rw [unlock_new he hD, show held.take (toK V.int held).length = held from List.take_of_length_le (by rw [toK_len]; exact Nat.le_refl _)]
  have hD0 : H D = none := by
    have ne : D ≠ e := fun z => by rw [z, upd_same] at hD; cases hD
    rw [upd_ne ne] at hD
    exact hD
  have s1 : Same H (upd H D (.lst (intsV (held.map (·.2))))) := same_new hD0 _
  have r1 : (upd H D (.lst (intsV (held.map (·.2))))) D = some (.lst (intsV (held.map (·.2)))) := upd_same
  generalize upd H D (.lst (intsV (held.map (·.2)))) = H1 at s1 r1 ⊢
  -- begins
  have hd1 := s1 _ _ hd
  refine ⟨d, _, hd1, trivial, fun o2 => ?_⟩
  have Dd : D ≠ d := fun z => by rw [z, hd] at hD0; cases hD0
  refine ⟨_, rfl, d, o2, rfl, .inl ⟨_, upd_same, fun D2 hD2 => lc_keys (fun i H' => H' = upd (upd H1 d (.frz o2 (.dK (toK (fun x : Addr × AL Str => V.ref x.1) A)))) D2 (.lst (intsV (((keys W).take i).filter fun r => !decide (r ∈ held.map (·.2)))))) rfl (fun i H' _ z => ?_) ?_ ?_⟩⟩
  · rw [z]
    exact same_new hD2 _ _ _ upd_same
  · rintro i key v H' hk rfl
    obtain ⟨pr, hpr, rfl, _⟩ := toK_at hk
    obtain ⟨r, x0⟩ := pr
    have hrw : (keys W)[i]? = some r := by rw [← kA]; unfold keys; rw [List.getElem?_map, hpr]; rfl
    have il : i < (keys W).length := (List.getElem?_eq_some_iff.mp hrw).1
    have fl := filter_take (p := fun r => !decide (r ∈ held.map (·.2))) hrw
    have rr : (upd (upd H1 d (.frz o2 (.dK (toK (fun x : Addr × AL Str => V.ref x.1) A)))) D2 (.lst (intsV (((keys W).take i).filter fun r => !decide (r ∈ held.map (·.2)))))) D = some (.lst (intsV (held.map (·.2)))) := same_new hD2 _ _ _ (by rw [upd_ne Dd]; exact r1)
    refine ⟨rfl, _, rfl, _, rfl, D, _, rfl, .inl (SqL.of rr), rfl, flat_ints _, _, rfl, ?_⟩
    show if (if true = true then !inV (V.int r) (intsV (held.map (·.2))) else _) = true then _ else _
    rw [if_pos rfl, inV_ints]
    by_cases c : r ∈ held.map (·.2)
    · rw [decide_eq_true c]
      refine iteF ?_
      rw [fl, if_neg (by simp [c])]
    · rw [decide_eq_false c]
      refine iteT ⟨_, rfl, acc_end ?_ ?_⟩
      · rw [int_list]
        have z := List.length_filter_le (fun r => !decide (r ∈ held.map (·.2))) ((keys W).take i)
        rw [List.length_take] at z
        exact small1000 (by omega)
      · rw [fl, if_pos (by simp [c])]
        unfold intsV
        rw [List.map_append]
        rfl
  rintro H2 rfl
  refine ⟨same_new hD2 _ _ _ upd_same, ?_⟩
  rw [unlock_new hd1 hD2, show (keys W).take (toK (fun x : Addr × AL Str => V.ref x.1) A).length = keys W from List.take_of_length_le (by rw [keys_toK, kA]; exact Nat.le_refl _)]
  have hD20 : H1 D2 = none := by
    have ne : D2 ≠ d := fun z => by rw [z, upd_same] at hD2; cases hD2
    rw [upd_ne ne] at hD2
    exact hD2
  have bsub : ∀ r ∈ (keys W).filter fun r => !decide (r ∈ held.map (·.2)), r ∈ keys W := fun r hr => (List.mem_filter.mp hr).1
  have blen := List.length_filter_le (fun r => !decide (r ∈ held.map (·.2))) (keys W)
  generalize hbg : ((keys W).filter fun r => !decide (r ∈ held.map (·.2))) = begins at bsub blen ⊢
  have s2 : Same H (upd H1 D2 (.lst (intsV begins))) := same_more s1 hD20 _
  have g2 : (upd H1 D2 (.lst (intsV begins))) D2 = some (.lst (intsV begins)) := upd_same
  generalize upd H1 D2 (.lst (intsV begins)) = H2 at s2 g2 ⊢
  -- came
  refine ⟨_, rfl, _, rfl, _, rfl, d, e, D2, W, A, held, begins, S.map fun k => k.2.2, rfl, hW.mono s2, .inl (s2 _ _ he), g2, bsub, fun c x hx => (Mt.adj c x hx).2, ways_cols ok, by rw [List.length_map]; omega, fun p H3 came s3 hp0 hp cok ccl csub => ?_⟩
  have s03 : Same H H3 := s2.trans s3
  have g3 := s3 _ _ g2
  have pe : p ≠ e := fun z => by
    have y := s2 _ _ he
    rw [← z, hp0] at y
    cases y
  -- found
  refine ⟨_, rfl, D2, rfl, ⟨_, SqL.of g3⟩, fun D4 hD4 => lc_list (K := K) (a := D2) (xs := intsV begins) (fun i H' => Same H3 H' ∧ ∃ acc, H' D4 = some (.lst acc) ∧ acc.length = i ∧ TIs H' acc) ⟨same_new hD4 _, [], upd_same, rfl, fun x hx => by cases hx⟩ (fun i H' _ z => SqL.of (z.1 _ _ g3)) ?_ ?_⟩
  · rintro i x H' hx ⟨s4, acc, hA, la, tA⟩
    obtain ⟨r, rfl⟩ : ∃ r, x = V.int r := by
      unfold intsV at hx
      rw [List.getElem?_map] at hx
      cases z : begins[i]? with
      | none => rw [z] at hx; cases hx
      | some c => rw [z] at hx; exact ⟨c, (Option.some.inj hx).symm⟩
    have il : i < begins.length := by
      have := (List.getElem?_eq_some_iff.mp hx).1
      rw [int_list] at this
      exact this
    refine ⟨rfl, _, rfl, (by show 2 ≤ sizeLine; decide), fun t ht => ?_⟩
    have hA2 := same_new ht (.tup [.str "row", .int r]) _ _ hA
    refine ⟨acc, hA2, small1000 (by omega), same_put (same_more s4 ht _) hD4 _, _, upd_same, by rw [List.length_append, List.length_singleton, la], ?_⟩
    exact ((tA.mono (same_tk (same_new ht _))).snoc (t := t) (z := "row") (i := r) upd_same).mono (tk_put hA2 _)
  rintro H4 ⟨s4, xs, hX, lx, tX⟩
  rw [int_list] at lx
  have s04 : Same H H4 := s03.trans s4
  have h14 := s04 _ _ h1
  -- for column in ..
  refine ⟨_, rfl, a, rfl, ⟨_, SqL.of h14⟩, fun D5 hD5 => lc_list (K := K) (a := a) (xs := vs) (fun k H' => H' = upd H4 D5 (.lst (((S.map fun z => z.2.2).take k).map V.int))) rfl (fun k H' _ z => ?_) ?_ ?_⟩
  · rw [z]
    exact SqL.of (same_new hD5 _ _ _ h14)
  · rintro k x H' hx rfl
    obtain ⟨t, z, rfl, hz, ht⟩ := h2.at hx
    have kl : k < S.length := (List.getElem?_eq_some_iff.mp hz).1
    refine ⟨rfl, _, rfl, t, _, _, _, rfl, rfl, SqT.of (same_new hD5 _ _ _ (s04 _ _ ht)), rfl, acc_end ?_ (take_map_succ (by rw [List.getElem?_map, hz]; rfl))⟩
    rw [List.length_map, List.length_take, List.length_map]
    exact small1000 (by omega)
  rintro H5 rfl
  rw [show (S.map fun z => z.2.2).take vs.length = S.map fun z => z.2.2 from List.take_of_length_le (by rw [List.length_map]; omega)]
  have sl : (S.map fun z : Row => z.2.2).length < 64 := by rw [List.length_map]; exact hS
  refine ⟨D5, _, rfl, .inl (SqL.of upd_same), by omega, fun p1 hp1 => ⟨p1, _, rfl, upd_same, Nat.lt_of_le_of_lt (once_len _) sl, fun ns p2 e1 e2 hp2 => ?_⟩⟩
  have en : ns = colsOf S := up_once e1 e2
  subst en
  have cl : (colsOf S).length < 64 := by
    have := up_le (S.map fun z : Row => z.2.2)
    unfold colsOf
    omega
  have s46 : Same H4 _ := same_more (same_more (same_new hD5 (.lst ((S.map fun z : Row => z.2.2).map V.int))) hp1 (SetGO (intKind P w) p1 (once (S.map fun z : Row => z.2.2)))) hp2 (.lst (intsV (colsOf S)))
  have nX2 : D4 ≠ p2 := ne_of_none (same_new hp1 _ _ _ (same_new hD5 _ _ _ hX)) hp2
  have hD4H3 : H3 D4 = none := hD4
  have np4 : p ≠ D4 := fun z => by rw [← z, hp] at hD4H3; cases hD4H3
  have hD4H : H D4 = none := Same.free s03 hD4H3
  refine ⟨p2, rfl, ⟨_, SqL.of upd_same⟩, for_list (K := K) (a := p2) (xs := intsV (colsOf S)) (fun i σ H6 => (∃ y3 y5 y9, σ = [some (.ref a), some (.ref d), some (.ref e), y3, some (.ref D), y5, some (.ref D2), some (.ref p), some (.ref D4), y9]) ∧ Same H H6 ∧ H6 p = some (.dK (toK V.int came)) ∧ H6 p2 = some (.lst (intsV (colsOf S))) ∧
      ∃ acc, H6 D4 = some (.lst acc) ∧ acc.length ≤ begins.length + i ∧ TIs H6 acc)
    ⟨⟨_, _, _, rfl⟩, s04.trans s46, s46 _ _ (s4 _ _ hp), upd_same, xs, s46 _ _ hX, by omega, tX.mono (same_tk s46)⟩ (fun i σ H6 _ ⟨_, _, _, z, _⟩ => SqL.of z) ?_ ?_⟩
  · rintro i x σ H6 hx ⟨⟨y3, y5, y9, rfl⟩, s6, c6, p6, acc, a6, l6, t6⟩
    obtain ⟨c, rfl⟩ : ∃ c, x = V.int c := by
      unfold intsV at hx
      rw [List.getElem?_map] at hx
      cases z : (colsOf S)[i]? with
      | none => rw [z] at hx; cases hx
      | some c => rw [z] at hx; exact ⟨c, (Option.some.inj hx).symm⟩
    have il : i < (colsOf S).length := by
      have := (List.getElem?_eq_some_iff.mp hx).1
      rw [int_list] at this
      exact this
    have add : ∀ (z : Str) (n : Int) (t : Addr), H6 t = none → ∀ (H7 : Hp), H7 = upd H6 t (.tup [.str z, .int n]) → H7 D4 = some (.lst acc) ∧ acc.length < sizeLine ∧ Same H (upd H7 D4 (.lst (acc ++ [.ref t]))) ∧ (upd H7 D4 (.lst (acc ++ [.ref t]))) p = some (.dK (toK V.int came)) ∧ (upd H7 D4 (.lst (acc ++ [.ref t]))) p2 = some (.lst (intsV (colsOf S))) ∧
        ∃ acc', (upd H7 D4 (.lst (acc ++ [.ref t]))) D4 = some (.lst acc') ∧ acc'.length ≤ begins.length + (i + 1) ∧ TIs (upd H7 D4 (.lst (acc ++ [.ref t]))) acc' := fun z n t ht H7 e7 => by
      subst e7
      have a7 := same_new ht (.tup [.str z, .int n]) _ _ a6
      refine ⟨a7, small1000 (by omega), same_put (same_more s6 ht _) hD4H _, ?_, ?_, acc ++ [.ref t], upd_same, by rw [List.length_append, List.length_singleton]; omega, ?_⟩
      · rw [upd_ne np4]; exact same_new ht _ _ _ c6
      · rw [upd_ne nX2.symm]; exact same_new ht _ _ _ p6
      · exact ((t6.mono (same_tk (same_new ht _))).snoc (t := t) (z := z) (i := n) upd_same).mono (tk_put a7 _)
    refine ⟨_, rfl, _, rfl, p, _, rfl, dget_of (.inl c6) c, _, rfl, ?_⟩
    rw [isSome_key]
    by_cases c1 : c ∈ keys came
    · rw [decide_eq_true c1]
      refine iteF ?_
      have dg := dget_of (.inl (s6 _ _ he)) c (l := held) (f := V.int)
      refine ⟨_, rfl, _, rfl, e, _, rfl, dg, _, rfl, ?_⟩
      rw [isSome_key]
      by_cases c2 : c ∈ keys held
      · rw [decide_eq_true c2]
        refine iteT ?_
        obtain ⟨r, gr⟩ := get_some_of c2
        rw [gr] at dg
        refine ⟨_, rfl, .inl ⟨rfl, _, SqL.of a6⟩, _, rfl, _, rfl, e, V.int r, rfl, dg, (by show 2 ≤ sizeLine; decide), fun t ht => ?_⟩
        obtain ⟨x1, x2, x3⟩ := add "row" r t ht _ rfl
        exact ⟨D4, acc, _, rfl, rfl, x1, x2, ⟨_, _, _, rfl⟩, x3⟩
      · rw [decide_eq_false c2]
        exact iteF ⟨⟨_, _, _, rfl⟩, s6, c6, p6, acc, a6, by omega, t6⟩
    · rw [decide_eq_false c1]
      refine iteT ?_
      refine ⟨_, rfl, .inl ⟨rfl, _, SqL.of a6⟩, _, rfl, (by show 2 ≤ sizeLine; decide), fun t ht => ?_⟩
      obtain ⟨x1, x2, x3⟩ := add "column" c t ht _ rfl
      exact ⟨D4, acc, _, rfl, rfl, x1, x2, ⟨_, _, _, rfl⟩, x3⟩
  · rintro σ H6 ⟨⟨y3, y5, y9, rfl⟩, s6, c6, p6, acc, a6, l6, t6⟩
    rw [int_list] at l6
    exact ⟨_, rfl, D4, acc, rfl, a6, by omega, t6, fun p ys hp => q p _ (same_more s6 hp _)⟩
end
end Uk
end
section
set_option linter.all false
set_option maxRecDepth 100000
set_option maxHeartbeats 4000000
namespace Uk
open PySem PySem.Spec PyProof.Rows L2 UkS
/-- rows and columns lie in 0 .. 30 -/
def InRange (net : List Row) : Prop := ∀ k ∈ net, (0 ≤ k.2.1 ∧ k.2.1 < 31) ∧ (0 ≤ k.2.2 ∧ k.2.2 < 31)
theorem fewN_small {N : Int → List Int} {held : AL Int} {rows cols : List Int} (M : Mat N rows held) (nr : rows.Nodup) (nc : cols.Nodup) (hr : ∀ r ∈ rows, 0 ≤ r ∧ r < 31) (hc : ∀ c ∈ cols, 0 ≤ c ∧ c < 31) : fewN held rows cols < 64 := by
  have l1 : rows.length ≤ 31 := nd_bound nr hr
  have l2 : cols.length ≤ 31 := nd_bound nc hc
  have l3 := List.length_filter_le (fun c => !decide (c ∈ keys held)) cols
  have l4 := nd_le (l := held.map (·.2) ++ rows.filter fun r => !decide (r ∈ held.map (·.2))) (l' := rows) (nd_append (nd_vals M.nd M.inj) (nd_filter _ nr) fun x hx hx2 => by
    have := (List.mem_filter.mp hx2).2
    simp [hx] at this) fun x hx => by
    rcases List.mem_append.mp hx with y | y
    · obtain ⟨p, hp, e⟩ := List.mem_map.mp y
      rw [← e]
      exact (M.adj p.1 p.2 (get_of_mem M.nd hp)).2
    · exact (List.mem_filter.mp y).1
  rw [List.length_append, List.length_map] at l4
  unfold fewN
  omega
section
variable {P : Program} {w : World} {K : PySem.W.Frag} {mg : Str → Option Value} {base : Heap}
/-! ### unlike_by -/
abbrev sUnlikeBy : Stmt := topS 20
abbrev nUnlikeBy : List Str := ["net", "cells", "some", "ways", "held", "known"]
theorem scUnlikeBy : FnScope nUnlikeBy ["net", "cells"] (defScope sUnlikeBy) := ⟨rfl, rfl, rfl, by decide +kernel, rfl, by decide +kernel, by decide +kernel⟩
def spUnlikeBy : Sp := fun vs H Q _ => ∃ (a b : Addr) (net : List Row) (ms : List Str), vs = [.ref a, .ref b] ∧ NetAt H a net ∧ CellsAt H b (met net ms) ∧ net.length < 64 ∧ InRange net ∧
  ∀ (p x y z : Addr) (H' : Hp) (few : List Str), Same H H' → H' p = some (.tup [.ref x, .ref y, .ref z]) → H' x = some (.lst (few.map V.str)) → IsFew (edges net) (met net ms).1 (met net ms).2 few.length →
    H' y = some (.lst (((openOf net (met net ms).1 (met net ms).2).map (·.1)).map V.str)) → Q (.ref p) H'
theorem ok_unlikeBy {f : Addr} {fd : FuncData} (F : Fun K "unlike_by" "unlike_by" sUnlikeBy f fd) (DM : IsDef P w K mg base "may_be" 2 ["net", "cells"] spMayBe) (DO : IsDef P w K mg base "open_rows" 1 ["net", "cells"] spOpen)
    (DW : IsDef P w K mg base "ways_of" 1 ["some"] spWays) (DP : IsDef P w K mg base "paired" 2 ["ways"] spPaired) (DF : IsDef P w K mg base "few_marks" 1 ["some", "ways", "held"] spFew) (DS : IsDef P w K mg base "far_spots" 2 ["some", "ways", "held"] spFar) :
    FnOk P w K mg base CX0 3 f fd ["net", "cells"] spUnlikeBy := by
  obtain ⟨fM, fdM, GM, mM, kM, bM⟩ := DM
  obtain ⟨fO, fdO, GO, mO, kO, bO⟩ := DO
  obtain ⟨fW, fdW, GW, mW, kW, bW⟩ := DW
  obtain ⟨fP, fdP, GP, mP, kP, bP⟩ := DP
  obtain ⟨fF, fdF, GF, mF, kF, bF⟩ := DF
  obtain ⟨fS, fdS, GS, mS, kS, bS⟩ := DS
  refine F.ok scUnlikeBy (fun vs H Q E h => ?_) (fun cdv A' outer s H vs Q E hr h => ?_)
  · obtain ⟨a, b, net, ms, rfl, _⟩ := h
    rfl
  obtain ⟨a, b, net, ms, rfl, hN, hC, hn, hR, q⟩ := h
  have hr1 : Room 1 _ := hr.mono (by decide)
  refine ⟨_, pss_cons (ps_if (pt_not (pt_val (pe_call GM hr rfl mM kM bM .nil pass0 (pa_cons (pv 0) (pa_cons (pv 1) pa_nil))))) (pss_one ps_never) pss_nil)
    (pss_cons (ps_set (i := 2) scUnlikeBy.nd rfl (Or.inl rfl) (pe_call GO hr1 rfl mO kO bO .nil pass0 (pa_cons (pv 0) (pa_cons (pv 1) pa_nil))))
    (pss_cons (ps_set (i := 3) scUnlikeBy.nd rfl (Or.inl rfl) (pe_call GW hr1 rfl mW kW bW .nil pass0 (pa_cons (pv 2) pa_nil)))
    (pss_cons (ps_set (i := 4) scUnlikeBy.nd rfl (Or.inl rfl) (pe_call GP hr rfl mP kP bP .nil pass0 (pa_cons (pv 3) pa_nil)))
    (pss_one (ps_ret (pe_tup (pa_cons (pe_call GF hr1 rfl mF kF bF .nil pass0 (pa_cons (pv 2) (pa_cons (pv 3) (pa_cons (pv 4) pa_nil))))
      (pa_cons (pe_lc (own := [("known", 5)]) (g := gName 5) (tt := tYes) rfl scUnlikeBy.nd (pi_list (pv 2)) (blkOk_by (N := nUnlikeBy) (sc := defScope sUnlikeBy) (by decide +kernel)) (fun _ _ _ _ _ => pg_name (i := 5) scUnlikeBy.nd rfl (Or.inl rfl)) (fun _ _ _ _ _ => pts_nil)
          (fun _ _ _ _ _ => pe_ix (ix_tupK (K := K) rfl) (pv 5) pe_int (fun _ _ => rfl)))
      (pa_cons (pe_call GS hr rfl mS kS bS .nil pass0 (pa_cons (pv 2) (pa_cons (pv 3) (pa_cons (pv 4) pa_nil)))) pa_nil))))))))), ?_⟩
  refine ⟨_, rfl, _, rfl, a, b, net, met net ms, rfl, hN, hC, hn, ⟨may_rows, may_cols⟩, fun H1 s1 => ?_⟩
  refine ⟨true, rfl, iteF ?_⟩
  -- some
  have hlo : (openOf net (met net ms).1 (met net ms).2).length ≤ net.length := List.length_filter_le _ _
  refine ⟨_, rfl, _, rfl, a, b, net, met net ms, rfl, hN.mono (same_tk s1), hC.mono (same_tk s1), by omega, fun p1 H2 s2 hS => ?_⟩
  -- ways
  refine ⟨_, rfl, p1, _, rfl, hS, by omega, fun d H3 W A s3 ok hW hd => ?_⟩
  have hS3 := hS.mono s3
  -- held
  have colsL : ((openOf net (met net ms).1 (met net ms).2).map fun k => k.2.2).length ≤ 900 := by rw [List.length_map]; omega
  refine ⟨_, rfl, d, W, A, _, rfl, hW, hd, ok.nd, ways_cols ok, colsL, fun e H4 held s4 _ he Mt hsub => ?_⟩
  have hS4 := hS3.mono s4
  have hW4 := hW.mono s4
  have hd4 := s4 _ _ hd
  have cN : colsOf (openOf net (met net ms).1 (met net ms).2) = up ((openOf net (met net ms).1 (met net ms).2).map (·.2.2)) := rfl
  have fs : fewN held (keys W) (colsOf (openOf net (met net ms).1 (met net ms).2)) < 64 := by
    refine fewN_small Mt ok.nd (up_nd _) (fun r hr => ?_) fun c hc => ?_
    · obtain ⟨m, c, z⟩ := (ok.row r).mp hr
      exact (hR _ (mem_open.mp z).1).1
    · obtain ⟨k, hk, e⟩ := List.mem_map.mp (mem_up.mp hc)
      rw [← e]
      exact (hR _ (mem_open.mp hk).1).2
  refine ⟨_, rfl, _, rfl, _, rfl, p1, d, e, _, W, A, held, rfl, hS4, hW4, hd4, he, ok, Mt, by omega, fs, fun x H5 few s5 hx lf => ?_⟩
  obtain ⟨vs5, v1, v2⟩ := hS4.mono s5
  have vl := v2.len
  rw [List.length_map] at vl
  -- all
  refine ⟨_, rfl, p1, rfl, ⟨_, SqL.of v1⟩, fun D hD => lc_list (K := K) (a := p1) (xs := vs5) (fun i H' => H' = upd H5 D (.lst ((((openOf net (met net ms).1 (met net ms).2).map (·.1)).take i).map V.str))) rfl (fun i H' _ e => ?_) ?_ ?_⟩
  · rw [e]
    exact SqL.of (same_new hD _ _ _ v1)
  · rintro i x' H' hx' rfl
    obtain ⟨t, k, rfl, hk, ht⟩ := v2.at hx'
    have il := (List.getElem?_eq_some_iff.mp hk).1
    refine ⟨rfl, _, rfl, t, _, _, _, rfl, rfl, SqT.of (same_new hD _ _ _ ht), rfl, acc_end ?_ (take_map_succ (by rw [List.getElem?_map, hk]; rfl))⟩
    rw [List.length_map, List.length_take, List.length_map]
    exact small1000 (by omega)
  rintro H6 rfl
  rw [show ((openOf net (met net ms).1 (met net ms).2).map (·.1)).take vs5.length = (openOf net (met net ms).1 (met net ms).2).map (·.1) from List.take_of_length_le (by rw [List.length_map]; omega)]
  have s6 : Same H4 _ := same_more s5 hD (.lst (((openOf net (met net ms).1 (met net ms).2).map (·.1)).map V.str))
  have x6 := same_new hD (.lst (((openOf net (met net ms).1 (met net ms).2).map (·.1)).map V.str)) _ _ hx
  have y6 : (upd H5 D (.lst (((openOf net (met net ms).1 (met net ms).2).map (·.1)).map V.str))) D = some (.lst (((openOf net (met net ms).1 (met net ms).2).map (·.1)).map V.str)) := upd_same
  generalize upd H5 D (.lst (((openOf net (met net ms).1 (met net ms).2).map (·.1)).map V.str)) = H6 at s6 x6 y6 ⊢
  -- spots
  refine ⟨_, rfl, _, rfl, _, rfl, p1, d, e, _, W, A, held, rfl, hS4.mono s6, hW4.mono s6, s6 _ _ hd4, s6 _ _ he, ok, Mt, by omega, hsub, fun z H7 s7 => ?_⟩
  refine ⟨(by show 3 ≤ sizeLine; decide), fun p hp => ?_⟩
  have s47 : Same H4 H7 := s6.trans s7
  have s07 : Same H H7 := s1.trans (s2.trans (s3.trans (s4.trans s47)))
  refine q p x D z _ few (same_more s07 hp _) upd_same (same_new hp _ _ _ (s7 _ _ x6)) ?_ (same_new hp _ _ _ (s7 _ _ y6))
  rw [lf]
  exact few_is ok Mt
end
end Uk
end
section
set_option linter.all false
set_option maxRecDepth 100000
set_option maxHeartbeats 4000000
namespace Uk
open PySem PySem.Spec PyProof.Rows L2 UkS
/-! ### trees -/
inductive Tr where
  | leaf (st : List Thing)
  | node (l r : Tr)
def Tr.all : Tr → List Thing
  | .leaf st => st
  | .node l r => l.all ++ r.all
def Tr.streams : Tr → List (List Thing)
  | .leaf st => [st]
  | .node l r => l.streams ++ r.streams
def Tr.depth : Tr → Nat
  | .leaf _ => 0
  | .node l r => max l.depth r.depth + 1
theorem Tr.all_eq : ∀ t : Tr, t.all = t.streams.flatten
  | .leaf st => by simp [Tr.all, Tr.streams]
  | .node l r => by
    show l.all ++ r.all = (l.streams ++ r.streams).flatten
    rw [List.flatten_append, Tr.all_eq l, Tr.all_eq r]
def TreeAt (H : Hp) : Addr → Tr → Prop
  | a, .leaf st => StreamAt H a st
  | a, .node l r => ∃ b c, H a = some (.tup [.str "merged", .ref b, .ref c]) ∧ TreeAt H b l ∧ TreeAt H c r
theorem TreeAt.mono {H H' : Hp} (s : Same H H') : ∀ {t : Tr} {a : Addr}, TreeAt H a t → TreeAt H' a t
  | .leaf _, _, h => StreamAt.mono h s
  | .node _ _, _, ⟨b, c, h1, h2, h3⟩ => ⟨b, c, s _ _ h1, TreeAt.mono s h2, TreeAt.mono s h3⟩
/-- lists at these addresses -/
structure StreamsAt (H : Hp) (as : List Addr) (ss : List (List Thing)) : Prop where
  len : as.length = ss.length
  get : ∀ (i : Nat) (a : Addr), as[i]? = some a → ∃ st, ss[i]? = some st ∧ StreamAt H a st
theorem StreamsAt.mono {H H' : Hp} {as : List Addr} {ss : List (List Thing)} (h : StreamsAt H as ss) (s : Same H H') : StreamsAt H' as ss := ⟨h.len, fun i a e => by
  obtain ⟨st, e1, e2⟩ := h.get i a e
  exact ⟨st, e1, StreamAt.mono e2 s⟩⟩
theorem StreamsAt.append {H : Hp} {as bs : List Addr} {ss ts : List (List Thing)} (h : StreamsAt H as ss) (g : StreamsAt H bs ts) : StreamsAt H (as ++ bs) (ss ++ ts) := by
  refine ⟨by rw [List.length_append, List.length_append, h.len, g.len], fun i a e => ?_⟩
  by_cases c : i < as.length
  · rw [List.getElem?_append_left c] at e
    obtain ⟨st, e1, e2⟩ := h.get i a e
    exact ⟨st, by rw [List.getElem?_append_left (by rw [← h.len]; exact c)]; exact e1, e2⟩
  · rw [List.getElem?_append_right (by omega)] at e
    obtain ⟨st, e1, e2⟩ := g.get _ a e
    exact ⟨st, by rw [List.getElem?_append_right (by rw [← h.len]; omega), ← h.len]; exact e1, e2⟩
theorem StreamsAt.one {H : Hp} {a : Addr} {st : List Thing} (h : StreamAt H a st) : StreamsAt H [a] [st] := ⟨rfl, fun i b e => by
  cases i with
  | zero =>
    have : a = b := Option.some.inj e
    exact ⟨st, rfl, this ▸ h⟩
  | succ i => simp at e⟩
theorem TupsAt.append {H : Hp} {vs ws : List V} {r t : List (List V)} (h : TupsAt H vs r) (g : TupsAt H ws t) : TupsAt H (vs ++ ws) (r ++ t) := by
  refine ⟨by rw [List.length_append, List.length_append, h.len, g.len], fun i x e => ?_⟩
  by_cases c : i < vs.length
  · rw [List.getElem?_append_left c] at e
    obtain ⟨y, z, e1, e2, e3⟩ := h.get i x e
    exact ⟨y, z, e1, by rw [List.getElem?_append_left (by rw [← h.len]; exact c)]; exact e2, e3⟩
  · rw [List.getElem?_append_right (by omega)] at e
    obtain ⟨y, z, e1, e2, e3⟩ := g.get _ x e
    exact ⟨y, z, e1, by rw [List.getElem?_append_right (by rw [← h.len]; omega), ← h.len]; exact e2, e3⟩
section
variable {P : Program} {w : World} {K : PySem.W.Frag} {mg : Str → Option Value} {base : Heap}
theorem kit_ll : PySem.W.kitOne K (.type "list") (.type "list") = some true := kit_ty (by decide +kernel)
theorem kit_tl : PySem.W.kitOne K (.type "tuple") (.type "list") = some false := kit_ty (by decide +kernel)
/-! ### streams_in -/
abbrev sStreamsIn : Stmt := topS 22
theorem scStreamsIn : FnScope ["tree", "word", "one", "other"] ["tree"] (defScope sStreamsIn) := ⟨rfl, rfl, rfl, by decide +kernel, rfl, by decide +kernel, by decide +kernel⟩
def spStreamsIn (n : Nat) : Sp := fun vs H Q _ => ∃ (a : Addr) (t : Tr), vs = [.ref a] ∧ TreeAt H a t ∧ t.depth < n ∧ t.streams.length ≤ 1000 ∧
  ∀ (p : Addr) (H' : Hp) (as : List Addr), Same H H' → H p = none → H' p = some (.lst (as.map V.ref)) → StreamsAt H' as t.streams → (∀ b ∈ as, H b = none) → Q (.ref p) H'
theorem ok_streamsIn {n : Nat} {f : Addr} {fd : FuncData} (F : Fun K "streams_in" "streams_in" sStreamsIn f fd) (T : Txt mg) (G : FnOk P w K mg base CX0 n f fd ["tree"] (spStreamsIn n)) (mG : mg "streams_in" = some (.ref f)) (kG : PySem.W.keepIn K (.ref f) = true) (bG : Binds K fd ["tree"] []) :
    FnOk P w K mg base CX0 (n + 1) f fd ["tree"] (spStreamsIn (n + 1)) := by
  refine F.ok scStreamsIn (fun vs H Q E h => ?_) (fun cdv A' outer s H vs Q E hr h => ?_)
  · obtain ⟨a, t, rfl, _⟩ := h
    rfl
  obtain ⟨a, t, rfl, hT, hd, hl, q⟩ := h
  refine ⟨_, pss_cons (ps_if (pt_val (pe_callB call_isi (by rfl) T.isinstance PyProof.Rows.boot_isinstance (pa_cons (pv 0) (pa_cons (pe_bltn (v := .ty "list") (by rfl) T.list (by decide +kernel) rfl) pa_nil))))
      (pss_one (ps_ret (pe_lst (pa_cons (pe_callTy call_list_of (by rfl) T.list (by decide +kernel) (pa_cons (pv 0) pa_nil)) pa_nil)))) pss_nil)
    (pss_cons (ps_asg (pv 0) (pg_tup rfl (pgs_cons (pg_name (i := 1) scStreamsIn.nd rfl (Or.inl rfl)) (pgs_cons (pg_name (i := 2) scStreamsIn.nd rfl (Or.inl rfl)) (pgs_cons (pg_name (i := 3) scStreamsIn.nd rfl (Or.inl rfl)) pgs_nil)))))
    (pss_one (ps_ret (pe_op op_cat (pe_call G hr rfl mG kG bG .nil pass0 (pa_cons (pv 2) pa_nil)) (pe_call G hr rfl mG kG bG .nil pass0 (pa_cons (pv 3) pa_nil)))))), ?_⟩
  cases t with
  | leaf st =>
    obtain ⟨vs, h1, h2⟩ := hT
    refine ⟨_, rfl, _, _, .type "list", _, true, rfl, .ty "list", .base (.lst h1), kit_ll, true, rfl, iteT ?_⟩
    refine ⟨_, rfl, a, vs, rfl, .inl (SqL.of h1), fun b hb => ⟨(by show 1 ≤ sizeLine; decide), fun p hp => ?_⟩⟩
    have sb : Same H (upd H b (.lst vs)) := same_new hb _
    refine q p _ [b] (same_more sb hp _) (Same.free sb hp) upd_same (StreamsAt.one ⟨vs, same_new hp _ _ _ upd_same, h2.mono (same_tk (same_more sb hp _))⟩) fun x hx => ?_
    rw [List.mem_singleton.mp hx]
    exact hb
  | node l r =>
    obtain ⟨b, c, h1, h2, h3⟩ := hT
    have dl : l.depth < n := by
      have : max l.depth r.depth + 1 < n + 1 := hd
      omega
    have dr : r.depth < n := by
      have : max l.depth r.depth + 1 < n + 1 := hd
      omega
    have ll : l.streams.length + r.streams.length ≤ 1000 := by
      have : (l.streams ++ r.streams).length ≤ 1000 := hl
      rw [List.length_append] at this
      exact this
    refine ⟨_, rfl, _, _, .type "tuple", _, false, rfl, .ty "list", .base (.tup h1), kit_tl, false, rfl, iteF ?_⟩
    refine ⟨_, rfl, a, _, rfl, SqT.of h1, rfl, _, _, rfl, _, _, rfl, _, _, rfl, rfl, ?_⟩
    refine ⟨_, rfl, b, l, rfl, h2, dl, by omega, fun p1 H1 as s1 _ hp1 hA hN => ?_⟩
    refine ⟨_, rfl, c, r, rfl, TreeAt.mono s1 h3, dr, by omega, fun p2 H2 bs s2 _ hp2 hB hM => ?_⟩
    have la := hA.len
    have lb := hB.len
    refine ⟨p1, p2, _, _, rfl, rfl, s2 _ _ hp1, hp2, small (by rw [List.length_map, List.length_map]; omega), fun p hp => ?_⟩
    have s12 := s1.trans s2
    refine q p _ (as ++ bs) (same_more s12 hp _) (Same.free s12 hp) (by rw [upd_same, List.map_append]) ((StreamsAt.append (hA.mono s2) hB).mono (same_new hp _)) fun x hx => ?_
    rcases List.mem_append.mp hx with y | y
    · exact hN x y
    · exact Same.free s1 (hM x y)
theorem no_streamsIn {f : Addr} {fd : FuncData} : FnOk P w K mg base CX0 0 f fd ["tree"] (spStreamsIn 0) := by
  have no : ∀ vs H Q E, ¬ spStreamsIn 0 vs H Q E := fun vs H Q E ⟨a, t, _, _, z, _⟩ => absurd z (Nat.not_lt_zero _)
  exact ⟨fun vs H Q E h => absurd h (no vs H Q E), fun A outer s H args us vs Q E _ _ _ _ h => absurd h (no vs H Q E)⟩
theorem all_streamsIn {f : Addr} {fd : FuncData} (F : Fun K "streams_in" "streams_in" sStreamsIn f fd) (T : Txt mg) (mG : mg "streams_in" = some (.ref f)) (kG : PySem.W.keepIn K (.ref f) = true) (bG : Binds K fd ["tree"] []) : ∀ n, FnOk P w K mg base CX0 n f fd ["tree"] (spStreamsIn n)
  | 0 => no_streamsIn
  | n + 1 => ok_streamsIn F T (all_streamsIn F T mG kG bG n) mG kG bG
/-! ### stream_of -/
abbrev sStreamOf : Stmt := topS 23
theorem scStreamOf : FnScope ["tree", "found", "stream"] ["tree"] (defScope sStreamOf) := ⟨rfl, rfl, rfl, by decide +kernel, rfl, by decide +kernel, by decide +kernel⟩
def spStreamOf : Sp := fun vs H Q _ => ∃ (a : Addr) (t : Tr), vs = [.ref a] ∧ TreeAt H a t ∧ t.depth < 10 ∧ t.streams.length ≤ 1000 ∧ t.all.length ≤ 1000 ∧
  ∀ (p : Addr) (H' : Hp), Same H H' → StreamAt H' p t.all → Q (.ref p) H'
theorem flat_take_le {α : Type} : ∀ (l : List (List α)) (i : Nat), ((l.take i).flatten).length ≤ l.flatten.length
  | [], i => by simp
  | x :: r, 0 => by simp
  | x :: r, i + 1 => by
    have := flat_take_le r i
    rw [List.take_succ_cons, List.flatten_cons, List.flatten_cons, List.length_append, List.length_append]
    omega
theorem ok_streamOf {f : Addr} {fd : FuncData} (F : Fun K "stream_of" "stream_of" sStreamOf f fd) (DI : IsDef P w K mg base "streams_in" 10 ["tree"] (spStreamsIn 10)) : FnOk P w K mg base CX0 11 f fd ["tree"] spStreamOf := by
  obtain ⟨fI, fdI, GI, mI, kI, bI⟩ := DI
  refine F.ok scStreamOf (fun vs H Q E h => ?_) (fun cdv A' outer s H vs Q E hr h => ?_)
  · obtain ⟨a, t, rfl, _⟩ := h
    rfl
  obtain ⟨a, t, rfl, hT, hd, hl, hz, q⟩ := h
  refine ⟨_, pss_cons (ps_set (i := 1) scStreamOf.nd rfl (Or.inl rfl) (pe_lst pa_nil))
    (pss_cons (ps_for PassesOwn.never rfl (pi_list (pe_call GI hr rfl mI kI bI .nil pass0 (pa_cons (pv 0) pa_nil))) (pg_name (i := 2) scStreamOf.nd rfl (Or.inl rfl))
      (pss_one (ps_expr (pe_bm PySem.F.plainAttrs_list PySem.F.slot_list_extend PySem.F.type_list_extend mt_extend (pv 1) (pa_cons (pv 2) pa_nil)))))
    (pss_one (ps_ret (pv 1)))), ?_⟩
  refine ⟨Nat.zero_le _, fun D hD => ?_⟩
  have s1 : Same H (upd H D (.lst [])) := same_new hD _
  refine ⟨_, rfl, a, t, rfl, TreeAt.mono s1 hT, hd, hl, fun p H1 as s2 hp0 hp hA hN => ?_⟩
  have D1 := s2 _ _ (upd_same (H := H) (a := D) (o := .lst []))
  have nDp : p ≠ D := fun z => by rw [z, upd_same] at hp0; cases hp0
  have nDa : ∀ b ∈ as, b ≠ D := fun b hb z => by
    have := hN b hb
    rw [z, upd_same] at this
    cases this
  refine ⟨p, rfl, ⟨_, SqL.of hp⟩, for_list (K := K) (a := p) (xs := as.map V.ref) (fun i σ H' => (∃ y2, σ = [some (.ref a), some (.ref D), y2]) ∧ Same H H' ∧ H' p = some (.lst (as.map V.ref)) ∧ StreamsAt H' as t.streams ∧ ∃ acc, H' D = some (.lst acc) ∧ TupsAt H' acc ((t.streams.take i).flatten.map thV))
    ⟨⟨_, rfl⟩, s1.trans s2, hp, hA, [], D1, TupsAt.nil⟩ (fun i σ H' _ ⟨_, _, z, _⟩ => SqL.of z) ?_ ?_⟩
  · rintro i x σ H' hx ⟨⟨y2, rfl⟩, s3, p3, A3, acc, h3, t3⟩
    obtain ⟨b, rfl, hb⟩ : ∃ b, x = V.ref b ∧ as[i]? = some b := by
      rw [List.getElem?_map] at hx
      cases z : as[i]? with
      | none => rw [z] at hx; cases hx
      | some c => rw [z] at hx; exact ⟨c, (Option.some.inj hx).symm, rfl⟩
    obtain ⟨st, hst, vs, v1, v2⟩ := A3.get i b hb
    have bD : b ≠ D := nDa b (List.mem_of_getElem? hb)
    have te : t.streams.take (i + 1) = t.streams.take i ++ [st] := by rw [List.take_add_one, hst]; rfl
    have le2 := flat_take_le t.streams (i + 1)
    rw [te, List.flatten_append, List.length_append, ← Tr.all_eq] at le2
    have e1 : ([st] : List (List Thing)).flatten = st := by simp
    rw [e1] at le2
    have lacc := t3.len
    rw [List.length_map] at lacc
    have lvs := v2.len
    rw [List.length_map] at lvs
    refine ⟨_, rfl, .inl ⟨rfl, _, SqL.of h3⟩, _, rfl, D, b, _, _, rfl, rfl, h3, v1, small (by omega), ?_⟩
    have s4 : Same H (upd H' D (.lst (acc ++ vs))) := same_put s3 hD _
    have tk4 : Tk H' (upd H' D (.lst (acc ++ vs))) := tk_put h3 _
    refine ⟨⟨_, rfl⟩, s4, by rw [upd_ne nDp]; exact p3, ⟨A3.len, fun j b' hb' => ?_⟩, acc ++ vs, upd_same, ?_⟩
    · obtain ⟨st', e2, ws, w1, w2⟩ := A3.get j b' hb'
      exact ⟨st', e2, ws, by rw [upd_ne (nDa b' (List.mem_of_getElem? hb'))]; exact w1, w2.mono tk4⟩
    · rw [te, List.flatten_append, e1, List.map_append]
      exact (TupsAt.append t3 v2).mono tk4
  · rintro σ H' ⟨⟨y2, rfl⟩, s3, p3, A3, acc, h3, t3⟩
    have la := hA.len
    rw [List.take_of_length_le (by rw [List.length_map]; omega), ← Tr.all_eq] at t3
    exact ⟨_, rfl, q D H' s3 ⟨acc, h3, t3⟩⟩
/-! ### _law_all -/
abbrev sAll : Stmt := topS 32
theorem scAll : FnScope ["_law_tree_here"] ["_law_tree_here"] (defScope sAll) := ⟨rfl, rfl, rfl, by decide +kernel, rfl, by decide +kernel, by decide +kernel⟩
def spAll (n : Nat) : Sp := fun vs H Q _ => ∃ (a : Addr) (t : Tr), vs = [.ref a] ∧ TreeAt H a t ∧ t.depth < n ∧ t.all.length ≤ 1000 ∧ ∀ (p : Addr) (H' : Hp), Same H H' → StreamAt H' p t.all → Q (.ref p) H'
theorem ok_all {n : Nat} {f : Addr} {fd : FuncData} (F : Fun K "_law_all" "_law_all" sAll f fd) (T : Txt mg) (G : FnOk P w K mg base CX0 n f fd ["_law_tree_here"] (spAll n)) (mG : mg "_law_all" = some (.ref f)) (kG : PySem.W.keepIn K (.ref f) = true) (bG : Binds K fd ["_law_tree_here"] []) :
    FnOk P w K mg base CX0 (n + 1) f fd ["_law_tree_here"] (spAll (n + 1)) := by
  refine F.ok scAll (fun vs H Q E h => ?_) (fun cdv A' outer s H vs Q E hr h => ?_)
  · obtain ⟨a, t, rfl, _⟩ := h
    rfl
  obtain ⟨a, t, rfl, hT, hd, hl, q⟩ := h
  refine ⟨_, pss_cons (ps_if (pt_val (pe_callB call_isi (by rfl) T.isinstance PyProof.Rows.boot_isinstance (pa_cons (pv 0) (pa_cons (pe_bltn (v := .ty "list") (by rfl) T.list (by decide +kernel) rfl) pa_nil))))
      (pss_one (ps_ret (pv 0))) pss_nil)
    (pss_one (ps_ret (pe_op op_cat (pe_call G hr rfl mG kG bG .nil pass0 (pa_cons (pe_ix ix_tup (pv 0) pe_int (fun _ _ => rfl)) pa_nil)) (pe_call G hr rfl mG kG bG .nil pass0 (pa_cons (pe_ix ix_tup (pv 0) pe_int (fun _ _ => rfl)) pa_nil))))), ?_⟩
  cases t with
  | leaf st =>
    obtain ⟨vs, h1, h2⟩ := hT
    exact ⟨_, rfl, _, _, .type "list", _, true, rfl, .ty "list", .base (.lst h1), kit_ll, true, rfl, iteT ⟨_, rfl, q a H (Same.refl H) ⟨vs, h1, h2⟩⟩⟩
  | node l r =>
    obtain ⟨b, c, h1, h2, h3⟩ := hT
    have dl : l.depth < n := by
      have : max l.depth r.depth + 1 < n + 1 := hd
      omega
    have dr : r.depth < n := by
      have : max l.depth r.depth + 1 < n + 1 := hd
      omega
    have ll : l.all.length + r.all.length ≤ 1000 := by
      have : (l.all ++ r.all).length ≤ 1000 := hl
      rw [List.length_append] at this
      exact this
    refine ⟨_, rfl, _, _, .type "tuple", _, false, rfl, .ty "list", .base (.tup h1), kit_tl, false, rfl, iteF ?_⟩
    refine ⟨_, rfl, a, _, _, _, rfl, rfl, SqT.of h1, rfl, b, l, rfl, h2, dl, by omega, fun p1 H1 s1 hA => ?_⟩
    refine ⟨_, rfl, a, _, _, _, rfl, rfl, SqT.of (s1 _ _ h1), rfl, c, r, rfl, TreeAt.mono s1 h3, dr, by omega, fun p2 H2 s2 hB => ?_⟩
    obtain ⟨vs, v1, v2⟩ := hA.mono s2
    obtain ⟨ws, w1, w2⟩ := hB
    have lv := v2.len
    have lw := w2.len
    rw [List.length_map] at lv lw
    refine ⟨p1, p2, _, _, rfl, rfl, v1, w1, small (by omega), fun p hp => ?_⟩
    refine q p _ (same_more (s1.trans s2) hp _) ⟨vs ++ ws, upd_same, ?_⟩
    show TupsAt _ _ ((l.all ++ r.all).map thV)
    rw [List.map_append]
    exact (TupsAt.append v2 w2).mono (same_tk (same_new hp _))
theorem all_all {f : Addr} {fd : FuncData} (F : Fun K "_law_all" "_law_all" sAll f fd) (T : Txt mg) (mG : mg "_law_all" = some (.ref f)) (kG : PySem.W.keepIn K (.ref f) = true) (bG : Binds K fd ["_law_tree_here"] []) : ∀ n, FnOk P w K mg base CX0 n f fd ["_law_tree_here"] (spAll n)
  | 0 => by
    have no : ∀ vs H Q E, ¬ spAll 0 vs H Q E := fun vs H Q E ⟨a, t, _, _, z, _⟩ => absurd z (Nat.not_lt_zero _)
    exact ⟨fun vs H Q E h => absurd h (no vs H Q E), fun A outer s H args us vs Q E _ _ _ _ h => absurd h (no vs H Q E)⟩
  | n + 1 => ok_all F T (all_all F T mG kG bG n) mG kG bG
end
end Uk
end
section
set_option linter.all false
set_option maxRecDepth 100000
set_option maxHeartbeats 4000000
namespace Uk
open PySem PySem.Spec PyProof.Rows L2 UkS
def PenAt (H : Hp) (p : Addr) : Prop := ∃ x y z : Int, H p = some (.lst [.int x, .int y, .int z])
section
variable {P : Program} {w : World} {K : PySem.W.Frag} {mg : Str → Option Value} {base : Heap}
/-! ### _law_pen -/
abbrev sPen : Stmt := topS 25
theorem scPen : FnScope ["_law_script", "_law_k", "_law_cell"] ["_law_script", "_law_k"] (defScope sPen) := ⟨rfl, rfl, rfl, by decide +kernel, rfl, by decide +kernel, by decide +kernel⟩
def spPen (K : PySem.W.Frag) : Sp := fun vs H Q _ => ∃ (a : Addr) (ns : List Int) (k : Int), vs = [.ref a, .int k] ∧ SqL K H a (ns.map V.int) ∧ 0 ≤ k ∧
  ∀ (p : Addr) (x y z : Int), H p = none → Q (.ref p) (upd H p (.lst [.int x, .int y, .int z]))
theorem at_some {ns : List Int} {k : Int} (h0 : 0 ≤ k) (h1 : k < (ns.length : Int)) : ∃ z : Int, atI (ns.map V.int) k = some (.int z) := by
  obtain ⟨j, rfl⟩ : ∃ j : Nat, k = (j : Int) := ⟨k.toNat, by omega⟩
  have hj : j < ns.length := by omega
  exact ⟨ns[j], atI_nat (by rw [List.getElem?_map, List.getElem?_eq_getElem hj] <;> rfl)⟩
theorem ok_pen {f : Addr} {fd : FuncData} (F : Fun K "_law_pen" "_law_pen" sPen f fd) (T : Txt mg) : FnOk P w K mg base CX0 1 f fd ["_law_script", "_law_k"] (spPen K) := by
  refine F.ok scPen (fun vs H Q E h => ?_) (fun cdv A' outer s H vs Q E hr h => ?_)
  · obtain ⟨a, ns, k, rfl, _⟩ := h
    rfl
  obtain ⟨a, ns, k, rfl, hS, h0, q⟩ := h
  refine ⟨_, pss_cons (ps_set (i := 2) scPen.nd rfl (Or.inl rfl) (pe_op op_add (pe_op op_mul pe_int (pv 1)) pe_int))
    (pss_cons (ps_if (pt_cmpR op_lt (pv 1) (pe_callB call_len_seq (by rfl) T.len PySem.boot_len (pa_cons (pv 0) pa_nil)) (nomark _))
        (pss_one (ps_set (i := 2) scPen.nd rfl (Or.inl rfl) (pe_ix ix_list (pv 0) (pv 1) (fun _ _ => rfl))))
        (pss_one (ps_if (pt_cmpR op_gt (pe_callB call_len_seq (by rfl) T.len PySem.boot_len (pa_cons (pv 0) pa_nil)) pe_int (nomark _))
          (pss_one (ps_set (i := 2) scPen.nd rfl (Or.inl rfl) (pe_op op_add (pe_ix ix_list (pv 0) (pe_op op_mod (pv 1) (pe_callB call_len_seq (by rfl) T.len PySem.boot_len (pa_cons (pv 0) pa_nil))) (fun _ _ => rfl)) (pe_op op_mul pe_int (pv 1))))) pss_nil)))
    (pss_cons (ps_if (pt_cmpR op_ge (pv 2) (pe_op op_pow pe_int pe_int) (nomark _))
        (pss_one (ps_ret (pe_lst (pa_cons (pe_op op_sub (pv 2) (pe_op op_pow pe_int pe_int)) (pa_cons (pe_op op_mod (pv 2) pe_int) (pa_cons pe_int pa_nil)))))) pss_nil)
    (pss_one (ps_ret (pe_lst (pa_cons pe_int (pa_cons (pe_op op_add (pe_op op_mod (pv 2) pe_int) (pe_op op_mul pe_int (pv 1))) (pa_cons pe_int pa_nil)))))))), ?_⟩
  refine ⟨_, rfl, _, _, rfl, rfl, .inl ⟨by decide, by decide⟩, _, _, rfl, rfl, ?_⟩
  refine ⟨_, rfl, _, rfl, a, _, rfl, .inl hS, _, _, rfl, rfl, _, rfl, ?_⟩
  have hl : (ns.map V.int).length = ns.length := List.length_map _
  have pw : CPow 10 18 := ⟨by decide, by decide, by decide⟩
  refine ite2 (fun c => ?_) (fun c => ?_)
  · have c' : k < (((ns.map V.int).length : Nat) : Int) := of_decide_eq_true c
    rw [hl] at c'
    obtain ⟨z, hz⟩ := at_some (ns := ns) h0 c'
    refine ⟨_, rfl, _, rfl, a, _, _, _, rfl, rfl, hS, hz, ?_⟩
    refine ⟨_, rfl, _, _, rfl, rfl, pw, _, _, rfl, rfl, _, rfl, ite2 (fun _ => ?_) (fun _ => ?_)⟩
    · exact ⟨_, rfl, _, _, rfl, rfl, pw, _, _, rfl, rfl, _, rfl, _, _, rfl, rfl, (by show (0 : Int) < 2147483587; decide), (by show 3 ≤ sizeLine; decide), fun p hp => q p _ _ _ hp⟩
    · exact ⟨_, rfl, _, _, rfl, rfl, (by show (0 : Int) < 2147483587; decide), _, rfl, _, _, rfl, rfl, .inl ⟨by decide, by decide⟩, _, _, rfl, rfl, (by show 3 ≤ sizeLine; decide), fun p hp => q p _ _ _ hp⟩
  · refine ⟨_, rfl, a, _, rfl, .inl hS, _, _, rfl, rfl, _, rfl, ite2 (fun c2 => ?_) (fun _ => ?_)⟩
    · have c2' : (0 : Int) < (((ns.map V.int).length : Nat) : Int) := of_decide_eq_true c2
      rw [hl] at c2'
      obtain ⟨z, hz⟩ := at_some (ns := ns) (k := k % (ns.length : Int)) (Int.emod_nonneg _ (by omega)) (Int.emod_lt_of_pos _ c2')
      refine ⟨_, rfl, _, rfl, _, rfl, a, _, rfl, .inl hS, _, _, rfl, rfl, (by show (0 : Int) < (((ns.map V.int).length : Nat) : Int); rw [hl]; exact c2'), a, _, _, V.int z, rfl, rfl, hS, (by rw [hl]; exact hz), _, rfl, _, _, rfl, rfl, .inl ⟨by decide, by decide⟩, _, _, rfl, rfl, ?_⟩
      refine ⟨_, rfl, _, _, rfl, rfl, pw, _, _, rfl, rfl, _, rfl, ite2 (fun _ => ?_) (fun _ => ?_)⟩
      · exact ⟨_, rfl, _, _, rfl, rfl, pw, _, _, rfl, rfl, _, rfl, _, _, rfl, rfl, (by show (0 : Int) < 2147483587; decide), (by show 3 ≤ sizeLine; decide), fun p hp => q p _ _ _ hp⟩
      · exact ⟨_, rfl, _, _, rfl, rfl, (by show (0 : Int) < 2147483587; decide), _, rfl, _, _, rfl, rfl, .inl ⟨by decide, by decide⟩, _, _, rfl, rfl, (by show 3 ≤ sizeLine; decide), fun p hp => q p _ _ _ hp⟩
    · refine ⟨_, rfl, _, _, rfl, rfl, pw, _, _, rfl, rfl, _, rfl, ite2 (fun _ => ?_) (fun _ => ?_)⟩
      · exact ⟨_, rfl, _, _, rfl, rfl, pw, _, _, rfl, rfl, _, rfl, _, _, rfl, rfl, (by show (0 : Int) < 2147483587; decide), (by show 3 ≤ sizeLine; decide), fun p hp => q p _ _ _ hp⟩
      · exact ⟨_, rfl, _, _, rfl, rfl, (by show (0 : Int) < 2147483587; decide), _, rfl, _, _, rfl, rfl, .inl ⟨by decide, by decide⟩, _, _, rfl, rfl, (by show 3 ≤ sizeLine; decide), fun p hp => q p _ _ _ hp⟩
/-! ### _law_draw -/
abbrev sDraw : Stmt := topS 26
theorem scDraw : FnScope ["_law_pen_here", "_law_size", "_law_drawn", "_law_number"] ["_law_pen_here", "_law_size"] (defScope sDraw) := ⟨rfl, rfl, rfl, by decide +kernel, rfl, by decide +kernel, by decide +kernel⟩
def spDraw : Sp := fun vs H Q _ => ∃ (p : Addr) (n : Int), vs = [.ref p, .int n] ∧ PenAt H p ∧ 0 < n ∧ n < 1073741824 ∧
  ∀ (r x y z : Int), 0 ≤ r → r < n → Q (.int r) (upd H p (.lst [.int x, .int y, .int z]))
theorem ok_draw {f : Addr} {fd : FuncData} (F : Fun K "_law_draw" "_law_draw" sDraw f fd) : FnOk P w K mg base CX0 1 f fd ["_law_pen_here", "_law_size"] spDraw := by
  refine F.ok scDraw (fun vs H Q E h => ?_) (fun cdv A' outer s H vs Q E hr h => ?_)
  · obtain ⟨p, n, rfl, _⟩ := h
    rfl
  obtain ⟨p, n, rfl, ⟨x, y, z, hp⟩, n0, n1, q⟩ := h
  refine ⟨_, pss_cons (ps_asg (pe_op op_add (pe_ix ix_list (pv 0) pe_int (fun _ _ => rfl)) pe_int) (pg_sub (pv 0) pe_int set_list))
    (pss_cons (ps_if (pt_cmpR op_gt (pe_ix ix_list (pv 0) pe_int (fun _ _ => rfl)) pe_int (nomark _))
      (pss_cons (ps_set (i := 2) scDraw.nd rfl (Or.inl rfl) (pe_op op_mod (pe_ix ix_list (pv 0) pe_int (fun _ _ => rfl)) (pv 1)))
      (pss_cons (ps_asg (pe_op op_fdiv (pe_ix ix_list (pv 0) pe_int (fun _ _ => rfl)) (pv 1)) (pg_sub (pv 0) pe_int set_list))
      (pss_one (ps_ret (pv 2))))) pss_nil)
    (pss_cons (ps_set (i := 3) scDraw.nd rfl (Or.inl rfl) (pe_op op_mod (pe_op op_mul (pe_op op_add (pe_op op_add (pe_ix ix_list (pv 0) pe_int (fun _ _ => rfl)) (pe_op op_mul pe_int (pe_ix ix_list (pv 0) pe_int (fun _ _ => rfl)))) pe_int) pe_int) pe_int))
    (pss_cons (ps_set (i := 3) scDraw.nd rfl (Or.inl rfl) (pe_op op_mod (pe_op op_mul (pv 3) (pe_op op_add (pe_op op_add (pe_op op_mod (pv 3) pe_int) (pe_ix ix_list (pv 0) pe_int (fun _ _ => rfl))) pe_int)) pe_int))
    (pss_one (ps_ret (pe_op op_mod (pe_op op_fdiv (pe_op op_mod (pe_op op_mul (pv 3) (pe_op op_add (pe_op op_mod (pv 3) pe_int) pe_int)) pe_int) pe_int) (pv 1))))))), ?_⟩
  -- pen[2] = pen[2] + 1
  refine ⟨_, rfl, p, _, _, _, rfl, rfl, SqL.of hp, rfl, _, _, rfl, rfl, _, rfl, p, _, _, 2, rfl, rfl, hp, rfl, ?_⟩
  have h1 : (upd H p (.lst ([V.int x, V.int y, V.int z].set 2 (V.int (z + 1))))) p = some (.lst [.int x, .int y, .int (z + 1)]) := upd_same
  have e1 : ∀ o, upd (upd H p (.lst ([V.int x, V.int y, V.int z].set 2 (V.int (z + 1))))) p o = upd H p o := fun o => upd_upd
  have e0 : upd H p (.lst ([V.int x, V.int y, V.int z].set 2 (V.int (z + 1)))) = upd H p (.lst [.int x, .int y, .int (z + 1)]) := rfl
  generalize upd H p (.lst ([V.int x, V.int y, V.int z].set 2 (V.int (z + 1)))) = H1 at h1 e1 e0 ⊢
  refine ⟨_, rfl, p, _, _, _, rfl, rfl, SqL.of h1, rfl, _, _, rfl, rfl, _, rfl, ite2 (fun c => ?_) (fun c => ?_)⟩
  · refine ⟨_, rfl, p, _, _, _, rfl, rfl, SqL.of h1, rfl, _, rfl, _, _, rfl, rfl, n0, ?_⟩
    refine ⟨_, rfl, p, _, _, _, rfl, rfl, SqL.of h1, rfl, _, rfl, _, _, rfl, rfl, ⟨n0, n1⟩, _, rfl, p, _, _, 0, rfl, rfl, h1, rfl, ?_⟩
    refine ⟨_, rfl, ?_⟩
    show Q (.int (x % n)) _
    rw [e1]
    exact q _ _ _ _ (Int.emod_nonneg _ (by omega)) (Int.emod_lt_of_pos _ n0)
  · -- the second number lies below 2 ^ 31
    have m0 : ∀ i : Int, -(2 ^ 64) < i % 2147483647 ∧ i % 2147483647 < 2 ^ 64 := fun i => by
      have a := Int.emod_nonneg i (show (2147483647 : Int) ≠ 0 by decide)
      have b := Int.emod_lt_of_pos i (show (0 : Int) < 2147483647 by decide)
      omega
    have m1 : ∀ i : Int, -(2 ^ 64) < i % 2147483629 ∧ i % 2147483629 < 2 ^ 64 := fun i => by
      have a := Int.emod_nonneg i (show (2147483629 : Int) ≠ 0 by decide)
      have b := Int.emod_lt_of_pos i (show (0 : Int) < 2147483629 by decide)
      omega
    refine ⟨_, rfl, p, _, _, _, rfl, rfl, SqL.of h1, rfl, _, rfl, p, _, _, _, rfl, rfl, SqL.of h1, rfl, _, _, rfl, rfl, .inl ⟨by decide, by decide⟩, _, _, rfl, rfl, _, _, rfl, rfl, _, _, rfl, rfl, .inr ⟨by decide, by decide⟩, _, _, rfl, rfl, (by show (0 : Int) < 2147483647; decide), ?_⟩
    refine ⟨_, rfl, _, rfl, _, _, rfl, rfl, (by show (0 : Int) < 65521; decide), _, rfl, p, _, _, _, rfl, rfl, SqL.of h1, rfl, _, _, rfl, rfl, _, _, rfl, rfl, _, _, rfl, rfl, .inl (m0 _), _, _, rfl, rfl, (by show (0 : Int) < 2147483629; decide), ?_⟩
    refine ⟨_, rfl, _, rfl, _, _, rfl, rfl, (by show (0 : Int) < 8191; decide), _, _, rfl, rfl, _, _, rfl, rfl, .inl (m1 _), _, _, rfl, rfl, (by show (0 : Int) < 2147483563; decide), _, _, rfl, rfl, ⟨by decide, by decide⟩, _, rfl, _, _, rfl, rfl, n0, ?_⟩
    rw [e0]
    exact q _ _ _ _ (Int.emod_nonneg _ (by omega)) (Int.emod_lt_of_pos _ n0)
end
end Uk
end
section
set_option linter.all false
set_option maxRecDepth 100000
set_option maxHeartbeats 4000000
namespace Uk
open PySem PySem.Spec PyProof.Rows L2 UkS
theorem PenAt.put {H : Hp} {p : Addr} {x y z : Int} : PenAt (upd H p (.lst [.int x, .int y, .int z])) p := ⟨x, y, z, upd_same⟩
theorem PenAt.mono {H H' : Hp} {p : Addr} (h : PenAt H p) (s : Same H H') : PenAt H' p := by
  obtain ⟨x, y, z, e⟩ := h
  exact ⟨x, y, z, s _ _ e⟩
theorem PenAt.ne {H : Hp} {p q : Addr} {o : HO} (h : PenAt H p) (e : p ≠ q) : PenAt (upd H q o) p := by
  obtain ⟨x, y, z, w⟩ := h
  exact ⟨x, y, z, by rw [upd_ne e]; exact w⟩
theorem PenAt.new {H : Hp} {p q : Addr} {o : HO} (h : PenAt H p) (e : H q = none) : PenAt (upd H q o) p := h.mono (same_new e o)
theorem PenAt.neq {H : Hp} {p q : Addr} (h : PenAt H p) (e : H q = none) : q ≠ p := fun z => by
  obtain ⟨x, y, z', w⟩ := h
  rw [z, w] at e
  cases e
theorem But.free {p a : Addr} {H H' : Hp} (s : But p H H') (e : H' a = none) (n : a ≠ p) : H a = none := by
  cases z : H a with
  | none => rfl
  | some o => rw [s a o n z] at e; cases e
theorem But.put {p a : Addr} {H H' : Hp} (s : But p H H') (e : H a = none) (o : HO) : But p H (upd H' a o) := fun b x hb h => by
  have n : b ≠ a := fun z => by rw [z, e] at h; cases h
  rw [upd_ne n]
  exact s b x hb h
theorem letter {z : Str} (hz : z.length = 26) {i : Int} (h0 : 0 ≤ i) (h1 : i < 26) : ∃ c, z.cps[i.toNat]? = some c := by
  have h : i.toNat < z.cps.size := by
    have : z.cps.size = 26 := hz
    omega
  exact ⟨z.cps[i.toNat], Array.getElem?_eq_getElem h⟩
theorem join8 {ls : List Str} (h : ∀ a ∈ ls, a.length = 1) : (ls.map (·.length)).sum = ls.length := by
  induction ls with
  | nil => rfl
  | cons a r ih =>
    have h1 : a.length = 1 := h a List.mem_cons_self
    have h2 := ih fun b hb => h b (List.mem_cons_of_mem _ hb)
    simp only [List.map_cons, List.sum_cons, List.length_cons, h1, h2]
    omega
section
variable {P : Program} {w : World} {K : PySem.W.Frag} {mg : Str → Option Value} {base : Heap}
/-! ### _law_names -/
abbrev sNames : Stmt := topS 27
abbrev nNames : List Str := ["_law_pen_here", "_law_many", "_law_letters", "_law_way", "_law_k", "_law_base", "_law_size", "_law_at", "_law_names_here", "_law_word"]
theorem scNames : FnScope nNames ["_law_pen_here", "_law_many"] (defScope sNames) := ⟨rfl, rfl, rfl, by decide +kernel, rfl, by decide +kernel, by decide +kernel⟩
def spNames : Sp := fun vs H Q _ => ∃ (p : Addr) (many : Int), vs = [.ref p, .int many] ∧ PenAt H p ∧ 0 ≤ many ∧ many ≤ 60 ∧
  ∀ (a : Addr) (ys : List Str) (H' : Hp), But p H H' → PenAt H' p → H a = none → H' a = some (.lst (ys.map V.str)) → ys.Nodup → ys.length ≤ 60 → Q (.ref a) H'
theorem ok_names {f : Addr} {fd : FuncData} (F : Fun K "_law_names" "_law_names" sNames f fd) (T : Txt mg) (DD : IsDef P w K mg base "_law_draw" 1 ["_law_pen_here", "_law_size"] spDraw) : FnOk P w K mg base CX0 2 f fd ["_law_pen_here", "_law_many"] spNames := by
  obtain ⟨fD, fdD, GD, mD, kD, bD⟩ := DD
  refine F.ok scNames (fun vs H Q E h => ?_) (fun cdv A' outer s H vs Q E hr h => ?_)
  · obtain ⟨p, m, rfl, _⟩ := h
    rfl
  obtain ⟨p, many, rfl, hp, m0, m1, q⟩ := h
  refine ⟨_, pss_cons (ps_set (i := 2) scNames.nd rfl (Or.inr rfl) pe_str)
    (pss_cons (ps_set (i := 3) scNames.nd rfl (Or.inl rfl) (pe_call GD hr rfl mD kD bD .nil pass0 (pa_cons (pv 0) (pa_cons pe_int pa_nil))))
    (pss_cons (ps_set (i := 5) scNames.nd rfl (Or.inl rfl) (pe_join pe_str (pe_lc (own := [("_law_k", 4)]) (g := gName 4) (tt := tYes) rfl scNames.nd (pi_range1 (by rfl) T.range (pa_cons pe_int pa_nil)) (blkOk_by (N := nNames) (sc := defScope sNames) (by decide +kernel))
      (fun _ _ _ _ _ => pg_name (i := 4) scNames.nd rfl (Or.inl rfl)) (fun _ _ _ _ _ => pts_nil) (fun _ _ _ _ _ => pe_item_str (pv 2) (pe_call GD hr rfl mD kD bD .nil pass0 (pa_cons (pv 0) (pa_cons pe_int pa_nil))) (fun _ _ => rfl)))))
    (pss_cons (ps_set (i := 6) scNames.nd rfl (Or.inl rfl) (pe_op op_add pe_int (pe_call GD hr rfl mD kD bD .nil pass0 (pa_cons (pv 0) (pa_cons pe_int pa_nil)))))
    (pss_cons (ps_set (i := 7) scNames.nd rfl (Or.inl rfl) (pe_call GD hr rfl mD kD bD .nil pass0 (pa_cons (pv 0) (pa_cons (pe_op op_sub (pv 6) pe_int) pa_nil))))
    (pss_cons (ps_set (i := 8) scNames.nd rfl (Or.inl rfl) (pe_lst pa_nil))
    (pss_cons (ps_for PassesOwn.never rfl (pi_range1 (by rfl) T.range (pa_cons (pv 1) pa_nil)) (pg_name (i := 4) scNames.nd rfl (Or.inl rfl))
      (pss_cons (ps_set (i := 9) scNames.nd rfl (Or.inl rfl) (pe_op op_add_str (pe_item_str (pv 2) (pe_op op_mod (pe_op op_add (pv 4) (pv 6)) pe_int) (fun _ _ => rfl)) (pe_item_str (pv 2) (pe_op op_mod (pe_op op_add (pe_op op_fdiv (pv 4) pe_int) (pv 7)) pe_int) (fun _ _ => rfl))))
      (C8.pss_cut (ps_if (pt_cmpR op_eq (pv 3) pe_int (nomark _))
        (pss_one (ps_set (i := 9) scNames.nd rfl (Or.inl rfl) (pe_op op_add_str (pe_op op_add_str (pe_slice sl_str (pv 5) po_none (po_some (pv 7))) (pv 9)) (pe_slice sl_str (pv 5) (po_some (pe_op op_add (pv 7) pe_int)) (po_some (pv 6)))))) pss_nil)
      (C8.pss_cut (ps_if (pt_cmpR op_eq (pv 3) pe_int (nomark _))
        (pss_one (ps_set (i := 9) scNames.nd rfl (Or.inl rfl) (pe_op op_add_str (pe_slice sl_str (pv 5) (po_some (pv 7)) (po_some (pe_op op_add (pv 7) (pe_call GD hr rfl mD kD bD .nil pass0 (pa_cons (pv 0) (pa_cons pe_int pa_nil)))))) (pv 9)))) pss_nil)
      (C8.pss_cut (ps_if (PW.pt (pw_and (pt_cmpR op_eq (pv 3) pe_int (nomark _)) (pw_and1 (pt_cmpR op_lt (pv 4) pe_int (nomark _)))))
        (pss_one (ps_set (i := 9) scNames.nd rfl (Or.inl rfl) (pe_slice sl_str (pv 5) po_none (po_some (pe_op op_add (pv 4) pe_int))))) pss_nil)
      (pss_one (ps_expr (pe_bm PySem.F.plainAttrs_list PySem.F.slot_list_append PySem.F.type_list_append mt_append (pv 8) (pa_cons (pv 9) pa_nil)))))))))
    (pss_one (ps_ret (pe_callB (cr_sortedOfS rfl) (by rfl) T.sorted (by decide +kernel) (pa_cons (pe_callTy (cr_setOfS rfl) (by rfl) T.set (by decide +kernel) (pa_cons (pv 8) pa_nil)) pa_nil)))))))))), ?_⟩
  refine ⟨_, rfl, p, _, rfl, hp, (by decide), (by decide), fun way x1 y1 z1 w0 w1 => ?_⟩
  have b1 : But p H (upd H p (.lst [.int x1, .int y1, .int z1])) := But.set _
  have p1 : PenAt (upd H p (.lst [.int x1, .int y1, .int z1])) p := PenAt.put
  generalize upd H p (.lst [.int x1, .int y1, .int z1]) = H1 at b1 p1 ⊢
  -- base
  refine ⟨⟨_, rfl⟩, _, rfl, (by decide), (by decide), fun D hD => lc_range (lo := 0) (fun i H' => But p H H' ∧ PenAt H' p ∧ ∃ ls : List Str, H' D = some (.lst (ls.map V.str)) ∧ ls.length = i ∧ ∀ a ∈ ls, a.length = 1) ⟨b1.new hD _, p1.new hD, [], upd_same, rfl, fun a ha => by cases ha⟩ ?_ ?_⟩
  · rintro i H2 hi ⟨b2, p2, ls, h2, l2, o2⟩
    have hi8 : i < 8 := hi
    have Dp : D ≠ p := p1.neq hD
    have hD0 : H D = none := b1.free hD Dp
    refine ⟨rfl, _, rfl, _, rfl, p, _, rfl, p2, (by decide), (by decide), fun r x2 y2 z2 r0 r1 => ?_⟩
    obtain ⟨c, hc⟩ := letter (z := "abcdefghijklmnopqrstuvwxyz") (by decide) r0 r1
    refine ⟨_, r, c, rfl, rfl, r0, by omega, r1, hc, ls.map V.str, by rw [upd_ne Dp]; exact h2, (by rw [List.length_map]; exact small1000 (by omega)), (b2.trans (But.set _)).put hD0 _, PenAt.put.ne Dp.symm, ls ++ [⟨#[c]⟩], ?_, by rw [List.length_append, l2]; rfl, ?_⟩
    · rw [List.map_append]; exact upd_same
    · intro a ha
      rcases List.mem_append.mp ha with z | z
      · exact o2 a z
      · rw [List.mem_singleton.mp z]; rfl
  rintro H2 ⟨b2, p2, ls, h2, l2, o2⟩
  have l8 : ls.length = 8 := l2
  have sm : (ls.map (·.length)).sum = 8 := by rw [join8 o2, l8]
  refine ⟨_, D, ls, rfl, rfl, .inl (SqL.of h2), ?_, ?_⟩
  · have e0 : ("" : Str).length = 0 := by decide
    rw [sm, e0]
    omega
  have lb : (Txt.join "" ls).length = 8 := by rw [← l8]; exact PySem.W.KT.join_ones ls o2
  generalize Txt.join "" ls = bs at lb ⊢
  refine ⟨_, rfl, p, _, rfl, p2, (by decide), (by decide), fun r3 x3 y3 z3 a0 a1 => ?_⟩
  have b3 : But p H (upd H2 p (.lst [.int x3, .int y3, .int z3])) := b2.trans (But.set _)
  have p3 : PenAt (upd H2 p (.lst [.int x3, .int y3, .int z3])) p := PenAt.put
  generalize upd H2 p (.lst [.int x3, .int y3, .int z3]) = H3 at b3 p3 ⊢
  refine ⟨_, _, rfl, rfl, ?_⟩
  refine ⟨_, rfl, _, rfl, _, _, rfl, rfl, p, _, rfl, p3, (by show (0 : Int) < 2 + r3 - 1; omega), (by show 2 + r3 - 1 < (1073741824 : Int); omega), fun r4 x4 y4 z4 c0 c1 => ?_⟩
  have c1' : r4 < 2 + r3 - 1 := c1
  have b4 : But p H (upd H3 p (.lst [.int x4, .int y4, .int z4])) := b3.trans (But.set _)
  have p4 : PenAt (upd H3 p (.lst [.int x4, .int y4, .int z4])) p := PenAt.put
  generalize upd H3 p (.lst [.int x4, .int y4, .int z4]) = H4 at b4 p4 ⊢
  refine ⟨(by decide), fun E hE => ?_⟩
  have Ep : E ≠ p := p4.neq hE
  have hE0 : H E = none := b4.free hE Ep
  refine ⟨_, rfl, many, rfl, (by omega), (by omega), for_range (fun i σ H' => (∃ y4 y9, σ = [some (.ref p), some (.int many), some (.str "abcdefghijklmnopqrstuvwxyz"), some (.int way), y4, some (.str bs), some (.int (2 + r3)), some (.int r4), some (.ref E), y9]) ∧ But p H H' ∧ PenAt H' p ∧ ∃ ys : List Str, H' E = some (.lst (ys.map V.str)) ∧ ys.length = i)
    ⟨⟨_, _, rfl⟩, b4.new hE _, p4.new hE, [], upd_same, rfl⟩ ?_ ?_⟩
  · rintro i σ H5 hi ⟨⟨u4, u9, rfl⟩, b5, p5, ys, h5, l5⟩
    have hi' : i < 60 := by omega
    refine ⟨_, rfl, _, rfl, _, rfl, _, _, rfl, rfl, _, _, rfl, rfl, (by show (0 : Int) < 26; decide), ?_⟩
    obtain ⟨c, hc⟩ := letter (z := "abcdefghijklmnopqrstuvwxyz") (i := (0 + (i : Int) + (2 + r3)) % 26) (by decide) (Int.emod_nonneg _ (by decide)) (Int.emod_lt_of_pos _ (by decide))
    have k0 := Int.emod_nonneg (0 + (i : Int) + (2 + r3)) (show (26 : Int) ≠ 0 by decide)
    have k1 := Int.emod_lt_of_pos (0 + (i : Int) + (2 + r3)) (show (0 : Int) < 26 by decide)
    refine ⟨_, _, c, rfl, rfl, k0, by omega, k1, hc, ?_⟩
    obtain ⟨d, hd⟩ := letter (z := "abcdefghijklmnopqrstuvwxyz") (i := ((0 + (i : Int)) / 26 + r4) % 26) (by decide) (Int.emod_nonneg _ (by decide)) (Int.emod_lt_of_pos _ (by decide))
    have j0 := Int.emod_nonneg ((0 + (i : Int)) / 26 + r4) (show (26 : Int) ≠ 0 by decide)
    have j1 := Int.emod_lt_of_pos ((0 + (i : Int)) / 26 + r4) (show (0 : Int) < 26 by decide)
    refine ⟨_, rfl, _, rfl, _, _, rfl, rfl, ⟨by decide, by decide⟩, _, rfl, _, _, rfl, rfl, _, _, rfl, rfl, (by show (0 : Int) < 26; decide), _, _, d, rfl, rfl, j0, by omega, j1, hd, ?_⟩
    refine ⟨_, _, rfl, rfl, (by show 2 ≤ sizeLine; decide), ?_⟩
    have lw : ((⟨#[c]⟩ : Str) ++ (⟨#[d]⟩ : Str)).length ≤ 2 := Nat.le_refl 2
    generalize ((⟨#[c]⟩ : Str) ++ (⟨#[d]⟩ : Str)) = word at lw ⊢
    have cl : ∀ lo hi, (cutS bs lo hi).length ≤ 8 := fun lo hi => by rw [← lb]; exact cutS_length bs lo hi
    have bl : bs.length ≤ sizeLine := by rw [lb]; exact small (by decide)
    have mid : ∀ (n : Nat) (wd : Str) (H' : Hp) (y4 : Option V), wd.length ≤ n → But p H H' → PenAt H' p → H' E = some (.lst (ys.map V.str)) → ∃ wd' : Str, wd'.length ≤ n ∧ ([some (.ref p), some (.int many), some (.str "abcdefghijklmnopqrstuvwxyz"), some (.int way), y4, some (.str bs), some (.int (2 + r3)), some (.int r4), some (.ref E), some (.str wd)] : L2.St) = [some (.ref p), some (.int many), some (.str "abcdefghijklmnopqrstuvwxyz"), some (.int way), y4, some (.str bs), some (.int (2 + r3)), some (.int r4), some (.ref E), some (.str wd')] ∧ But p H H' ∧ PenAt H' p ∧ H' E = some (.lst (ys.map V.str)) := fun n wd H' y4 a b c d => ⟨wd, a, rfl, b, c, d⟩
    refine ⟨fun σ H' => ∃ wd' : Str, wd'.length ≤ 20 ∧ σ = [some (.ref p), some (.int many), some (.str "abcdefghijklmnopqrstuvwxyz"), some (.int way), some (.int (0 + (i : Int))), some (.str bs), some (.int (2 + r3)), some (.int r4), some (.ref E), some (.str wd')] ∧ But p H H' ∧ PenAt H' p ∧ H' E = some (.lst (ys.map V.str)), ?_, ?_⟩
    · refine ⟨_, rfl, rfl, _, rfl, ite2 (fun _ => ?_) (fun _ => ?_)⟩
      · refine ⟨_, rfl, _, rfl, _, rfl, _, rfl, bl, _, rfl, _, _, rfl, rfl, ?_, ?_⟩
        · exact small (by have := cl none (some r4); omega)
        refine ⟨_, rfl, _, rfl, _, _, rfl, rfl, _, rfl, _, rfl, _, rfl, _, rfl, bl, _, _, rfl, rfl, ?_, ?_⟩
        · rw [PySem.Str.length_append]
          exact small (by have := cl none (some r4); have := cl (some (r4 + 2)) (some (2 + r3)); omega)
        · refine ⟨_, ?_, rfl, b5, p5, h5⟩
          rw [PySem.Str.length_append, PySem.Str.length_append]
          have := cl none (some r4)
          have := cl (some (r4 + 2)) (some (2 + r3))
          omega
      · exact ⟨_, by omega, rfl, b5, p5, h5⟩
    rintro σ H6 ⟨w6, l6, rfl, b6, p6, h6⟩
    refine ⟨fun σ H' => ∃ wd' : Str, wd'.length ≤ 40 ∧ σ = [some (.ref p), some (.int many), some (.str "abcdefghijklmnopqrstuvwxyz"), some (.int way), some (.int (0 + (i : Int))), some (.str bs), some (.int (2 + r3)), some (.int r4), some (.ref E), some (.str wd')] ∧ But p H H' ∧ PenAt H' p ∧ H' E = some (.lst (ys.map V.str)), ?_, ?_⟩
    · refine ⟨_, rfl, rfl, _, rfl, ite2 (fun _ => ?_) (fun _ => ?_)⟩
      · refine ⟨_, rfl, _, rfl, _, rfl, _, rfl, _, rfl, p, _, rfl, p6, (by decide), (by decide), fun r7 x7 y7 z7 d0 d1 => ?_⟩
        refine ⟨_, _, rfl, rfl, _, rfl, _, rfl, bl, _, rfl, _, _, rfl, rfl, ?_, ?_⟩
        · exact small (by have := cl (some r4) (some (r4 + r7)); omega)
        · refine ⟨_, ?_, rfl, b6.trans (But.set _), PenAt.put, by rw [upd_ne Ep]; exact h6⟩
          rw [PySem.Str.length_append]
          have := cl (some r4) (some (r4 + r7))
          omega
      · exact ⟨_, by omega, rfl, b6, p6, h6⟩
    rintro σ H7 ⟨w7, l7, rfl, b7, p7, h7⟩
    refine ⟨fun σ H' => ∃ wd' : Str, wd'.length ≤ 40 ∧ σ = [some (.ref p), some (.int many), some (.str "abcdefghijklmnopqrstuvwxyz"), some (.int way), some (.int (0 + (i : Int))), some (.str bs), some (.int (2 + r3)), some (.int r4), some (.ref E), some (.str wd')] ∧ But p H H' ∧ PenAt H' p ∧ H' E = some (.lst (ys.map V.str)), ?_, ?_⟩
    · refine ⟨_, rfl, rfl, _, rfl, ite2 (fun _ => ?_) (fun _ => ?_)⟩
      · refine ⟨_, rfl, _, _, rfl, rfl, _, rfl, ite2 (fun _ => ?_) (fun _ => ?_)⟩
        · refine ⟨_, rfl, _, rfl, _, _, rfl, rfl, _, rfl, _, rfl, bl, ?_⟩
          exact ⟨_, Nat.le_trans (cl _ _) (by decide), rfl, b7, p7, h7⟩
        · exact ⟨_, by omega, rfl, b7, p7, h7⟩
      · exact ⟨_, by omega, rfl, b7, p7, h7⟩
    rintro σ H8 ⟨w8, l8', rfl, b8, p8, h8⟩
    refine ⟨_, rfl, .inl ⟨rfl, _, SqL.of h8⟩, _, rfl, E, ys.map V.str, _, rfl, rfl, h8, (by rw [List.length_map]; exact small1000 (by omega)), ?_⟩
    refine ⟨⟨_, _, rfl⟩, b8.put hE0 _, p8.ne Ep.symm, ys ++ [w8], ?_, by rw [List.length_append, l5]; rfl⟩
    rw [List.map_append]
    exact upd_same
  · rintro σ H5 ⟨⟨u4, u9, rfl⟩, b5, p5, ys, h5, l5⟩
    have l60 : ys.length ≤ 60 := by omega
    refine ⟨_, rfl, E, ys, rfl, .inl (SqL.of h5), by omega, fun p1 hp1 => ⟨p1, _, rfl, upd_same, (by have := once_len ys; omega), fun zs p2 e1 e2 hp2 => ?_⟩⟩
    refine q p2 zs _ ((b5.new hp1 _).new hp2 _) ((p5.new hp1).new hp2) ((b5.new hp1 _).free hp2 ((p5.new hp1).neq hp2)) upd_same (e1.nodup_iff.mpr (once_nd _)) ?_
    rw [e1.length_eq]
    have := once_len ys
    omega
end
end Uk
end
section
set_option linter.all false
set_option maxRecDepth 100000
set_option maxHeartbeats 4000000
namespace Uk
open PySem PySem.Spec PyProof.Rows L2 UkS
theorem tk_but {p : Addr} {H H' : Hp} (s : But p H H') (h : PenAt H p) : Tk H H' := fun b xs e => s b _ (fun z => by
  obtain ⟨x, y, z', w⟩ := h
  rw [z, w] at e
  cases e) e
/-! ### data -/
def thD (t : Thing) : PyData := .tuple [.int t.1, .str t.2.1, .int t.2.2.1, .int t.2.2.2]
def kD (k : Row) : PyData := .tuple [.str k.1, .int k.2.1, .int k.2.2]
def stD (st : List Thing) : PyData := .list (st.map thD)
def netD (net : List Row) : PyData := .tuple (net.map kD)
theorem plain_all {α : Type} {f : α → PyData} (h : ∀ x, (f x).plain = true) : ∀ l : List α, PyData.plainAll (l.map f) = true
  | [] => rfl
  | x :: r => by
    have := plain_all h r
    show PyData.plainAll (f x :: r.map f) = true
    rw [PyData.plainAll, this, h x]
    rfl
theorem depth_all {α : Type} {f : α → PyData} {n : Nat} (h : ∀ x, (f x).depth ≤ n) : ∀ l : List α, PyData.depthAll (l.map f) ≤ n
  | [] => by simp [PyData.depthAll]
  | x :: r => by
    have h1 := depth_all h r
    have h2 := h x
    show PyData.depthAll (f x :: r.map f) ≤ n
    rw [PyData.depthAll]
    omega
/-- no dict within, not deep -/
def Pl (d : PyData) : Prop := d.plain = true ∧ d.depth ≤ 64
theorem eqv_pl {d : PyData} (h : Pl d) : PyData.eqv d d = true := SeqAt.eqv_refl_plain d h.1
theorem thD_plain (t : Thing) : (thD t).plain = true := rfl
theorem kD_plain (k : Row) : (kD k).plain = true := rfl
theorem thD_depth (t : Thing) : (thD t).depth ≤ 1 := by simp [thD, PyData.depth, PyData.depthAll]
theorem kD_depth (k : Row) : (kD k).depth ≤ 1 := by simp [kD, PyData.depth, PyData.depthAll]
theorem stD_depth (st : List Thing) : (stD st).depth ≤ 2 := by
  have := depth_all thD_depth st
  unfold stD
  rw [PyData.depth]
  omega
theorem stD_plain (st : List Thing) : (stD st).plain = true := plain_all thD_plain st
theorem stD_pl (st : List Thing) : Pl (stD st) := ⟨stD_plain st, Nat.le_trans (stD_depth st) (by decide)⟩
theorem netD_depth (net : List Row) : (netD net).depth ≤ 2 := by
  have := depth_all kD_depth net
  unfold netD
  rw [PyData.depth]
  omega
theorem netD_pl (net : List Row) : Pl (netD net) := ⟨plain_all kD_plain net, Nat.le_trans (netD_depth net) (by decide)⟩
theorem nil_pl : Pl (.list []) := ⟨rfl, by simp [PyData.depth, PyData.depthAll]⟩
theorem nil_plT : Pl (.tuple []) := ⟨rfl, by simp [PyData.depth, PyData.depthAll]⟩
def rNeP (K : PySem.W.Frag) : R2 := fun x y H Q => ∃ d e, Dp K H x d ∧ Dp K H y e ∧ Pl d ∧ Pl e ∧ Q (.bl (!PyData.eqv d e)) H
theorem op_neP {X : Cx} (hu : X.A.units + 64 < cLine) : OpR X (compareOp .NotEq) (rNeP X.K) := by
  intro pins s σ H x y v u Q I rx ry h
  obtain ⟨d, e, hd, he, sd, se, q⟩ := h
  obtain ⟨as, r1⟩ := Dp.reads I d x v hd rx
  obtain ⟨bs, r2⟩ := Dp.reads I e y u he ry
  refine SeqAt.ne_plain r1 r2 sd.1 se.1 ?_ ⟨.bl _, H, I, rfl, q⟩
  have := sd.2
  omega
section
variable {K : PySem.W.Frag} {H : Hp}
theorem dp_rows {α : Type} {g : α → List V} {ds : α → List PyData} (hg : ∀ x, DpAll K H (g x) (ds x)) : ∀ (l : List α) (vs : List V), TupsAt H vs (l.map g) → DpAll K H vs (l.map fun x => .tuple (ds x))
  | [], [], _ => .nil
  | [], v :: vs, h => by
    have := h.len
    simp at this
  | x :: l, [], h => by
    have := h.len
    simp at this
  | x :: l, v :: vs, h => by
    obtain ⟨t, k, rfl, e, ht⟩ := h.at (i := 0) (x := v) rfl
    have ek : x = k := Option.some.inj e
    subst ek
    exact .cons (.tup (SqT.of ht) (hg x)) (dp_rows hg l vs ⟨by have := h.len; simpa using this, fun i y q => h.get (i + 1) y q⟩)
theorem dp_net {a : Addr} {net : List Row} (h : NetAt H a net) : Dp K H (.ref a) (netD net) := by
  obtain ⟨vs, h1, h2⟩ := h
  exact .tup (SqT.of h1) (dp_rows (fun k => .cons (.str _) (.cons (.int _) (.cons (.int _) .nil))) net vs h2)
theorem dp_stream {a : Addr} {st : List Thing} (h : StreamAt H a st) : Dp K H (.ref a) (stD st) := by
  obtain ⟨vs, h1, h2⟩ := h
  exact .lst (SqL.of h1) (dp_rows (fun k => .cons (.int _) (.cons (.str _) (.cons (.int _) (.cons (.int _) .nil)))) st vs h2)
end
section
variable {P : Program} {w : World} {K : PySem.W.Frag} {mg : Str → Option Value} {base : Heap}
/-! ### _law_net -/
abbrev sNet : Stmt := topS 28
abbrev nNet : List Str := ["_law_pen_here", "_law_many", "_law_wide", "_law_first", "_law_net_here", "_law_name"]
theorem scNet : FnScope nNet ["_law_pen_here"] (defScope sNet) := ⟨rfl, rfl, rfl, by decide +kernel, rfl, by decide +kernel, by decide +kernel⟩
/-- a net as the law draws it -/
structure NetOk (net : List Row) : Prop where
  nd : (net.map (·.1)).Nodup
  few : net.length ≤ 60
  rng : InRange net
def spNet : Sp := fun vs H Q _ => ∃ (p : Addr), vs = [.ref p] ∧ PenAt H p ∧
  ∀ (a : Addr) (net : List Row) (H' : Hp), But p H H' → PenAt H' p → NetAt H' a net → NetOk net → Q (.ref a) H'
theorem wide_at {r : Int} (h0 : 0 ≤ r) (h1 : r < 4) : ∃ z : Int, atI [V.int 2, V.int 4, V.int 9, V.int 31] r = some (.int z) ∧ 0 < z ∧ z < 1073741824 := by
  have : r = 0 ∨ r = 1 ∨ r = 2 ∨ r = 3 := by omega
  rcases this with rfl | rfl | rfl | rfl
  · exact ⟨2, rfl, by decide, by decide⟩
  · exact ⟨4, rfl, by decide, by decide⟩
  · exact ⟨9, rfl, by decide, by decide⟩
  · exact ⟨31, rfl, by decide, by decide⟩
theorem ok_net {f : Addr} {fd : FuncData} (F : Fun K "_law_net" "_law_net" sNet f fd) (T : Txt mg) (DD : IsDef P w K mg base "_law_draw" 1 ["_law_pen_here", "_law_size"] spDraw) (DN : IsDef P w K mg base "_law_names" 2 ["_law_pen_here", "_law_many"] spNames) :
    FnOk P w K mg base CX0 3 f fd ["_law_pen_here"] spNet := by
  obtain ⟨fD, fdD, GD, mD, kD', bD⟩ := DD
  obtain ⟨fN, fdN, GN, mN, kN, bN⟩ := DN
  refine F.ok scNet (fun vs H Q E h => ?_) (fun cdv A' outer s H vs Q E hr h => ?_)
  · obtain ⟨p, rfl, _⟩ := h
    rfl
  obtain ⟨p, rfl, hp, q⟩ := h
  have hr1 := hr.mono (j := 1) (by decide)
  refine ⟨_, pss_cons (ps_set (i := 1) scNet.nd rfl (Or.inl rfl) (pe_call GD hr1 rfl mD kD' bD .nil pass0 (pa_cons (pv 0) (pa_cons pe_int pa_nil))))
    (C8.pss_cut (ps_if (pt_cmpR op_eq (pe_call GD hr1 rfl mD kD' bD .nil pass0 (pa_cons (pv 0) (pa_cons pe_int pa_nil))) pe_int (nomark _))
      (pss_one (ps_set (i := 1) scNet.nd rfl (Or.inl rfl) (pe_op op_add pe_int (pe_call GD hr1 rfl mD kD' bD .nil pass0 (pa_cons (pv 0) (pa_cons pe_int pa_nil)))))) pss_nil)
    (pss_cons (ps_set (i := 2) scNet.nd rfl (Or.inl rfl) (pe_ix ix_list (pe_lst (pa_cons pe_int (pa_cons pe_int (pa_cons pe_int (pa_cons pe_int pa_nil))))) (pe_call GD hr1 rfl mD kD' bD .nil pass0 (pa_cons (pv 0) (pa_cons pe_int pa_nil))) (fun _ _ => rfl)))
    (pss_cons (ps_set (i := 3) scNet.nd rfl (Or.inl rfl) (pe_call GD hr1 rfl mD kD' bD .nil pass0 (pa_cons (pv 0) (pa_cons pe_int pa_nil))))
    (pss_cons (ps_set (i := 4) scNet.nd rfl (Or.inl rfl) (pe_lst pa_nil))
    (pss_cons (ps_for PassesOwn.never rfl (pi_list (pe_call GN hr rfl mN kN bN .nil pass0 (pa_cons (pv 0) (pa_cons (pv 1) pa_nil)))) (pg_name (i := 5) scNet.nd rfl (Or.inl rfl))
      (pss_one (ps_expr (pe_bm PySem.F.plainAttrs_list PySem.F.slot_list_append PySem.F.type_list_append mt_append (pv 4) (pa_cons (pe_tup (pa_cons (pv 5) (pa_cons
        (pe_op op_mod (pe_op op_add (pv 3) (pe_call GD hr1 rfl mD kD' bD .nil pass0 (pa_cons (pv 0) (pa_cons (pv 2) pa_nil)))) pe_int) (pa_cons
        (pe_op op_mod (pe_op op_add (pe_op op_mul pe_int (pv 3)) (pe_call GD hr1 rfl mD kD' bD .nil pass0 (pa_cons (pv 0) (pa_cons (pv 2) pa_nil)))) pe_int) pa_nil)))) pa_nil)))))
    (pss_one (ps_ret (pe_callTy call_tuple_of (by rfl) T.tuple (by decide +kernel) (pa_cons (pv 4) pa_nil))))))))), ?_⟩
  refine ⟨_, rfl, p, _, rfl, hp, (by decide), (by decide), fun m1 x1 y1 z1 w0 w1 => ?_⟩
  have b1 : But p H (upd H p (.lst [.int x1, .int y1, .int z1])) := But.set _
  have p1 : PenAt (upd H p (.lst [.int x1, .int y1, .int z1])) p := PenAt.put
  generalize upd H p (.lst [.int x1, .int y1, .int z1]) = H1 at b1 p1 ⊢
  refine ⟨fun σ H' => ∃ m : Int, 0 ≤ m ∧ m ≤ 60 ∧ σ = [some (.ref p), some (.int m), none, none, none, none] ∧ But p H H' ∧ PenAt H' p, ?_, ?_⟩
  · refine ⟨_, rfl, p, _, rfl, p1, (by decide), (by decide), fun m2 x2 y2 z2 _ _ => ?_⟩
    have b2 : But p H (upd H1 p (.lst [.int x2, .int y2, .int z2])) := b1.trans (But.set _)
    refine ⟨rfl, _, rfl, ite2 (fun _ => ?_) (fun _ => ?_)⟩
    · refine ⟨_, rfl, p, _, rfl, PenAt.put, (by decide), (by decide), fun m3 x3 y3 z3 _ _ => ?_⟩
      exact ⟨_, _, rfl, rfl, _, by omega, by omega, rfl, b2.trans (But.set _), PenAt.put⟩
    · exact ⟨_, w0, by omega, rfl, b2, PenAt.put⟩
  rintro σ H2 ⟨m, ml, mh, rfl, b2, p2⟩
  -- wide
  refine ⟨(by decide), fun L hL => ?_⟩
  have Lp : L ≠ p := p2.neq hL
  refine ⟨_, rfl, p, _, rfl, p2.new hL, (by decide), (by decide), fun m4 x4 y4 z4 c0 c1 => ?_⟩
  obtain ⟨wd, hw, wd0, wd1⟩ := wide_at c0 c1
  have b4 : But p H (upd (upd H2 L (.lst [.int 2, .int 4, .int 9, .int 31])) p (.lst [.int x4, .int y4, .int z4])) := (b2.new hL _).trans (But.set _)
  have p4 : PenAt (upd (upd H2 L (.lst [.int 2, .int 4, .int 9, .int 31])) p (.lst [.int x4, .int y4, .int z4])) p := PenAt.put
  refine ⟨L, _, _, _, rfl, rfl, SqL.of (by rw [upd_ne Lp]; exact upd_same), hw, ?_⟩
  generalize upd (upd H2 L (.lst [.int 2, .int 4, .int 9, .int 31])) p (.lst [.int x4, .int y4, .int z4]) = H4 at b4 p4 ⊢
  -- first
  refine ⟨_, rfl, p, _, rfl, p4, (by decide), (by decide), fun m5 x5 y5 z5 f0 f1 => ?_⟩
  have b5 : But p H (upd H4 p (.lst [.int x5, .int y5, .int z5])) := b4.trans (But.set _)
  have p5 : PenAt (upd H4 p (.lst [.int x5, .int y5, .int z5])) p := PenAt.put
  generalize upd H4 p (.lst [.int x5, .int y5, .int z5]) = H5 at b5 p5 ⊢
  refine ⟨(by decide), fun D hD => ?_⟩
  have Dp : D ≠ p := p5.neq hD
  have hD0 : H D = none := b5.free hD Dp
  have b6 := b5.new hD (.lst [])
  have p6 : PenAt (upd H5 D (.lst [])) p := p5.new hD
  refine ⟨_, rfl, _, rfl, p, m, rfl, p6, ml, mh, fun e ys H7 b7 p7 e0 h7 ny ly => ?_⟩
  have eD : e ≠ D := fun z => by rw [z, upd_same] at e0; cases e0
  have D7 : H7 D = some (.lst []) := b7 D _ Dp upd_same
  refine ⟨e, rfl, ⟨_, SqL.of h7⟩, for_list (K := K) (a := e) (xs := ys.map V.str) (fun i σ H' => (∃ y5, σ = [some (.ref p), some (.int m), some (.int wd), some (.int m5), some (.ref D), y5]) ∧ But p H H' ∧ PenAt H' p ∧ H' e = some (.lst (ys.map V.str)) ∧
      ∃ vs net, H' D = some (.lst vs) ∧ TupsAt H' vs (net.map rowV) ∧ net.map (·.1) = ys.take i ∧ InRange net)
    ⟨⟨_, rfl⟩, b6.trans b7, p7, h7, [], [], D7, .nil, rfl, fun k hk => by cases hk⟩ (fun i σ H' _ z => SqL.of z.2.2.2.1) ?_ ?_⟩
  · rintro i x σ H' hx ⟨⟨u5, rfl⟩, b8, p8, h8, vs, net, v8, t8, n8, r8⟩
    obtain ⟨nm, hnm, rfl⟩ : ∃ nm, ys[i]? = some nm ∧ x = V.str nm := by
      rw [List.getElem?_map] at hx
      cases z : ys[i]? with
      | none => rw [z] at hx; cases hx
      | some c => rw [z] at hx; exact ⟨c, rfl, (Option.some.inj hx).symm⟩
    have il : i < ys.length := (List.getElem?_eq_some_iff.mp hnm).1
    have nl : net.length ≤ i := by
      have := congrArg List.length n8
      rw [List.length_map, List.length_take] at this
      omega
    have vl := t8.len
    rw [List.length_map] at vl
    refine ⟨_, rfl, .inl ⟨rfl, _, SqL.of v8⟩, ?_⟩
    refine ⟨_, rfl, _, rfl, _, rfl, _, rfl, p, wd, rfl, p8, wd0, wd1, fun m9 x9 y9 z9 _ _ => ?_⟩
    refine ⟨_, _, rfl, rfl, _, _, rfl, rfl, (by show (0 : Int) < 31; decide), ?_⟩
    refine ⟨_, rfl, _, _, rfl, rfl, .inl ⟨by decide, by decide⟩, _, rfl, _, rfl, p, wd, rfl, PenAt.put, wd0, wd1, fun m10 x10 y10 z10 _ _ => ?_⟩
    refine ⟨_, _, rfl, rfl, _, _, rfl, rfl, (by show (0 : Int) < 31; decide), ?_⟩
    have b11 := (b8.trans (But.set (.lst [.int x9, .int y9, .int z9]))).trans (But.set (.lst [.int x10, .int y10, .int z10]))
    have k8 : Tk H' (upd (upd H' p (.lst [.int x9, .int y9, .int z9])) p (.lst [.int x10, .int y10, .int z10])) := fun b xs y => by
      have bp : b ≠ p := fun z => by
        obtain ⟨_, _, _, e9⟩ := p8
        rw [z, e9] at y
        cases y
      rw [upd_ne bp, upd_ne bp]
      exact y
    have p11 : PenAt (upd (upd H' p (.lst [.int x9, .int y9, .int z9])) p (.lst [.int x10, .int y10, .int z10])) p := PenAt.put
    have v11 : (upd (upd H' p (.lst [.int x9, .int y9, .int z9])) p (.lst [.int x10, .int y10, .int z10])) D = some (.lst vs) := by rw [upd_ne Dp, upd_ne Dp]; exact v8
    have ep : e ≠ p := fun z => by
      obtain ⟨_, _, _, e9⟩ := p6
      rw [z, e9] at e0
      cases e0
    have h11 : (upd (upd H' p (.lst [.int x9, .int y9, .int z9])) p (.lst [.int x10, .int y10, .int z10])) e = some (.lst (ys.map V.str)) := by rw [upd_ne ep, upd_ne ep]; exact h8
    generalize upd (upd H' p (.lst [.int x9, .int y9, .int z9])) p (.lst [.int x10, .int y10, .int z10]) = H11 at b11 p11 v11 h11 k8 ⊢
    refine ⟨(by show 3 ≤ sizeLine; decide), fun t ht => ?_⟩
    have v12 := same_new ht (.tup [.str nm, .int ((m5 + m9) % 31), .int ((5 * m5 + m10) % 31)]) _ _ v11
    refine ⟨D, vs, _, rfl, rfl, v12, small1000 (by omega), ⟨_, rfl⟩, (b11.new ht _).put hD0 _, (p11.new ht).ne Dp.symm, by rw [upd_ne eD]; exact same_new ht _ _ _ h11, vs ++ [.ref t], net ++ [(nm, (m5 + m9) % 31, (5 * m5 + m10) % 31)], upd_same, ?_, ?_, ?_⟩
    · exact (((t8.mono k8).mono (same_tk (same_new ht _))).snoc (t := t) (k := (nm, (m5 + m9) % 31, (5 * m5 + m10) % 31)) upd_same).mono (tk_put v12 _)
    · rw [List.map_append, n8, List.take_add_one, hnm]
      rfl
    · intro k hk
      rcases List.mem_append.mp hk with z | z
      · exact r8 k z
      · rw [List.mem_singleton.mp z]
        exact ⟨⟨Int.emod_nonneg _ (by decide), Int.emod_lt_of_pos _ (by decide)⟩, ⟨Int.emod_nonneg _ (by decide), Int.emod_lt_of_pos _ (by decide)⟩⟩
  · rintro σ H' ⟨⟨u5, rfl⟩, b8, p8, h8, vs, net, v8, t8, n8, r8⟩
    rw [List.length_map, List.take_of_length_le (Nat.le_refl _)] at n8
    refine ⟨_, rfl, D, vs, rfl, .inl ⟨SqL.of v8, fun l hl => ?_⟩⟩
    refine q l net _ (b8.new hl _) (p8.new hl) ⟨vs, upd_same, t8.mono (same_tk (same_new hl _))⟩ ⟨by rw [n8]; exact ny, ?_, r8⟩
    rw [← n8, List.length_map] at ly
    exact ly
end
end Uk
end
section
set_option linter.all false
set_option maxRecDepth 100000
set_option maxHeartbeats 4000000
namespace Uk
open PySem PySem.Spec PyProof.Rows L2 UkS
theorem inV_strs {m : Str} : ∀ {ms : List Str}, inV (.str m) (ms.map V.str) = decide (m ∈ ms)
  | [] => rfl
  | n :: r => by
    show (eqV (.str n) (.str m) || inV (.str m) (r.map V.str)) = _
    rw [inV_strs (ms := r)]
    show ((n == m) || _) = _
    by_cases e : n = m
    · subst e; simp
    · have : ¬ m = n := fun q => e q.symm
      simp [e, this]
theorem flat_strs (ms : List Str) : (ms.map V.str).all flatV = true := by
  rw [List.all_map]
  exact List.all_eq_true.mpr fun _ _ => rfl
theorem at3 {a b c r : Int} (h0 : 0 ≤ r) (h1 : r < 3) : ∃ z : Int, atI [V.int a, V.int b, V.int c] r = some (.int z) := by
  have : r = 0 ∨ r = 1 ∨ r = 2 := by omega
  rcases this with rfl | rfl | rfl
  · exact ⟨a, rfl⟩
  · exact ⟨b, rfl⟩
  · exact ⟨c, rfl⟩
theorem at2 {a b r : Int} (h0 : 0 ≤ r) (h1 : r < 2) : ∃ z : Int, atI [V.int a, V.int b] r = some (.int z) := by
  have : r = 0 ∨ r = 1 := by omega
  rcases this with rfl | rfl
  · exact ⟨a, rfl⟩
  · exact ⟨b, rfl⟩
section
variable {P : Program} {w : World} {K : PySem.W.Frag} {mg : Str → Option Value} {base : Heap}
/-! ### _law_met -/
abbrev sMet : Stmt := topS 30
abbrev nMet : List Str := ["_law_net_here", "_law_stream_here", "_law_marks", "_law_rows", "_law_columns", "_law_thing", "_law_known"]
theorem scMet : FnScope nMet ["_law_net_here", "_law_stream_here"] (defScope sMet) := ⟨rfl, rfl, rfl, by decide +kernel, rfl, by decide +kernel, by decide +kernel⟩
def spMet : Sp := fun vs H Q _ => ∃ (a b : Addr) (net : List Row) (st : List Thing), vs = [.ref a, .ref b] ∧ NetAt H a net ∧ StreamAt H b st ∧ net.length < 64 ∧ st.length ≤ 1000 ∧
  ∀ p H', Same H H' → CellsAt H' p (met net (marks st)) → Q (.ref p) H'
theorem ok_met {f : Addr} {fd : FuncData} (F : Fun K "_law_met" "_law_met" sMet f fd) (T : Txt mg) : FnOk P w K mg base CX0 1 f fd ["_law_net_here", "_law_stream_here"] spMet := by
  refine F.ok scMet (fun vs H Q E h => ?_) (fun cdv A' outer s H vs Q E hr h => ?_)
  · obtain ⟨a, b, net, st, rfl, _⟩ := h
    rfl
  obtain ⟨a, b, net, st, rfl, ⟨vs, h1, h2⟩, ⟨ws, g1, g2⟩, ln, ls, q⟩ := h
  have vl := h2.len
  have wl := g2.len
  rw [List.length_map] at vl wl
  refine ⟨_, pss_cons (ps_set (i := 2) scMet.nd rfl (Or.inr rfl) (pe_lc (own := [("_law_thing", 5)]) (g := gName 5) (tt := tYes) rfl scMet.nd (pi_list (pv 1)) (blkOk_by (N := nMet) (sc := defScope sMet) (by decide +kernel)) (fun _ _ _ _ _ => pg_name (i := 5) scMet.nd rfl (Or.inl rfl)) (fun _ _ _ _ _ => pts_nil)
      (fun _ _ _ _ _ => pe_ix (ix_tupK (K := K) rfl) (pv 5) pe_int (fun _ _ => rfl))))
    (pss_cons (ps_setLc (i := 3) (own := [("_law_known", 6)]) (g := gName 6) rfl scMet.nd rfl rfl (sw_true rfl rfl rfl (by decide +kernel)) (pi_tup (pv 0)) (blkOk_by (N := nMet) (sc := defScope sMet) (by decide +kernel)) (fun _ _ _ _ _ => pg_name (i := 6) scMet.nd rfl (Or.inl rfl))
      (fun _ _ _ _ _ => pts_one (pt_cmpR (op_in_seqK (K := K) rfl) (pe_ix (ix_tupK (K := K) rfl) (pv 6) pe_int (fun _ _ => rfl)) (pv 2) (by rfl)))
      (fun _ _ _ _ _ => pe_ix (ix_tupK (K := K) rfl) (pv 6) pe_int (fun _ _ => rfl)))
    (pss_cons (ps_setLc (i := 4) (own := [("_law_known", 6)]) (g := gName 6) rfl scMet.nd rfl rfl (sw_true rfl rfl rfl (by decide +kernel)) (pi_tup (pv 0)) (blkOk_by (N := nMet) (sc := defScope sMet) (by decide +kernel)) (fun _ _ _ _ _ => pg_name (i := 6) scMet.nd rfl (Or.inl rfl))
      (fun _ _ _ _ _ => pts_one (pt_cmpR (op_in_seqK (K := K) rfl) (pe_ix (ix_tupK (K := K) rfl) (pv 6) pe_int (fun _ _ => rfl)) (pv 2) (by rfl)))
      (fun _ _ _ _ _ => pe_ix (ix_tupK (K := K) rfl) (pv 6) pe_int (fun _ _ => rfl)))
    (pss_one (ps_ret (pe_tup (pa_cons (pe_callTy call_tuple_of (by rfl) T.tuple (by decide +kernel) (pa_cons (pe_callB (cr_sortedOfI rfl) (by rfl) T.sorted (by decide +kernel) (pa_cons (pe_callTy (cr_setOfI rfl) (by rfl) T.set (by decide +kernel) (pa_cons (pv 3) pa_nil)) pa_nil)) pa_nil))
      (pa_cons (pe_callTy call_tuple_of (by rfl) T.tuple (by decide +kernel) (pa_cons (pe_callB (cr_sortedOfI rfl) (by rfl) T.sorted (by decide +kernel) (pa_cons (pe_callTy (cr_setOfI rfl) (by rfl) T.set (by decide +kernel) (pa_cons (pv 4) pa_nil)) pa_nil)) pa_nil)) pa_nil))))))), ?_⟩
  -- marks
  refine ⟨_, rfl, b, rfl, ⟨_, SqL.of g1⟩, fun D hD => lc_list (K := K) (a := b) (xs := ws) (fun i H' => H' = upd H D (.lst (((marks st).take i).map V.str))) rfl (fun i H' _ z => ?_) ?_ ?_⟩
  · rw [z]
    exact SqL.of (same_new hD _ _ _ g1)
  · rintro i x H' hx rfl
    obtain ⟨t, k, rfl, hm, ht⟩ := g2.at hx
    have il : i < st.length := (List.getElem?_eq_some_iff.mp hm).1
    refine ⟨rfl, _, rfl, t, _, _, _, rfl, rfl, SqT.of (same_new hD _ _ _ ht), rfl, acc_end ?_ (take_map_succ (by unfold marks; rw [List.getElem?_map, hm]; rfl))⟩
    rw [List.length_map, List.length_take]
    exact small1000 (by omega)
  rintro H1 rfl
  have ml : (marks st).length = st.length := List.length_map _
  rw [List.take_of_length_le (by omega)]
  have s1 : Same H (upd H D (.lst ((marks st).map V.str))) := same_new hD _
  have r1 : (upd H D (.lst ((marks st).map V.str))) D = some (.lst ((marks st).map V.str)) := upd_same
  generalize upd H D (.lst ((marks st).map V.str)) = H1 at s1 r1 ⊢
  have h11 := s1 _ _ h1
  have h21 : TupsAt H1 vs (net.map rowV) := h2.mono (same_tk s1)
  have fl : ∀ i, ((net.take i).filter fun k => decide (k.1 ∈ marks st)).length ≤ net.length := fun i => by
    have z := List.length_filter_le (fun k : Row => decide (k.1 ∈ marks st)) (net.take i)
    rw [List.length_take] at z
    omega
  -- rows
  refine ⟨_, rfl, a, rfl, ⟨_, SqT.of h11⟩, fun D2 hD2 => lc_tup (K := K) (a := a) (xs := vs) (fun i H' => H' = upd H1 D2 (.lst (intsV (((net.take i).filter fun k => decide (k.1 ∈ marks st)).map (·.2.1))))) rfl (fun i H' _ z => ?_) ?_ ?_⟩
  · rw [z]
    exact SqT.of (same_new hD2 _ _ _ h11)
  · rintro i x H' hx rfl
    obtain ⟨t, k, rfl, hm, ht⟩ := h21.at hx
    have sn : Same H1 (upd H1 D2 (.lst (intsV (((net.take i).filter fun k => decide (k.1 ∈ marks st)).map (·.2.1))))) := same_new hD2 _
    refine ⟨rfl, _, rfl, t, _, _, _, rfl, rfl, SqT.of (sn _ _ ht), rfl, _, rfl, D, _, rfl, .inl (SqL.of (sn _ _ r1)), rfl, flat_strs _, _, rfl, ?_⟩
    show if (if false = true then _ else inV (V.str k.1) ((marks st).map V.str)) = true then _ else _
    rw [if_neg Bool.false_ne_true, inV_strs]
    by_cases c : k.1 ∈ marks st
    · rw [decide_eq_true c]
      refine iteT ⟨_, rfl, t, _, _, _, rfl, rfl, SqT.of (sn _ _ ht), rfl, acc_end ?_ ?_⟩
      · rw [int_list, List.length_map]
        exact small1000 (by have := fl i; omega)
      · rw [take_filter_succ hm (decide_eq_true c)]
        unfold intsV
        rw [List.map_append]
        rfl
    · rw [decide_eq_false c]
      refine iteF ?_
      rw [take_filter_same hm (decide_eq_false c)]
  rintro H2 rfl
  rw [show net.take vs.length = net from List.take_of_length_le (by omega)]
  have s2 : Same H1 (upd H1 D2 (.lst (intsV ((net.filter fun k => decide (k.1 ∈ marks st)).map (·.2.1))))) := same_new hD2 _
  have r2 : (upd H1 D2 (.lst (intsV ((net.filter fun k => decide (k.1 ∈ marks st)).map (·.2.1))))) D2 = some (.lst (intsV ((net.filter fun k => decide (k.1 ∈ marks st)).map (·.2.1)))) := upd_same
  generalize upd H1 D2 (.lst (intsV ((net.filter fun k => decide (k.1 ∈ marks st)).map (·.2.1)))) = H2 at s2 r2 ⊢
  have h12 := s2 _ _ h11
  have h22 : TupsAt H2 vs (net.map rowV) := h21.mono (same_tk s2)
  have r12 := s2 _ _ r1
  -- columns
  refine ⟨_, rfl, a, rfl, ⟨_, SqT.of h12⟩, fun D3 hD3 => lc_tup (K := K) (a := a) (xs := vs) (fun i H' => H' = upd H2 D3 (.lst (intsV (((net.take i).filter fun k => decide (k.1 ∈ marks st)).map (·.2.2))))) rfl (fun i H' _ z => ?_) ?_ ?_⟩
  · rw [z]
    exact SqT.of (same_new hD3 _ _ _ h12)
  · rintro i x H' hx rfl
    obtain ⟨t, k, rfl, hm, ht⟩ := h22.at hx
    have sn : Same H2 (upd H2 D3 (.lst (intsV (((net.take i).filter fun k => decide (k.1 ∈ marks st)).map (·.2.2))))) := same_new hD3 _
    refine ⟨rfl, _, rfl, t, _, _, _, rfl, rfl, SqT.of (sn _ _ ht), rfl, _, rfl, D, _, rfl, .inl (SqL.of (sn _ _ r12)), rfl, flat_strs _, _, rfl, ?_⟩
    show if (if false = true then _ else inV (V.str k.1) ((marks st).map V.str)) = true then _ else _
    rw [if_neg Bool.false_ne_true, inV_strs]
    by_cases c : k.1 ∈ marks st
    · rw [decide_eq_true c]
      refine iteT ⟨_, rfl, t, _, _, _, rfl, rfl, SqT.of (sn _ _ ht), rfl, acc_end ?_ ?_⟩
      · rw [int_list, List.length_map]
        exact small1000 (by have := fl i; omega)
      · rw [take_filter_succ hm (decide_eq_true c)]
        unfold intsV
        rw [List.map_append]
        rfl
    · rw [decide_eq_false c]
      refine iteF ?_
      rw [take_filter_same hm (decide_eq_false c)]
  rintro H3 rfl
  rw [show net.take vs.length = net from List.take_of_length_le (by omega)]
  have s3 : Same H2 (upd H2 D3 (.lst (intsV ((net.filter fun k => decide (k.1 ∈ marks st)).map (·.2.2))))) := same_new hD3 _
  have r3 : (upd H2 D3 (.lst (intsV ((net.filter fun k => decide (k.1 ∈ marks st)).map (·.2.2))))) D3 = some (.lst (intsV ((net.filter fun k => decide (k.1 ∈ marks st)).map (·.2.2)))) := upd_same
  generalize upd H2 D3 (.lst (intsV ((net.filter fun k => decide (k.1 ∈ marks st)).map (·.2.2)))) = H3 at s3 r3 ⊢
  have lr : ∀ g : Row → Int, ((net.filter fun k => decide (k.1 ∈ marks st)).map g).length < 64 := fun g => by
    have := List.length_filter_le (fun k : Row => decide (k.1 ∈ marks st)) net
    rw [List.length_map]
    omega
  have l1 := lr (·.2.1)
  have l2 := lr (·.2.2)
  have o1 := once_len ((net.filter fun k => decide (k.1 ∈ marks st)).map (·.2.1))
  have o2 := once_len ((net.filter fun k => decide (k.1 ∈ marks st)).map (·.2.2))
  refine ⟨_, rfl, D2, _, rfl, .inl (SqL.of (s3 _ _ r2)), by omega, fun p1 hp1 => ⟨p1, _, rfl, upd_same, by omega, fun ns p2 e1 e2 hp2 => ?_⟩⟩
  have en := up_once e1 e2
  subst en
  refine ⟨p2, _, rfl, .inl ⟨SqL.of upd_same, fun p3 hp3 => ?_⟩⟩
  refine ⟨_, rfl, D3, _, rfl, .inl (SqL.of (same_more (same_more (same_new hp1 _) hp2 _) hp3 _ _ _ r3)), by omega, fun p4 hp4 => ⟨p4, _, rfl, upd_same, by omega, fun ns p5 e1 e2 hp5 => ?_⟩⟩
  have en := up_once e1 e2
  subst en
  refine ⟨p5, _, rfl, .inl ⟨SqL.of upd_same, fun p6 hp6 => ?_⟩⟩
  refine ⟨(by show 2 ≤ sizeLine; decide), fun z hz => ?_⟩
  have g3 := same_more (same_more (same_more (same_new hp4 _) hp5 _) hp6 _) hz (.tup [.ref p3, .ref p6])
  have g0 := (same_more (same_more (same_more (same_more (same_more (same_new hp1 _) hp2 _) hp3 _) hp4 _) hp5 _) hp6 _).trans (same_new hz (.tup [.ref p3, .ref p6]))
  exact q z _ (((s1.trans s2).trans s3).trans g0) ⟨p3, p6, upd_same, g3 _ _ upd_same, same_new hz _ _ _ upd_same⟩
end
end Uk
end
section
set_option linter.all false
set_option maxRecDepth 100000
set_option maxHeartbeats 4000000
namespace Uk
open PySem PySem.Spec PyProof.Rows L2 UkS
section
variable {H H' : Hp} {p : Addr}
theorem refs_ne {a : Addr} {vs : List V} (h : PenAt H p) (e : H a = some (.lst vs)) (hr : ∀ v ∈ vs, ∃ b, v = V.ref b) : a ≠ p := fun z => by
  obtain ⟨x, y, z', w⟩ := h
  rw [z, w] at e
  have ev := HO.lst.inj (Option.some.inj e)
  subst ev
  obtain ⟨b, hb⟩ := hr _ List.mem_cons_self
  cases hb
theorem tups_refs {vs : List V} {rs : List (List V)} (h : TupsAt H vs rs) : ∀ v ∈ vs, ∃ b, v = V.ref b := fun v hv => by
  obtain ⟨i, hi⟩ := List.getElem?_of_mem hv
  obtain ⟨t, r, e, _⟩ := h.get i v hi
  exact ⟨t, e⟩
theorem StreamAt.ne {a : Addr} {st : List Thing} (h : StreamAt H a st) (hp : PenAt H p) : a ≠ p := by
  obtain ⟨vs, h1, h2⟩ := h
  exact refs_ne hp h1 (tups_refs h2)
theorem StreamAt.but {a : Addr} {st : List Thing} (h : StreamAt H a st) (hp : PenAt H p) (s : But p H H') : StreamAt H' a st := by
  have n := h.ne hp
  obtain ⟨vs, h1, h2⟩ := h
  exact ⟨vs, s _ _ n h1, h2.mono (tk_but s hp)⟩
theorem TreeAt.but (hp : PenAt H p) (s : But p H H') : ∀ {t : Tr} {a : Addr}, TreeAt H a t → TreeAt H' a t
  | .leaf _, _, h => StreamAt.but h hp s
  | .node _ _, _, ⟨b, c, h1, h2, h3⟩ => ⟨b, c, tk_but s hp _ _ h1, TreeAt.but hp s h2, TreeAt.but hp s h3⟩
theorem StreamsAt.but {as : List Addr} {ss : List (List Thing)} (h : StreamsAt H as ss) (hp : PenAt H p) (s : But p H H') : StreamsAt H' as ss := ⟨h.len, fun i a e => by
  obtain ⟨st, e1, e2⟩ := h.get i a e
  exact ⟨st, e1, StreamAt.but e2 hp s⟩⟩
theorem refs_list {as : List Addr} : ∀ v ∈ as.map V.ref, ∃ b, v = V.ref b := fun v hv => by
  obtain ⟨b, _, e⟩ := List.mem_map.mp hv
  exact ⟨b, e.symm⟩
theorem StreamsAt.take {as : List Addr} {ss : List (List Thing)} (h : StreamsAt H as ss) (k : Nat) : StreamsAt H (as.take k) (ss.take k) := ⟨by rw [List.length_take, List.length_take, h.len], fun i a e => by
  rw [List.getElem?_take] at e
  by_cases c : i < k
  · rw [if_pos c] at e
    obtain ⟨st, e1, e2⟩ := h.get i a e
    exact ⟨st, by rw [List.getElem?_take, if_pos c]; exact e1, e2⟩
  · rw [if_neg c] at e
    cases e⟩
theorem StreamsAt.drop {as : List Addr} {ss : List (List Thing)} (h : StreamsAt H as ss) (k : Nat) : StreamsAt H (as.drop k) (ss.drop k) := ⟨by rw [List.length_drop, List.length_drop, h.len], fun i a e => by
  rw [List.getElem?_drop] at e
  obtain ⟨st, e1, e2⟩ := h.get _ a e
  exact ⟨st, by rw [List.getElem?_drop]; exact e1, e2⟩⟩
theorem cut_to {as : List Addr} {k : Nat} : cutV (as.map V.ref) none (some (k : Int)) = (as.take k).map V.ref := by
  unfold cutV
  rw [HT.sIx_none, HT.sIx_nat, List.drop_zero, Nat.sub_zero, List.map_take]
  exact List.take_eq_take_min.symm
theorem cut_from {as : List Addr} {k : Nat} (h : k ≤ as.length) : cutV (as.map V.ref) (some (k : Int)) none = (as.drop k).map V.ref := by
  unfold cutV
  rw [HT.sIx_none, HT.sIx_nat, List.length_map, Nat.min_eq_left h, List.map_drop]
  exact List.take_of_length_le (by rw [List.length_drop, List.length_map]; omega)
end
section
variable {P : Program} {w : World} {K : PySem.W.Frag} {mg : Str → Option Value} {base : Heap}
/-! ### _law_tree -/
abbrev sTree : Stmt := topS 31
theorem scTree : FnScope ["_law_pen_here", "_law_streams", "_law_cut", "_law_one"] ["_law_pen_here", "_law_streams"] (defScope sTree) := ⟨rfl, rfl, rfl, by decide +kernel, rfl, by decide +kernel, by decide +kernel⟩
def spTree (n : Nat) : Sp := fun vs H Q _ => ∃ (p c : Addr) (as : List Addr) (ss : List (List Thing)), vs = [.ref p, .ref c] ∧ PenAt H p ∧ H c = some (.lst (as.map V.ref)) ∧ StreamsAt H as ss ∧ 0 < ss.length ∧ ss.length ≤ n ∧ n ≤ 1000 ∧
  ∀ (q : Addr) (t : Tr) (H' : Hp), But p H H' → PenAt H' p → TreeAt H' q t → t.streams = ss → t.depth < ss.length → Q (.ref q) H'
theorem ok_tree {n : Nat} {f : Addr} {fd : FuncData} (F : Fun K "_law_tree" "_law_tree" sTree f fd) (T : Txt mg) (DD : IsDef P w K mg base "_law_draw" 1 ["_law_pen_here", "_law_size"] spDraw) (G : FnOk P w K mg base CX0 (n + 2) f fd ["_law_pen_here", "_law_streams"] (spTree n))
    (mG : mg "_law_tree" = some (.ref f)) (kG : PySem.W.keepIn K (.ref f) = true) (bG : Binds K fd ["_law_pen_here", "_law_streams"] []) : FnOk P w K mg base CX0 (n + 3) f fd ["_law_pen_here", "_law_streams"] (spTree (n + 1)) := by
  obtain ⟨fD, fdD, GD, mD, kD', bD⟩ := DD
  refine F.ok scTree (fun vs H Q E h => ?_) (fun cdv A' outer s H vs Q E hr h => ?_)
  · obtain ⟨p, c, as, ss, rfl, _⟩ := h
    rfl
  obtain ⟨p, c, as, ss, rfl, hp, hc, hS, s0, s1, n1, q⟩ := h
  have hr1 := hr.mono (j := 1) (by omega)
  refine ⟨_, pss_cons (ps_if (pt_cmpR op_eq (pe_callB call_len_seq (by rfl) T.len PySem.boot_len (pa_cons (pv 1) pa_nil)) pe_int (nomark _))
      (pss_one (ps_ret (pe_callTy call_list_of (by rfl) T.list (by decide +kernel) (pa_cons (pe_ix ix_list (pv 1) pe_int (fun _ _ => rfl)) pa_nil)))) pss_nil)
    (pss_cons (ps_set (i := 2) scTree.nd rfl (Or.inl rfl) (pe_op op_add pe_int (pe_call GD hr1 rfl mD kD' bD .nil pass0 (pa_cons (pv 0) (pa_cons (pe_op op_sub (pe_callB call_len_seq (by rfl) T.len PySem.boot_len (pa_cons (pv 1) pa_nil)) pe_int) pa_nil)))))
    (pss_cons (ps_set (i := 3) scTree.nd rfl (Or.inl rfl) (pe_call G hr rfl mG kG bG .nil pass0 (pa_cons (pv 0) (pa_cons (pe_slice sl_list (pv 1) po_none (po_some (pv 2))) pa_nil))))
    (pss_one (ps_ret (pe_tup (pa_cons pe_str (pa_cons (pv 3) (pa_cons (pe_call G hr rfl mG kG bG .nil pass0 (pa_cons (pv 0) (pa_cons (pe_slice sl_list (pv 1) (po_some (pv 2)) po_none) pa_nil))) pa_nil)))))))), ?_⟩
  have la := hS.len
  have lv : (as.map V.ref).length = as.length := List.length_map _
  have cp : c ≠ p := refs_ne hp hc refs_list
  refine ⟨_, rfl, c, _, rfl, .inl (SqL.of hc), rfl, _, rfl, ite2 (fun e => ?_) (fun e => ?_)⟩
  · have e1 : as.length = 1 := by
      have e2 := of_decide_eq_true e
      injection e2 with e3
      rw [lv] at e3
      omega
    obtain ⟨a, rfl⟩ : ∃ a, as = [a] := by
      cases as with
      | nil => simp at e1
      | cons a r => cases r with
        | nil => exact ⟨a, rfl⟩
        | cons b r => simp at e1
    obtain ⟨st, g1, vs, g2, g3⟩ := hS.get 0 a rfl
    refine ⟨_, rfl, c, _, _, _, rfl, rfl, SqL.of hc, rfl, a, vs, rfl, .inl (SqL.of g2), fun l hl => ?_⟩
    refine q l (.leaf st) _ (same_but (same_new hl _)) (hp.new hl) ⟨vs, upd_same, g3.mono (same_tk (same_new hl _))⟩ ?_ s0
    cases ss with
    | nil => simp at s0
    | cons z r =>
      cases r with
      | nil => have ez : z = st := Option.some.inj g1; rw [ez]; rfl
      | cons y r => rw [← la] at s1; simp at la
  · have n2 : 2 ≤ as.length := by
      have e2 : ¬ ((as.map V.ref).length : Int) = 1 := fun z => e (decide_eq_true (by rw [z]))
      rw [lv] at e2
      omega
    refine ⟨_, rfl, _, rfl, c, _, rfl, .inl (SqL.of hc), _, _, rfl, rfl, p, _, rfl, hp, ?_, ?_, fun r x y z r0 r1 => ?_⟩
    · show (0 : Int) < (((as.map V.ref).length : Nat) : Int) - 1
      rw [lv]; omega
    · show (((as.map V.ref).length : Nat) : Int) - 1 < 1073741824
      rw [lv]; omega
    have r1' : r < (((as.map V.ref).length : Nat) : Int) - 1 := r1
    rw [lv] at r1'
    have b1 : But p H (upd H p (.lst [.int x, .int y, .int z])) := But.set _
    have p1 : PenAt (upd H p (.lst [.int x, .int y, .int z])) p := PenAt.put
    have c1 := b1 _ _ cp hc
    have S1 := hS.but hp b1
    generalize upd H p (.lst [.int x, .int y, .int z]) = H1 at b1 p1 c1 S1 ⊢
    obtain ⟨k, rfl⟩ : ∃ k : Nat, r = (k : Int) := ⟨r.toNat, by omega⟩
    have ek : (1 : Int) + (k : Int) = ((1 + k : Nat) : Int) := by omega
    refine ⟨_, _, rfl, rfl, _, rfl, _, rfl, _, rfl, _, rfl, c, _, rfl, SqL.of c1, fun d hd => ?_⟩
    rw [ek, cut_to]
    have lt : (ss.take (1 + k)).length = 1 + k := by rw [List.length_take]; omega
    refine ⟨p, d, _, ss.take (1 + k), rfl, p1.new hd, upd_same, (S1.take _).mono (same_new hd _), by omega, by omega, by omega, fun q1 t1 H2 b2 p2 T2 e2 d2 => ?_⟩
    have b12 := (b1.new hd (.lst ((as.take (1 + k)).map V.ref))).trans b2
    have c2 := b12 _ _ cp hc
    have S2 := hS.but hp b12
    refine ⟨_, rfl, _, rfl, _, rfl, _, rfl, _, rfl, c, _, rfl, SqL.of c2, fun d' hd' => ?_⟩
    rw [ek, cut_from (by omega)]
    have ld : (ss.drop (1 + k)).length = ss.length - (1 + k) := List.length_drop
    refine ⟨p, d', _, ss.drop (1 + k), rfl, p2.new hd', upd_same, (S2.drop _).mono (same_new hd' _), by omega, by omega, by omega, fun q2 t2 H3 b3 p3 T3 e3 d3 => ?_⟩
    have b23 := (same_but (p := p) (same_new hd' (.lst ((as.drop (1 + k)).map V.ref)))).trans b3
    have T23 := TreeAt.but p2 b23 T2
    refine ⟨(by show 3 ≤ sizeLine; decide), fun o ho => ?_⟩
    refine q o (.node t1 t2) _ ((b12.trans b23).new ho _) (p3.new ho) ⟨q1, q2, upd_same, TreeAt.mono (same_new ho _) T23, TreeAt.mono (same_new ho _) T3⟩ ?_ ?_
    · show t1.streams ++ t2.streams = ss
      rw [e2, e3, List.take_append_drop]
    · show max t1.depth t2.depth + 1 < ss.length
      omega
theorem all_tree {f : Addr} {fd : FuncData} (F : Fun K "_law_tree" "_law_tree" sTree f fd) (T : Txt mg) (DD : IsDef P w K mg base "_law_draw" 1 ["_law_pen_here", "_law_size"] spDraw)
    (mG : mg "_law_tree" = some (.ref f)) (kG : PySem.W.keepIn K (.ref f) = true) (bG : Binds K fd ["_law_pen_here", "_law_streams"] []) : ∀ n, FnOk P w K mg base CX0 (n + 2) f fd ["_law_pen_here", "_law_streams"] (spTree n)
  | 0 => by
    have no : ∀ vs H Q E, ¬ spTree 0 vs H Q E := fun vs H Q E ⟨p, c, as, ss, _, _, _, _, a, b, _⟩ => by omega
    exact ⟨fun vs H Q E h => absurd h (no vs H Q E), fun A outer s H args us vs Q E _ _ _ _ h => absurd h (no vs H Q E)⟩
  | n + 1 => ok_tree F T DD (all_tree F T DD mG kG bG n) mG kG bG
end
end Uk
end
section
set_option linter.all false
set_option maxRecDepth 100000
set_option maxHeartbeats 4000000
namespace Uk
open PySem PySem.Spec PyProof.Rows L2 UkS
/-- the state within the loop -/
structure StJ (p D a : Addr) (H : Hp) (net : List Row) (vs : List V) (st : List Thing) (H' : Hp) : Prop where
  b : But p H H'
  p : PenAt H' p
  d : H' D = some (.lst vs)
  t : TupsAt H' vs (st.map thV)
  n : NetAt H' a net
section
variable {p D a : Addr} {H H' : Hp} {net : List Row} {vs : List V} {st : List Thing}
theorem StJ.draw (J : StJ p D a H net vs st H') (Dp : D ≠ p) (x y z : Int) : StJ p D a H net vs st (upd H' p (.lst [.int x, .int y, .int z])) :=
  ⟨J.b.trans (But.set _), PenAt.put, by rw [upd_ne Dp]; exact J.d, J.t.mono (tk_but (But.set _) J.p), J.n.mono (tk_but (But.set _) J.p)⟩
theorem StJ.new (J : StJ p D a H net vs st H') {q : Addr} (hq : H' q = none) (o : HO) : StJ p D a H net vs st (upd H' q o) :=
  ⟨J.b.new hq _, J.p.new hq, same_new hq _ _ _ J.d, J.t.mono (same_tk (same_new hq _)), J.n.mono (same_tk (same_new hq _))⟩
end
section
variable {P : Program} {w : World} {K : PySem.W.Frag} {mg : Str → Option Value} {base : Heap}
/-! ### _law_stream -/
abbrev sStream : Stmt := topS 29
abbrev nStream : List Str := ["_law_pen_here", "_law_net_here", "_law_most", "_law_stream_here", "_law_k", "_law_mark", "_law_number", "_law_many"]
theorem scStream : FnScope nStream ["_law_pen_here", "_law_net_here", "_law_most"] (defScope sStream) := ⟨rfl, rfl, rfl, by decide +kernel, rfl, by decide +kernel, by decide +kernel⟩
def spStream : Sp := fun vs H Q _ => ∃ (p a : Addr) (net : List Row) (most : Int), vs = [.ref p, .ref a, .int most] ∧ PenAt H p ∧ NetAt H a net ∧ net.length ≤ 60 ∧ 0 ≤ most ∧ most ≤ 5 ∧
  ∀ (b : Addr) (st : List Thing) (H' : Hp), But p H H' → PenAt H' p → H b = none → StreamAt H' b st → st.length ≤ 5 → Known net (marks st) → Q (.ref b) H'
theorem ok_stream {f : Addr} {fd : FuncData} (F : Fun K "_law_stream" "_law_stream" sStream f fd) (T : Txt mg) (DD : IsDef P w K mg base "_law_draw" 1 ["_law_pen_here", "_law_size"] spDraw) : FnOk P w K mg base CX0 2 f fd ["_law_pen_here", "_law_net_here", "_law_most"] spStream := by
  obtain ⟨fD, fdD, GD, mD, kD', bD⟩ := DD
  refine F.ok scStream (fun vs H Q E h => ?_) (fun cdv A' outer s H vs Q E hr h => ?_)
  · obtain ⟨p, a, net, most, rfl, _⟩ := h
    rfl
  obtain ⟨p, a, net, most, rfl, hp, hN, nl, m0, m1, q⟩ := h
  refine ⟨_, pss_cons (ps_set (i := 3) scStream.nd rfl (Or.inl rfl) (pe_lst pa_nil))
    (pss_cons (ps_for PassesOwn.never rfl (pi_range1 (by rfl) T.range (pa_cons (pe_op op_mul (pe_call GD hr rfl mD kD' bD .nil pass0 (pa_cons (pv 0) (pa_cons (pe_op op_add (pv 2) pe_int) pa_nil)))
        (pe_callTy call_int1 (by rfl) T.int (by decide +kernel) (pa_cons (pe_cmpR (op_neP hr.units) (pv 1) (pe_tup pa_nil) (nomark _)) pa_nil))) pa_nil)) (pg_name (i := 4) scStream.nd rfl (Or.inl rfl))
      (pss_cons (ps_set (i := 5) scStream.nd rfl (Or.inl rfl) (pe_ix ix_tup (pe_ix ix_tup (pv 1) (pe_call GD hr rfl mD kD' bD .nil pass0 (pa_cons (pv 0) (pa_cons (pe_callB call_len_seq (by rfl) T.len PySem.boot_len (pa_cons (pv 1) pa_nil)) pa_nil))) (fun _ _ => rfl)) pe_int (fun _ _ => rfl)))
      (pss_cons (ps_set (i := 6) scStream.nd rfl (Or.inl rfl) (pe_op op_mul (pe_call GD hr rfl mD kD' bD .nil pass0 (pa_cons (pv 0) (pa_cons pe_int pa_nil))) (pe_ix ix_list (pe_lst (pa_cons pe_int (pa_cons pe_int (pa_cons (pe_op op_pow pe_int pe_int) pa_nil)))) (pe_call GD hr rfl mD kD' bD .nil pass0 (pa_cons (pv 0) (pa_cons pe_int pa_nil))) (fun _ _ => rfl))))
      (pss_cons (ps_set (i := 7) scStream.nd rfl (Or.inl rfl) (pe_op op_add pe_int (pe_op op_mul (pe_call GD hr rfl mD kD' bD .nil pass0 (pa_cons (pv 0) (pa_cons pe_int pa_nil))) (pe_ix ix_list (pe_lst (pa_cons pe_int (pa_cons (pe_op op_pow pe_int pe_int) pa_nil))) (pe_call GD hr rfl mD kD' bD .nil pass0 (pa_cons (pv 0) (pa_cons pe_int pa_nil))) (fun _ _ => rfl)))))
      (pss_one (ps_expr (pe_bm PySem.F.plainAttrs_list PySem.F.slot_list_append PySem.F.type_list_append mt_append (pv 3) (pa_cons (pe_tup (pa_cons (pe_call GD hr rfl mD kD' bD .nil pass0 (pa_cons (pv 0) (pa_cons pe_int pa_nil))) (pa_cons (pv 5) (pa_cons (pv 6) (pa_cons (pv 7) pa_nil))))) pa_nil))))))))
    (pss_one (ps_ret (pv 3)))), ?_⟩
  refine ⟨(by decide), fun D hD => ?_⟩
  have Dp : D ≠ p := hp.neq hD
  have b1 : But p H (upd H D (.lst [])) := same_but (same_new hD _)
  have p1 : PenAt (upd H D (.lst [])) p := hp.new hD
  refine ⟨_, rfl, _, rfl, _, _, rfl, rfl, p, _, rfl, p1, (by show (0 : Int) < most + 1; omega), (by show most + 1 < (1073741824 : Int); omega), fun r x y z r0 r1 => ?_⟩
  have r1' : r < most + 1 := r1
  have b2 : But p H (upd (upd H D (.lst [])) p (.lst [.int x, .int y, .int z])) := b1.trans (But.set _)
  have p2 : PenAt (upd (upd H D (.lst [])) p (.lst [.int x, .int y, .int z])) p := PenAt.put
  have D2 : (upd (upd H D (.lst [])) p (.lst [.int x, .int y, .int z])) D = some (.lst []) := by rw [upd_ne Dp]; exact upd_same
  generalize upd (upd H D (.lst [])) p (.lst [.int x, .int y, .int z]) = H2 at b2 p2 D2 ⊢
  refine ⟨_, rfl, (by decide), fun e he => ?_⟩
  have N3 : NetAt (upd H2 e (.tup [])) a net := (hN.mono (tk_but b2 hp)).mono (same_tk (same_new he _))
  refine ⟨netD net, .tuple [], dp_net N3, .tup (SqT.of upd_same) .nil, netD_pl net, nil_plT, .inr ⟨_, rfl, ?_⟩⟩
  obtain ⟨n, en, n0, n5, nn⟩ : ∃ n : Int, r * (if (!PyData.eqv (netD net) (.tuple [])) = true then (1 : Int) else 0) = n ∧ 0 ≤ n ∧ n ≤ 5 ∧ (0 < n → net ≠ []) := by
    cases net with
    | nil =>
      refine ⟨0, ?_, by decide, by decide, fun z => absurd z (by decide)⟩
      rw [if_neg (by simp [netD, PyData.eqv, PyData.eqvAll])]
      exact Int.mul_zero r
    | cons k l =>
      refine ⟨r, ?_, r0, by omega, fun _ z => by cases z⟩
      rw [if_pos (by simp [netD, PyData.eqv, PyData.eqvAll])]
      exact Int.mul_one r
  refine ⟨_, _, rfl, rfl, .inl ⟨by omega, by omega⟩, _, rfl, ?_⟩
  rw [en]
  refine ⟨by omega, by omega, for_range (fun i σ H' => (∃ y4 y5 y6 y7, σ = [some (.ref p), some (.ref a), some (.int most), some (.ref D), y4, y5, y6, y7]) ∧ ∃ vs st, StJ p D a H net vs st H' ∧ st.length = i ∧ Known net (marks st))
    ⟨⟨_, _, _, _, rfl⟩, [], [], ⟨b2.new he _, p2.new he, same_new he _ _ _ D2, .nil, N3⟩, rfl, fun m hm => by cases hm⟩ ?_ ?_⟩
  · rintro i σ H4 hi ⟨⟨u4, u5, u6, u7, rfl⟩, vs, st, J, ls, kn⟩
    have ne : net ≠ [] := nn (by omega)
    have np : 0 < net.length := List.length_pos_iff.mpr ne
    -- mark
    obtain ⟨ns, a1, a2⟩ := J.n
    have al := a2.len
    rw [List.length_map] at al
    refine ⟨_, rfl, _, rfl, _, rfl, a, ns, rfl, .inr (SqT.of a1), p, _, rfl, J.p, (by show (0 : Int) < ((ns.length : Nat) : Int); omega), (by show ((ns.length : Nat) : Int) < 1073741824; omega), fun m x5 y5 z5 c0 c1 => ?_⟩
    have c1' : m < ((ns.length : Nat) : Int) := c1
    have J5 := J.draw Dp x5 y5 z5
    obtain ⟨ns', a1', a2'⟩ := J5.n
    have en : ns' = ns := by
      have ap : a ≠ p := fun z => by
        obtain ⟨_, _, _, e9⟩ := J.p
        rw [z, e9] at a1
        cases a1
      rw [upd_ne ap, a1] at a1'
      exact (HO.tup.inj (Option.some.inj a1')).symm
    subst en
    obtain ⟨j, rfl⟩ : ∃ j : Nat, m = (j : Int) := ⟨m.toNat, by omega⟩
    have hj : j < ns'.length := by omega
    have hx := List.getElem?_eq_getElem hj
    obtain ⟨t, k, ek, hk, ht⟩ := a2'.at hx
    rw [ek] at hx
    refine ⟨a, _, _, _, rfl, rfl, SqT.of a1', atI_nat hx, t, _, _, _, rfl, rfl, SqT.of ht, rfl, ?_⟩
    generalize upd H4 p (.lst [.int x5, .int y5, .int z5]) = H5 at J5 ⊢
    have kin : k ∈ net := List.mem_of_getElem? hk
    -- number
    refine ⟨_, rfl, p, _, rfl, J5.p, (by decide), (by decide), fun n6 x6 y6 z6 d0 d1 => ?_⟩
    have J6 := J5.draw Dp x6 y6 z6
    generalize upd H5 p (.lst [.int x6, .int y6, .int z6]) = H6 at J6 ⊢
    refine ⟨_, _, rfl, rfl, ⟨by decide, by decide, by decide⟩, (by decide), fun L hL => ?_⟩
    have Lp : L ≠ p := J6.p.neq hL
    have J7 := J6.new hL (.lst [.int 1, .int 1, .int (10 ^ (26 : Int).toNat)])
    refine ⟨_, rfl, p, _, rfl, J7.p, (by decide), (by decide), fun n8 x8 y8 z8 e0 e1 => ?_⟩
    obtain ⟨v, hv⟩ := at3 (a := 1) (b := 1) (c := 10 ^ (26 : Int).toNat) e0 e1
    have J8 := J7.draw Dp x8 y8 z8
    refine ⟨L, _, _, _, rfl, rfl, SqL.of (by rw [upd_ne Lp]; exact upd_same), hv, ?_⟩
    generalize upd (upd H6 L (.lst [.int 1, .int 1, .int (10 ^ (26 : Int).toNat)])) p (.lst [.int x8, .int y8, .int z8]) = H8 at J8 ⊢
    refine ⟨_, _, rfl, rfl, .inl ⟨by omega, by omega⟩, ?_⟩
    -- many
    refine ⟨_, rfl, p, _, rfl, J8.p, (by decide), (by decide), fun n9 x9 y9 z9 f0 f1 => ?_⟩
    have J9 := J8.draw Dp x9 y9 z9
    generalize upd H8 p (.lst [.int x9, .int y9, .int z9]) = H9 at J9 ⊢
    refine ⟨_, _, rfl, rfl, ⟨by decide, by decide, by decide⟩, (by decide), fun L2 hL2 => ?_⟩
    have Lp2 : L2 ≠ p := J9.p.neq hL2
    have J10 := J9.new hL2 (.lst [.int 1, .int (10 ^ (28 : Int).toNat)])
    refine ⟨_, rfl, p, _, rfl, J10.p, (by decide), (by decide), fun n11 x11 y11 z11 g0 g1 => ?_⟩
    obtain ⟨v2, hv2⟩ := at2 (a := 1) (b := 10 ^ (28 : Int).toNat) g0 g1
    have J11 := J10.draw Dp x11 y11 z11
    refine ⟨L2, _, _, _, rfl, rfl, SqL.of (by rw [upd_ne Lp2]; exact upd_same), hv2, ?_⟩
    generalize upd (upd H9 L2 (.lst [.int 1, .int (10 ^ (28 : Int).toNat)])) p (.lst [.int x11, .int y11, .int z11]) = H11 at J11 ⊢
    refine ⟨_, _, rfl, rfl, .inl ⟨by omega, by omega⟩, _, _, rfl, rfl, ?_⟩
    -- append
    refine ⟨_, rfl, .inl ⟨rfl, _, SqL.of J11.d⟩, _, rfl, p, _, rfl, J11.p, (by decide), (by decide), fun n12 x12 y12 z12 _ _ => ?_⟩
    have J12 := J11.draw Dp x12 y12 z12
    generalize upd H11 p (.lst [.int x12, .int y12, .int z12]) = H12 at J12 ⊢
    refine ⟨_, rfl, _, rfl, _, rfl, (by show 4 ≤ sizeLine; decide), fun o ho => ?_⟩
    have J13 := J12.new ho (.tup [.int n12, .str k.1, .int (n6 * v), .int (1 + n9 * v2)])
    have lv := J12.t.len
    rw [List.length_map] at lv
    refine ⟨D, vs, _, rfl, rfl, J13.d, small1000 (by omega), ⟨_, _, _, _, rfl⟩, vs ++ [.ref o], st ++ [(n12, k.1, n6 * v, 1 + n9 * v2)], ⟨J13.b.put hD _, J13.p.ne Dp.symm, upd_same, ?_, J13.n.mono (tk_put J13.d _)⟩, ?_, ?_⟩
    · exact (J13.t.snoc (t := o) (k := (n12, k.1, n6 * v, 1 + n9 * v2)) upd_same).mono (tk_put J13.d _)
    · rw [List.length_append, ls]; rfl
    · intro m' hm'
      unfold marks at hm'
      rw [List.map_append] at hm'
      rcases List.mem_append.mp hm' with z | z
      · exact kn m' z
      · rw [List.mem_singleton.mp z]
        exact ⟨k.2, kin⟩
  · rintro σ H4 ⟨⟨u4, u5, u6, u7, rfl⟩, vs, st, J, ls, kn⟩
    exact ⟨_, rfl, q D st H4 J.b J.p hD ⟨vs, J.d, J.t⟩ (by omega) kn⟩
end
end Uk
end
section
set_option linter.all false
set_option maxRecDepth 100000
set_option maxHeartbeats 4000000
namespace Uk
open PySem PySem.Spec PyProof.Rows L2 UkS
theorem both {H H' : Hp} {p : Addr} (s : Same H H') (h : H' p = none) (o : HO) : ∃ H2, H2 = upd H' p o ∧ Same H H2 ∧ H2 p = some o := ⟨_, rfl, same_more s h o, upd_same⟩
theorem room65 {k : Nat} {A : Around} (r : Room k A) : A.units + 65 < cLine := by
  have := r.un
  omega
theorem met_join {net : List Row} {a b : List Str} : (up ((met net a).1 ++ (met net b).1), up ((met net a).2 ++ (met net b).2)) = met net (a ++ b) := Prod.ext met1_join met2_join
theorem met1_few {net : List Row} (h : InRange net) (ms : List Str) : (met net ms).1.length ≤ 31 := nd_bound (rise_nd (met1_rise _ _)) fun r hr => by
  obtain ⟨k, h1, _, rfl⟩ := mem_met1.mp hr
  have := (h k h1).1
  omega
theorem met2_few {net : List Row} (h : InRange net) (ms : List Str) : (met net ms).2.length ≤ 31 := nd_bound (rise_nd (met2_rise _ _)) fun r hr => by
  obtain ⟨k, h1, _, rfl⟩ := mem_met2.mp hr
  have := (h k h1).2
  omega
theorem marks_app {a b : List Thing} : marks (a ++ b) = marks a ++ marks b := List.map_append
def grD (c : List Int × List Int) (n m : Nat) : PyData := .tuple [cellsD c, .int n, .int m]
theorem grD_lay (c : List Int × List Int) (n m : Nat) : (grD c n m).canLay0 = true := by simp [grD, PyData.canLay0, PyData.canLayAll0, cells_lay]
theorem grD_depth (c : List Int × List Int) (n m : Nat) : (grD c n m).depth ≤ 9 := by
  have := cells_depth c
  simp only [grD, PyData.depth, PyData.depthAll]
  omega
theorem grD_pl (c : List Int × List Int) (n m : Nat) : SeqAt.shaped (grD c n m) = true := by
  have := grD_depth c n m
  unfold SeqAt.shaped
  rw [grD_lay, decide_eq_true (by omega : (grD c n m).depth ≤ 64)]
  rfl
theorem cells_pl (c : List Int × List Int) : Pl (cellsD c) := ⟨PyData.plain_of_canLay0 _ (cells_lay c), by have := cells_depth c; omega⟩
/-- what one branch of the tree gave -/
def GrAt (H : Hp) (b : Addr) (net : List Row) (ms : List Str) (n m : Nat) : Prop := ∃ ca, H b = some (.tup [.ref ca, .int (n : Int), .int (m : Int)]) ∧ CellsAt H ca (met net ms) ∧
  IsFew (edges net) (met net ms).1 (met net ms).2 n ∧ m = (openOf net (met net ms).1 (met net ms).2).length
theorem GrAt.mono {H H' : Hp} {b : Addr} {net : List Row} {ms : List Str} {n m : Nat} (h : GrAt H b net ms n m) (k : Tk H H') : GrAt H' b net ms n m := by
  obtain ⟨ca, h1, h2, h3⟩ := h
  exact ⟨ca, k _ _ h1, h2.mono k, h3⟩
theorem dp_gr {K : PySem.W.Frag} {H : Hp} {b : Addr} {net : List Row} {ms : List Str} {n m : Nat} (h : GrAt H b net ms n m) : Dp K H (.ref b) (grD (met net ms) n m) := by
  obtain ⟨ca, h1, h2, _⟩ := h
  exact .tup (SqT.of h1) (.cons (dp_cells h2) (.cons (.int _) (.cons (.int _) .nil)))
def Below (H : Hp) (net : List Row) (ms : List Str) (v : V) : Prop := ∃ b ms' n m, v = V.ref b ∧ GrAt H b net ms' n m ∧ ∀ x ∈ ms', x ∈ ms
section
variable {P : Program} {w : World} {K : PySem.W.Frag} {mg : Str → Option Value} {base : Heap}
/-! ### _law_grown -/
abbrev sGrown : Stmt := topS 33
abbrev nGrown : List Str := ["_law_pen_here", "_law_net_here", "_law_tree_here", "_law_below", "_law_cells", "_law_seen", "_law_marks", "_law_few", "_law_every", "_law_spots", "_law_one", "_law_thing", "_law_mark"]
abbrev pGrown : List Str := ["_law_pen_here", "_law_net_here", "_law_tree_here"]
theorem scGrown : FnScope nGrown pGrown (defScope sGrown) := ⟨rfl, rfl, rfl, by decide +kernel, rfl, by decide +kernel, by decide +kernel⟩
def spGrown (n : Nat) : Sp := fun vs H Q _ => ∃ (p a b : Addr) (net : List Row) (t : Tr), vs = [.ref p, .ref a, .ref b] ∧ PenAt H p ∧ NetAt H a net ∧ NetOk net ∧ TreeAt H b t ∧ t.depth < n ∧ n ≤ 9 ∧ t.streams.length ≤ 1000 ∧ t.all.length < 64 ∧ Known net (marks t.all) ∧
  ∀ (q : Addr) (k m : Nat) (H' : Hp), But p H H' → PenAt H' p → GrAt H' q net (marks t.all) k m → Q (.ref q) H'
theorem ok_grown {n : Nat} {f : Addr} {fd : FuncData} (F : Fun K "_law_grown" "_law_grown" sGrown f fd) (T : Txt mg) (G : FnOk P w K mg base CX0 (n + 12) f fd pGrown (spGrown n))
    (mG : mg "_law_grown" = some (.ref f)) (kG : PySem.W.keepIn K (.ref f) = true) (bG : Binds K fd pGrown [])
    (DD : IsDef P w K mg base "_law_draw" 1 ["_law_pen_here", "_law_size"] spDraw) (DC : IsDef P w K mg base "cells_of" 2 ["net", "stream"] spCellsOf) (DM : IsDef P w K mg base "merged_cells" 2 ["one", "other"] spMerged)
    (DA : IsDef P w K mg base "_law_all" 10 ["_law_tree_here"] (spAll 10)) (DS : IsDef P w K mg base "stream_of" 11 ["tree"] spStreamOf) (DT : IsDef P w K mg base "_law_met" 1 ["_law_net_here", "_law_stream_here"] spMet)
    (DU : IsDef P w K mg base "unlike_in" 1 ["stream"] spUnlike) (DB : IsDef P w K mg base "unlike_by" 3 ["net", "cells"] spUnlikeBy) : FnOk P w K mg base CX0 (n + 13) f fd pGrown (spGrown (n + 1)) := by
  obtain ⟨fD, fdD, GD, mD, kD', bD⟩ := DD
  obtain ⟨fC, fdC, GC, mC, kC, bC⟩ := DC
  obtain ⟨fM, fdM, GM, mM, kM, bM⟩ := DM
  obtain ⟨fA, fdA, GA, mA, kA, bA⟩ := DA
  obtain ⟨fS, fdS, GS, mS, kS, bS⟩ := DS
  obtain ⟨fT, fdT, GT, mT, kT, bT⟩ := DT
  obtain ⟨fU, fdU, GU, mU, kU, bU⟩ := DU
  obtain ⟨fB, fdB, GB, mB, kB, bB⟩ := DB
  refine F.ok scGrown (fun vs H Q E h => ?_) (fun cdv A' outer s H vs Q E hr h => ?_)
  · obtain ⟨p, a, b, net, t, rfl, _⟩ := h
    rfl
  obtain ⟨p, a, b, net, t, rfl, hp, hN, ok, hT, hd, n9, hs, hl, hk, q⟩ := h
  have hr1 := hr.mono (j := 1) (by omega)
  have hr2 := hr.mono (j := 2) (by omega)
  have hr3 := hr.mono (j := 3) (by omega)
  have hr10 := hr.mono (j := 10) (by omega)
  have hr11 := hr.mono (j := 11) (by omega)
  have h65 := room65 hr
  refine ⟨_, C8.pss_cut (ps_if (pt_val (pe_callB call_isi (by rfl) T.isinstance PyProof.Rows.boot_isinstance (pa_cons (pv 2) (pa_cons (pe_bltn (v := .ty "list") (by rfl) T.list (by decide +kernel) rfl) pa_nil))))
      (pss_cons (ps_set (i := 3) scGrown.nd rfl (Or.inl rfl) (pe_lst pa_nil))
        (pss_one (ps_set (i := 4) scGrown.nd rfl (Or.inl rfl) (pe_call GC hr2 rfl mC kC bC .nil pass0 (pa_cons (pv 1) (pa_cons (pv 2) pa_nil))))))
      (pss_cons (ps_set (i := 3) scGrown.nd rfl (Or.inl rfl) (pe_lst (pa_cons (pe_call G hr rfl mG kG bG .nil pass0 (pa_cons (pv 0) (pa_cons (pv 1) (pa_cons (pe_ix ix_tup (pv 2) pe_int (fun _ _ => rfl)) pa_nil))))
          (pa_cons (pe_call G hr rfl mG kG bG .nil pass0 (pa_cons (pv 0) (pa_cons (pv 1) (pa_cons (pe_ix ix_tup (pv 2) pe_int (fun _ _ => rfl)) pa_nil)))) pa_nil))))
      (pss_cons (ps_if (pt_cmpR (op_inD h65) pe_non (pv 3) (by rfl)) (pss_one (ps_ret pe_non)) pss_nil)
      (pss_cons (ps_set (i := 4) scGrown.nd rfl (Or.inl rfl) (pe_call GM hr2 rfl mM kM bM .nil pass0 (pa_cons (pe_ix ix_tup (pe_ix ix_list (pv 3) pe_int (fun _ _ => rfl)) pe_int (fun _ _ => rfl)) (pa_cons (pe_ix ix_tup (pe_ix ix_list (pv 3) pe_int (fun _ _ => rfl)) pe_int (fun _ _ => rfl)) pa_nil))))
      (pss_one (ps_if (pt_cmpR op_eq (pe_call GD hr1 rfl mD kD' bD .nil pass0 (pa_cons (pv 0) (pa_cons pe_int pa_nil))) pe_int (nomark _))
        (pss_one (ps_set (i := 4) scGrown.nd rfl (Or.inl rfl) (pe_call GM hr2 rfl mM kM bM .nil pass0 (pa_cons (pv 4) (pa_cons (pe_ix ix_tup (pe_ix ix_list (pv 3) (pe_call GD hr1 rfl mD kD' bD .nil pass0 (pa_cons (pv 0) (pa_cons pe_int pa_nil))) (fun _ _ => rfl)) pe_int (fun _ _ => rfl)) pa_nil))))) pss_nil))))))
    (pss_cons (ps_set (i := 5) scGrown.nd rfl (Or.inl rfl) (pe_call GA hr10 rfl mA kA bA .nil pass0 (pa_cons (pv 2) pa_nil)))
    (pss_cons (ps_set (i := 6) scGrown.nd rfl (Or.inl rfl) (pe_callB (cr_sortedOfS rfl) (by rfl) T.sorted (by decide +kernel) (pa_cons (pe_callTy (cr_setOfS rfl) (by rfl) T.set (by decide +kernel) (pa_cons
        (pe_lc (own := [("_law_thing", 11)]) (g := gName 11) (tt := tYes) rfl scGrown.nd (pi_list (pv 5)) (blkOk_by (N := nGrown) (sc := defScope sGrown) (by decide +kernel)) (fun _ _ _ _ _ => pg_name (i := 11) scGrown.nd rfl (Or.inl rfl)) (fun _ _ _ _ _ => pts_nil)
          (fun _ _ _ _ _ => pe_ix (ix_tupK (K := K) rfl) (pv 11) pe_int (fun _ _ => rfl))) pa_nil)) pa_nil)))
    (pss_cons (ps_if (PW.pt (pw_or (pt_cmpR (op_neP hr.units) (pe_call GS hr11 rfl mS kS bS .nil pass0 (pa_cons (pv 2) pa_nil)) (pv 5) (nomark _))
        (pw_or (pt_cmpR (op_neP hr.units) (pv 4) (pe_call GT hr1 rfl mT kT bT .nil pass0 (pa_cons (pv 1) (pa_cons (pv 5) pa_nil))) (nomark _))
        (pw_or1 (pt_cmpR op_ne (pe_call GU hr1 rfl mU kU bU .nil pass0 (pa_cons (pv 5) pa_nil)) (pe_callB call_len_seq (by rfl) T.len PySem.boot_len (pa_cons (pv 6) pa_nil)) (nomark _)))))) (pss_one (ps_ret pe_non)) pss_nil)
    (pss_cons (ps_asg (pe_call GB hr3 rfl mB kB bB .nil pass0 (pa_cons (pv 1) (pa_cons (pv 4) pa_nil))) (pg_tup rfl (pgs_cons (pg_name (i := 7) scGrown.nd rfl (Or.inl rfl)) (pgs_cons (pg_name (i := 8) scGrown.nd rfl (Or.inr rfl)) (pgs_cons (pg_name (i := 9) scGrown.nd rfl (Or.inl rfl)) pgs_nil)))))
    (pss_cons (ps_if (PW.pt (pw_or (pt_not (pt_chain op_le op_le (pe_callB call_len_seq (by rfl) T.len PySem.boot_len (pa_cons (pv 7) pa_nil)) (pe_callB call_len_seq (by rfl) T.len PySem.boot_len (pa_cons (pv 6) pa_nil)) (pe_callB call_len_seq (by rfl) T.len PySem.boot_len (pa_cons (pv 8) pa_nil))))
        (pw_or1 (pt_cmpR (op_neP hr.units) (pe_lc (own := [("_law_mark", 12)]) (g := gName 12) rfl scGrown.nd (pi_list (pv 6)) (blkOk_by (N := nGrown) (sc := defScope sGrown) (by decide +kernel)) (fun _ _ _ _ _ => pg_name (i := 12) scGrown.nd rfl (Or.inl rfl))
          (fun _ _ _ _ _ => pts_one (pt_cmpR (op_notIn_seqK (K := K) rfl) (pv 12) (pv 8) (by rfl))) (fun _ _ _ _ _ => pv 12)) (pe_lst pa_nil) (nomark _))))) (pss_one (ps_ret pe_non)) pss_nil)
    (pss_cons (ps_for PassesOwn.never rfl (pi_list (pv 3)) (pg_name (i := 10) scGrown.nd rfl (Or.inl rfl))
      (pss_one (ps_if (PW.pt (pw_or (pt_cmpR op_gt (pe_ix ix_tup (pv 10) pe_int (fun _ _ => rfl)) (pe_callB call_len_seq (by rfl) T.len PySem.boot_len (pa_cons (pv 7) pa_nil)) (nomark _))
        (pw_or1 (pt_cmpR op_gt (pe_ix ix_tup (pv 10) pe_int (fun _ _ => rfl)) (pe_callB call_len_seq (by rfl) T.len PySem.boot_len (pa_cons (pv 8) pa_nil)) (nomark _))))) (pss_one (ps_ret pe_non)) pss_nil)))
    (pss_one (ps_ret (pe_tup (pa_cons (pv 4) (pa_cons (pe_callB call_len_seq (by rfl) T.len PySem.boot_len (pa_cons (pv 7) pa_nil)) (pa_cons (pe_callB call_len_seq (by rfl) T.len PySem.boot_len (pa_cons (pv 8) pa_nil)) pa_nil)))))))))))), ?_⟩
  have nl : net.length < 64 := by have := ok.few; omega
  refine ⟨fun σ H' => ∃ (lb cc : Addr) (vs : List V), σ = [some (.ref p), some (.ref a), some (.ref b), some (.ref lb), some (.ref cc), none, none, none, none, none, none, none, none] ∧ But p H H' ∧ PenAt H' p ∧ lb ≠ p ∧ H' lb = some (.lst vs) ∧ CellsAt H' cc (met net (marks t.all)) ∧
    ∀ v ∈ vs, Below H' net (marks t.all) v, ?_, ?_⟩
  · cases t with
    | leaf st =>
      obtain ⟨ws, h1, h2⟩ := id hT
      refine ⟨_, rfl, _, _, .type "list", _, true, rfl, .ty "list", .base (.lst h1), kit_ll, true, rfl, iteT ?_⟩
      refine ⟨(by decide), fun D hD => ?_⟩
      have Dp : D ≠ p := hp.neq hD
      refine ⟨_, rfl, _, rfl, a, b, net, st, rfl, hN.mono (same_tk (same_new hD _)), StreamAt.mono hT (same_new hD _), ok.nd, hk, hl, fun cc H1 s1 hC => ?_⟩
      have s01 : Same H H1 := (same_new hD _).trans s1
      exact ⟨D, cc, [], rfl, same_but s01, hp.mono s01, Dp, s1 _ _ upd_same, hC, fun v hv => by cases hv⟩
    | node l r =>
      obtain ⟨b1, b2, h1, h2, h3⟩ := hT
      have dl : l.depth < n := by
        have : max l.depth r.depth + 1 < n + 1 := hd
        omega
      have dr : r.depth < n := by
        have : max l.depth r.depth + 1 < n + 1 := hd
        omega
      have lls : l.streams.length + r.streams.length ≤ 1000 := by
        have : (l.streams ++ r.streams).length ≤ 1000 := hs
        rw [List.length_append] at this
        exact this
      have lla : l.all.length + r.all.length < 64 := by
        have : (l.all ++ r.all).length < 64 := hl
        rw [List.length_append] at this
        exact this
      have em : marks (Tr.node l r).all = marks l.all ++ marks r.all := marks_app
      have kl : Known net (marks l.all) := fun m hm => hk m (by rw [em]; exact List.mem_append_left _ hm)
      have kr : Known net (marks r.all) := fun m hm => hk m (by rw [em]; exact List.mem_append_right _ hm)
      refine ⟨_, rfl, _, _, .type "tuple", _, false, rfl, .ty "list", .base (.tup h1), kit_tl, false, rfl, iteF ?_⟩
      refine ⟨_, rfl, _, rfl, _, rfl, b, _, _, _, rfl, rfl, SqT.of h1, rfl, p, a, b1, net, l, rfl, hp, hN, ok, h2, dl, by omega, by omega, by omega, kl, fun g1 n1 m1 H1 s1 p1 G1 => ?_⟩
      have k1 := tk_but s1 hp
      refine ⟨_, rfl, _, rfl, _, rfl, b, _, _, _, rfl, rfl, SqT.of (k1 _ _ h1), rfl, p, a, b2, net, r, rfl, p1, hN.mono k1, ok, TreeAt.but hp s1 h3, dr, by omega, by omega, by omega, kr, fun g2 n2 m2 H2 s2 p2 G2 => ?_⟩
      have k2 := tk_but s2 p1
      have G12 := G1.mono k2
      refine ⟨(by show 2 ≤ sizeLine; decide), fun D hD => ?_⟩
      have Dp : D ≠ p := p2.neq hD
      have b3 : But p H (upd H2 D (.lst [.ref g1, .ref g2])) := (s1.trans s2).new hD _
      have p3 : PenAt (upd H2 D (.lst [.ref g1, .ref g2])) p := p2.new hD
      have D3 : (upd H2 D (.lst [.ref g1, .ref g2])) D = some (.lst [.ref g1, .ref g2]) := upd_same
      have G13 := G12.mono (same_tk (same_new hD (.lst [.ref g1, .ref g2])))
      have G23 := G2.mono (same_tk (same_new hD (.lst [.ref g1, .ref g2])))
      generalize upd H2 D (.lst [.ref g1, .ref g2]) = H3 at b3 p3 D3 G13 G23 ⊢
      -- None in below
      refine ⟨_, rfl, .none, [grD (met net (marks l.all)) n1 m1, grD (met net (marks r.all)) n2 m2], .non, .lst (SqL.of D3) (.cons (dp_gr G13) (.cons (dp_gr G23) .nil)), (by decide), ?_, _, rfl, ?_⟩
      · have l1 := grD_lay (met net (marks l.all)) n1 m1
        have l2 := grD_lay (met net (marks r.all)) n2 m2
        have d1 := grD_depth (met net (marks l.all)) n1 m1
        have d2 := grD_depth (met net (marks r.all)) n2 m2
        unfold SeqAt.shaped
        rw [Bool.and_eq_true]
        refine ⟨by simp [PyData.canLay0, PyData.canLayAll0, l1, l2], decide_eq_true ?_⟩
        simp only [PyData.depth, PyData.depthAll]
        omega
      rw [show ([grD (met net (marks l.all)) n1 m1, grD (met net (marks r.all)) n2 m2].any fun z => PyData.eqv z .none) = false by simp [grD, PyData.eqv]]
      refine iteF ?_
      -- merged
      obtain ⟨c1, e1, f1, _⟩ := id G13
      obtain ⟨c2, e2, f2, _⟩ := id G23
      have r1l := met1_few ok.rng (marks l.all)
      have r2l := met2_few ok.rng (marks l.all)
      have r1r := met1_few ok.rng (marks r.all)
      have r2r := met2_few ok.rng (marks r.all)
      refine ⟨_, rfl, D, _, _, _, rfl, rfl, SqL.of D3, rfl, g1, _, _, _, rfl, rfl, SqT.of e1, rfl, _, rfl, D, _, _, _, rfl, rfl, SqL.of D3, rfl, g2, _, _, _, rfl, rfl, SqT.of e2, rfl, c1, c2, _, _, rfl, f1, f2, by omega, by omega, fun cc H4 s4 hC => ?_⟩
      rw [met_join, ← em] at hC
      have bl1 : Below H4 net (marks (Tr.node l r).all) (.ref g1) := ⟨g1, _, n1, m1, rfl, G13.mono (same_tk s4), fun x hx => by rw [em]; exact List.mem_append_left _ hx⟩
      have bl2 : Below H4 net (marks (Tr.node l r).all) (.ref g2) := ⟨g2, _, n2, m2, rfl, G23.mono (same_tk s4), fun x hx => by rw [em]; exact List.mem_append_right _ hx⟩
      have b4 := b3.trans (same_but s4)
      have p4 := p3.mono s4
      have D4 := s4 _ _ D3
      refine ⟨_, rfl, p, _, rfl, p4, (by decide), (by decide), fun w x y z _ _ => ?_⟩
      have kw : Tk H4 (upd H4 p (.lst [.int x, .int y, .int z])) := tk_but (But.set _) p4
      have b5 : But p H (upd H4 p (.lst [.int x, .int y, .int z])) := b4.trans (But.set _)
      have p5 : PenAt (upd H4 p (.lst [.int x, .int y, .int z])) p := PenAt.put
      have D5 : (upd H4 p (.lst [.int x, .int y, .int z])) D = some (.lst [.ref g1, .ref g2]) := by rw [upd_ne Dp]; exact D4
      have bel : ∀ {H' : Hp}, Tk H4 H' → ∀ v ∈ [V.ref g1, V.ref g2], Below H' net (marks (Tr.node l r).all) v := fun kk v hv => by
        rcases List.mem_cons.mp hv with rfl | hv
        · obtain ⟨bb, ms', n', m', e, g, u⟩ := bl1
          exact ⟨bb, ms', n', m', e, g.mono kk, u⟩
        · rw [List.mem_singleton.mp hv]
          obtain ⟨bb, ms', n', m', e, g, u⟩ := bl2
          exact ⟨bb, ms', n', m', e, g.mono kk, u⟩
      have C5 := hC.mono kw
      refine ⟨rfl, _, rfl, ite2 (fun _ => ?_) (fun _ => ?_)⟩
      · refine ⟨_, rfl, _, rfl, _, rfl, p, _, rfl, p5, (by decide), (by decide), fun w2 x2 y2 z2 q0 q1 => ?_⟩
        have kw2 : Tk (upd H4 p (.lst [.int x, .int y, .int z])) (upd (upd H4 p (.lst [.int x, .int y, .int z])) p (.lst [.int x2, .int y2, .int z2])) := tk_but (But.set _) p5
        have D6 : (upd (upd H4 p (.lst [.int x, .int y, .int z])) p (.lst [.int x2, .int y2, .int z2])) D = some (.lst [.ref g1, .ref g2]) := by rw [upd_ne Dp]; exact D5
        have b6 := b5.trans (But.set (p := p) (.lst [.int x2, .int y2, .int z2]))
        have p6 : PenAt (upd (upd H4 p (.lst [.int x, .int y, .int z])) p (.lst [.int x2, .int y2, .int z2])) p := PenAt.put
        have k46 : Tk H4 (upd (upd H4 p (.lst [.int x, .int y, .int z])) p (.lst [.int x2, .int y2, .int z2])) := fun b' xs' e' => kw2 _ _ (kw _ _ e')
        have C6 := hC.mono k46
        generalize upd (upd H4 p (.lst [.int x, .int y, .int z])) p (.lst [.int x2, .int y2, .int z2]) = H6 at D6 b6 p6 k46 C6 ⊢
        obtain ⟨gi, ms', hat, hsub, c', ec', fc'⟩ : ∃ gi ms', atI [V.ref g1, V.ref g2] w2 = some (.ref gi) ∧ (∀ x ∈ ms', x ∈ marks (Tr.node l r).all) ∧ ∃ c' , (∃ n' m' : Nat, H6 gi = some (.tup [.ref c', .int n', .int m'])) ∧ CellsAt H6 c' (met net ms') := by
          have : w2 = 0 ∨ w2 = 1 := by omega
          rcases this with rfl | rfl
          · obtain ⟨bb, ms', n', m', e, ⟨ca, g3, g4, _⟩, u⟩ := bl1
            cases e
            exact ⟨g1, ms', rfl, u, ca, ⟨n', m', k46 _ _ g3⟩, g4.mono k46⟩
          · obtain ⟨bb, ms', n', m', e, ⟨ca, g3, g4, _⟩, u⟩ := bl2
            cases e
            exact ⟨g2, ms', rfl, u, ca, ⟨n', m', k46 _ _ g3⟩, g4.mono k46⟩
        obtain ⟨n', m', ec'⟩ := ec'
        have rr1 := met1_few ok.rng (marks (Tr.node l r).all)
        have rr2 := met2_few ok.rng (marks (Tr.node l r).all)
        have rs1 := met1_few ok.rng ms'
        have rs2 := met2_few ok.rng ms'
        refine ⟨D, _, _, _, rfl, rfl, SqL.of D6, hat, gi, _, _, _, rfl, rfl, SqT.of ec', rfl, cc, c', _, _, rfl, C6, fc', by omega, by omega, fun c9 H7 s7 hC7 => ?_⟩
        rw [met_join] at hC7
        rw [met_congr (ms' := marks (Tr.node l r).all) fun m => ⟨fun z => (List.mem_append.mp z).elim id (hsub m), fun z => List.mem_append_left _ z⟩] at hC7
        exact ⟨D, c9, _, rfl, b6.trans (same_but s7), p6.mono s7, Dp, s7 _ _ D6, hC7, bel fun b' xs' e' => s7 _ _ (k46 _ _ e')⟩
      · exact ⟨D, cc, _, rfl, b5, p5, Dp, D5, C5, bel kw⟩
  rintro σ H1 ⟨lb, cc, vs, rfl, b1, p1, lbp, h1, hC, hB⟩
  have N1 := hN.mono (tk_but b1 hp)
  have T1 := TreeAt.but hp b1 hT
  -- seen
  refine ⟨_, rfl, b, t, rfl, T1, by omega, by omega, fun sn H2 s2 hS => ?_⟩
  obtain ⟨ws, w1, w2⟩ := id hS
  have wl := w2.len
  rw [List.length_map] at wl
  have ml : (marks t.all).length = t.all.length := List.length_map _
  -- marks
  refine ⟨_, rfl, sn, rfl, ⟨_, SqL.of w1⟩, fun D hD => lc_list (K := K) (a := sn) (xs := ws) (fun i H' => H' = upd H2 D (.lst (((marks t.all).take i).map V.str))) rfl (fun i H' _ z => ?_) ?_ ?_⟩
  · rw [z]
    exact SqL.of (same_new hD _ _ _ w1)
  · rintro i x H' hx rfl
    obtain ⟨o, k, rfl, hm, ht⟩ := w2.at hx
    have il : i < t.all.length := (List.getElem?_eq_some_iff.mp hm).1
    refine ⟨rfl, _, rfl, o, _, _, _, rfl, rfl, SqT.of (same_new hD _ _ _ ht), rfl, acc_end ?_ (take_map_succ (by unfold marks; rw [List.getElem?_map, hm]; rfl))⟩
    rw [List.length_map, List.length_take]
    exact small1000 (by omega)
  rintro H3 rfl
  rw [List.take_of_length_le (by omega)]
  have s3 : Same H2 (upd H2 D (.lst ((marks t.all).map V.str))) := same_new hD _
  have r3 : (upd H2 D (.lst ((marks t.all).map V.str))) D = some (.lst ((marks t.all).map V.str)) := upd_same
  generalize upd H2 D (.lst ((marks t.all).map V.str)) = H3 at s3 r3 ⊢
  have ol := once_len (marks t.all)
  refine ⟨D, marks t.all, rfl, .inl (SqL.of r3), by omega, fun p4 hp4 => ⟨p4, _, rfl, upd_same, by omega, fun ds p5 e1 e2 hp5 => ?_⟩⟩
  have dl : ds.length = (once (marks t.all)).length := e1.length_eq
  have dn : ds.Nodup := e1.nodup_iff.mpr (once_nd _)
  have dm : ∀ x, x ∈ ds ↔ x ∈ marks t.all := fun x => e1.mem_iff.trans mem_once
  obtain ⟨H5, e5, s5, r5⟩ := both (same_new hp4 _) hp5 (.lst (ds.map V.str))
  rw [← e5]
  clear e5 hp5 hp4
  have s15 : Same H1 H5 := (s2.trans s3).trans s5
  have N5 := N1.mono (same_tk s15)
  have T5 := TreeAt.mono s15 T1
  have S5 := hS.mono (s3.trans s5)
  have C5 := hC.mono (same_tk s15)
  -- the first test
  refine ⟨_, rfl, b, t, rfl, T5, by omega, by omega, by omega, fun p6 H6 s6 hS6 => ?_⟩
  refine ⟨_, rfl, stD t.all, stD t.all, dp_stream hS6, dp_stream (S5.mono s6), stD_pl _, stD_pl _, _, rfl, ?_⟩
  rw [eqv_pl (stD_pl t.all)]
  refine iteF ?_
  refine ⟨_, rfl, _, rfl, _, rfl, a, sn, net, t.all, rfl, N5.mono (same_tk s6), S5.mono s6, nl, by omega, fun p7 H7 s7 hC7 => ?_⟩
  have s57 : Same H5 H7 := s6.trans s7
  refine ⟨cellsD (met net (marks t.all)), cellsD (met net (marks t.all)), dp_cells (C5.mono (same_tk s57)), dp_cells hC7, cells_pl _, cells_pl _, _, rfl, ?_⟩
  rw [eqv_pl (cells_pl (met net (marks t.all)))]
  refine iteF ?_
  refine ⟨_, rfl, sn, t.all, rfl, S5.mono s57, by omega, fun H8 s8 => ?_⟩
  have s58 := s57.trans s8
  refine ⟨_, rfl, p5, _, rfl, .inl (SqL.of (s58 _ _ r5)), rfl, _, rfl, ?_⟩
  have ed : (V.int (((once (marks t.all)).length : Nat) : Int)) = V.int (((ds.map V.str).length : Nat) : Int) := by rw [List.length_map, dl]
  rw [decide_eq_true ed]
  refine iteF ?_
  -- unlike_by
  have s18 := s15.trans s58
  refine ⟨_, rfl, _, rfl, a, cc, net, marks t.all, rfl, N1.mono (same_tk s18), hC.mono (same_tk s18), nl, ok.rng, fun pp x y z H9 few s9 g0 g1 F9 g2 => ?_⟩
  have s19 := s18.trans s9
  have r9 := s9 _ _ (s58 _ _ r5)
  refine ⟨pp, _, rfl, SqT.of g0, rfl, _, _, rfl, _, _, rfl, _, _, rfl, rfl, ?_⟩
  have kd : ∀ m ∈ ds, ∃ p, (m, p) ∈ net := fun m hm => hk m ((dm m).mp hm)
  have le1 : few.length ≤ ds.length := few_le ok.nd kd (fun m hm => (dm m).mpr hm) F9
  have le2 : ds.length ≤ (openOf net (met net (marks t.all)).1 (met net (marks t.all)).2).length := le_open kd (fun m hm => (dm m).mp hm) dn
  have lev : ((openOf net (met net (marks t.all)).1 (met net (marks t.all)).2).map (·.1)).length = (openOf net (met net (marks t.all)).1 (met net (marks t.all)).2).length := List.length_map _
  -- the second test
  refine ⟨_, rfl, x, _, rfl, .inl (SqL.of g1), _, rfl, p5, _, rfl, .inl (SqL.of r9), _, _, rfl, rfl, _, rfl, ?_⟩
  have t1 : (((few.map V.str).length : Nat) : Int) ≤ (((ds.map V.str).length : Nat) : Int) := by rw [List.length_map, List.length_map]; omega
  rw [decide_eq_true t1]
  refine iteT ⟨_, rfl, y, _, rfl, .inl (SqL.of g2), _, _, rfl, rfl, _, rfl, ?_⟩
  have t2 : (((ds.map V.str).length : Nat) : Int) ≤ (((((openOf net (met net (marks t.all)).1 (met net (marks t.all)).2).map (·.1)).map V.str).length : Nat) : Int) := by rw [List.length_map, List.length_map, lev]; omega
  rw [decide_eq_true t2]
  refine iteF ?_
  -- [.. not in every]
  refine ⟨_, rfl, p5, rfl, ⟨_, SqL.of r9⟩, fun E hE => lc_list (K := K) (a := p5) (xs := ds.map V.str) (fun i H' => H' = upd H9 E (.lst [])) rfl (fun i H' _ z => ?_) ?_ ?_⟩
  · rw [z]
    exact SqL.of (same_new hE _ _ _ r9)
  · rintro i v H' hx rfl
    obtain ⟨m, hm, rfl⟩ : ∃ m, ds[i]? = some m ∧ v = V.str m := by
      rw [List.getElem?_map] at hx
      cases z : ds[i]? with
      | none => rw [z] at hx; cases hx
      | some c => rw [z] at hx; exact ⟨c, rfl, (Option.some.inj hx).symm⟩
    refine ⟨rfl, _, rfl, _, rfl, y, _, rfl, .inl (SqL.of (same_new hE _ _ _ g2)), rfl, flat_strs _, _, rfl, ?_⟩
    show if (if true = true then !inV (V.str m) (((openOf net (met net (marks t.all)).1 (met net (marks t.all)).2).map (·.1)).map V.str) else _) = true then _ else _
    rw [if_pos rfl, inV_strs]
    have mm := (dm m).mp (List.mem_of_getElem? hm)
    obtain ⟨pr, hpr⟩ := hk m mm
    have mo : m ∈ (openOf net (met net (marks t.all)).1 (met net (marks t.all)).2).map (·.1) := List.mem_map.mpr ⟨(m, pr), open_of hpr mm, rfl⟩
    rw [decide_eq_true mo]
    exact iteF rfl
  rintro H10 rfl
  refine ⟨(by decide), fun E2 hE2 => ?_⟩
  refine ⟨.list [], .list [], .lst (SqL.of (same_new hE2 _ _ _ upd_same)) .nil, .lst (SqL.of upd_same) .nil, nil_pl, nil_pl, _, rfl, ?_⟩
  rw [eqv_pl nil_pl]
  refine iteF ?_
  have s11 : Same H9 (upd (upd H9 E (.lst [])) E2 (.lst [])) := same_more (same_new hE _) hE2 _
  generalize upd (upd H9 E (.lst [])) E2 (.lst []) = H11 at s11 ⊢
  have s1b := s19.trans s11
  -- for one in below
  refine ⟨_, rfl, lb, rfl, ⟨_, SqL.of (s1b _ _ h1)⟩, for_list (K := K) (a := lb) (xs := vs) (fun i σ H' => (∃ y10, σ = [some (.ref p), some (.ref a), some (.ref b), some (.ref lb), some (.ref cc), some (.ref sn), some (.ref p5), some (.ref x), some (.ref y), some (.ref z), y10, none, none]) ∧ H' = H11)
    ⟨⟨_, rfl⟩, rfl⟩ (fun i σ H' _ z => by rw [z.2]; exact SqL.of (s1b _ _ h1)) ?_ ?_⟩
  · rintro i v σ H' hv ⟨⟨u10, rfl⟩, rfl⟩
    obtain ⟨bb, ms', n', m', rfl, gr, sub⟩ := hB v (List.mem_of_getElem? hv)
    obtain ⟨ca, a1, a2, a3, a4⟩ := gr.mono (same_tk s1b)
    have q1 : n' ≤ few.length := a3.mono F9 (met_mono1 sub) (met_mono2 sub)
    have q2 : m' ≤ (openOf net (met net (marks t.all)).1 (met net (marks t.all)).2).length := by rw [a4]; exact open_mono (met_mono1 sub) (met_mono2 sub)
    refine ⟨_, rfl, bb, _, _, _, rfl, rfl, SqT.of a1, rfl, _, rfl, x, _, rfl, .inl (SqL.of (s11 _ _ g1)), _, _, rfl, rfl, _, rfl, ?_⟩
    have u1 : ¬ ((((few.map V.str).length : Nat) : Int) < (n' : Int)) := by rw [List.length_map]; omega
    rw [decide_eq_false u1]
    refine iteF ⟨_, rfl, bb, _, _, _, rfl, rfl, SqT.of a1, rfl, _, rfl, y, _, rfl, .inl (SqL.of (s11 _ _ g2)), _, _, rfl, rfl, _, rfl, ?_⟩
    have u2 : ¬ ((((((openOf net (met net (marks t.all)).1 (met net (marks t.all)).2).map (·.1)).map V.str).length : Nat) : Int) < (m' : Int)) := by rw [List.length_map, lev]; omega
    rw [decide_eq_false u2]
    exact iteF ⟨⟨_, rfl⟩, rfl⟩
  · rintro σ H' ⟨⟨u10, rfl⟩, rfl⟩
    refine ⟨_, rfl, _, rfl, x, _, rfl, .inl (SqL.of (s11 _ _ g1)), _, rfl, y, _, rfl, .inl (SqL.of (s11 _ _ g2)), (by show 3 ≤ sizeLine; decide), fun o ho => ?_⟩
    have s12 := same_more s1b ho (.tup [.ref cc, .int (((few.map V.str).length : Nat) : Int), .int (((((openOf net (met net (marks t.all)).1 (met net (marks t.all)).2).map (·.1)).map V.str).length : Nat) : Int)])
    refine q o _ _ _ (b1.trans (same_but s12)) (p1.mono s12) ⟨cc, upd_same, hC.mono (same_tk s12), ?_, ?_⟩
    · rw [List.length_map]; exact F9
    · rw [List.length_map]; exact lev
theorem all_grown {f : Addr} {fd : FuncData} (F : Fun K "_law_grown" "_law_grown" sGrown f fd) (T : Txt mg)
    (mG : mg "_law_grown" = some (.ref f)) (kG : PySem.W.keepIn K (.ref f) = true) (bG : Binds K fd pGrown [])
    (DD : IsDef P w K mg base "_law_draw" 1 ["_law_pen_here", "_law_size"] spDraw) (DC : IsDef P w K mg base "cells_of" 2 ["net", "stream"] spCellsOf) (DM : IsDef P w K mg base "merged_cells" 2 ["one", "other"] spMerged)
    (DA : IsDef P w K mg base "_law_all" 10 ["_law_tree_here"] (spAll 10)) (DS : IsDef P w K mg base "stream_of" 11 ["tree"] spStreamOf) (DT : IsDef P w K mg base "_law_met" 1 ["_law_net_here", "_law_stream_here"] spMet)
    (DU : IsDef P w K mg base "unlike_in" 1 ["stream"] spUnlike) (DB : IsDef P w K mg base "unlike_by" 3 ["net", "cells"] spUnlikeBy) : ∀ n, FnOk P w K mg base CX0 (n + 12) f fd pGrown (spGrown n)
  | 0 => by
    have no : ∀ vs H Q E, ¬ spGrown 0 vs H Q E := fun vs H Q E ⟨p, a, b, net, t, _, _, _, _, _, z, _⟩ => absurd z (Nat.not_lt_zero _)
    exact ⟨fun vs H Q E h => absurd h (no vs H Q E), fun A outer s H args us vs Q E _ _ _ _ h => absurd h (no vs H Q E)⟩
  | n + 1 => ok_grown F T (all_grown F T mG kG bG DD DC DM DA DS DT DU DB n) mG kG bG DD DC DM DA DS DT DU DB
end
end Uk
end
section
set_option linter.all false
set_option maxRecDepth 100000
set_option maxHeartbeats 4000000
namespace Uk
open PySem PySem.Spec PyProof.Rows L2 UkS
/-- what a new pen alone has changed leaves all as it was -/
theorem same_pen {H H' : Hp} {p : Addr} {o : HO} (h : H p = none) (s : But p (upd H p o) H') : Same H H' := fun b x e => by
  have n := ne_of_none e h
  exact s b x n (by rw [upd_ne n]; exact e)
theorem perm_erase {α : Type} : ∀ {l : List α} {k : Nat} {x : α}, l[k]? = some x → (x :: l.eraseIdx k).Perm l
  | [], _, _, h => by simp at h
  | y :: r, 0, x, h => by
    have : y = x := Option.some.inj h
    subst this
    exact List.Perm.refl _
  | y :: r, k + 1, x, h => by
    have q := perm_erase (l := r) (k := k) (x := x) h
    exact (List.Perm.swap y x _).trans (List.Perm.cons y q)
theorem erase_map {α β : Type} {f : α → β} : ∀ {l : List α} {k : Nat}, (l.map f).eraseIdx k = (l.eraseIdx k).map f
  | [], _ => rfl
  | _ :: _, 0 => rfl
  | y :: r, k + 1 => by
    show f y :: (r.map f).eraseIdx k = f y :: (r.eraseIdx k).map f
    rw [erase_map]
theorem StreamsAt.erase {H : Hp} {as : List Addr} {ss : List (List Thing)} (h : StreamsAt H as ss) (k : Nat) : StreamsAt H (as.eraseIdx k) (ss.eraseIdx k) := by
  refine ⟨by rw [List.length_eraseIdx, List.length_eraseIdx, h.len], fun i a e => ?_⟩
  rw [List.getElem?_eraseIdx] at e
  by_cases c : i < k
  · rw [if_pos c] at e
    obtain ⟨st, e1, e2⟩ := h.get _ a e
    exact ⟨st, by rw [List.getElem?_eraseIdx, if_pos c]; exact e1, e2⟩
  · rw [if_neg c] at e
    obtain ⟨st, e1, e2⟩ := h.get _ a e
    exact ⟨st, by rw [List.getElem?_eraseIdx, if_neg c]; exact e1, e2⟩
theorem StreamsAt.put {H : Hp} {as : List Addr} {ss : List (List Thing)} (h : StreamsAt H as ss) {D : Addr} {xs : List V} (hd : H D = some (.lst xs)) (n : ∀ b ∈ as, b ≠ D) (o : HO) : StreamsAt (upd H D o) as ss := ⟨h.len, fun i a e => by
  obtain ⟨st, e1, vs, e2, e3⟩ := h.get i a e
  exact ⟨st, e1, vs, by rw [upd_ne (n a (List.mem_of_getElem? e))]; exact e2, e3.mono (tk_put hd o)⟩⟩
def leftD (ss : List (List Thing)) : PyData := .list (ss.map stD)
theorem leftD_pl (ss : List (List Thing)) : Pl (leftD ss) := by
  refine ⟨plain_all stD_plain ss, ?_⟩
  have := depth_all stD_depth ss
  unfold leftD
  rw [PyData.depth]
  omega
theorem dp_streams {K : PySem.W.Frag} {H : Hp} : ∀ {as : List Addr} {ss : List (List Thing)}, StreamsAt H as ss → DpAll K H (as.map V.ref) (ss.map stD)
  | [], [], _ => .nil
  | [], s :: ss, h => by
    have := h.len
    simp at this
  | a :: as, [], h => by
    have := h.len
    simp at this
  | a :: as, s :: ss, h => by
    obtain ⟨st, e1, e2⟩ := h.get 0 a rfl
    have es : s = st := Option.some.inj e1
    subst es
    exact .cons (dp_stream e2) (dp_streams (as := as) (ss := ss) ⟨by have := h.len; simpa using this, fun i b q => h.get (i + 1) b q⟩)
theorem flat_len {α : Type} {n : Nat} : ∀ {ss : List (List α)}, (∀ s ∈ ss, s.length ≤ n) → ss.flatten.length ≤ n * ss.length
  | [], _ => Nat.zero_le _
  | s :: ss, h => by
    have h1 := h s List.mem_cons_self
    have h2 := flat_len (ss := ss) fun x hx => h x (List.mem_cons_of_mem _ hx)
    rw [List.flatten_cons, List.length_append, List.length_cons, Nat.mul_add, Nat.mul_one]
    omega
/-- the streams as the law draws them -/
def SsOk (net : List Row) (ss : List (List Thing)) : Prop := ∀ st ∈ ss, st.length ≤ 5 ∧ Known net (marks st)
theorem SsOk.known {net : List Row} {ss : List (List Thing)} (h : SsOk net ss) : Known net (marks ss.flatten) := fun m hm => by
  obtain ⟨t, ht, e⟩ := List.mem_map.mp hm
  obtain ⟨st, hs, hts⟩ := List.mem_flatten.mp ht
  exact (h st hs).2 m (List.mem_map.mpr ⟨t, hts, e⟩)
theorem SsOk.perm {net : List Row} {ss ts : List (List Thing)} (h : SsOk net ss) (p : ts.Perm ss) : SsOk net ts := fun st hs => h st (p.mem_iff.mp hs)
theorem marks_perm {ss ts : List (List Thing)} (p : ts.Perm ss) (m : Str) : m ∈ marks ts.flatten ↔ m ∈ marks ss.flatten := by
  unfold marks
  rw [List.mem_map, List.mem_map]
  constructor
  · rintro ⟨t, ht, e⟩
    obtain ⟨st, hs, hts⟩ := List.mem_flatten.mp ht
    exact ⟨t, List.mem_flatten.mpr ⟨st, p.mem_iff.mp hs, hts⟩, e⟩
  · rintro ⟨t, ht, e⟩
    obtain ⟨st, hs, hts⟩ := List.mem_flatten.mp ht
    exact ⟨t, List.mem_flatten.mpr ⟨st, p.mem_iff.mpr hs, hts⟩, e⟩
section
variable {P : Program} {w : World} {K : PySem.W.Frag} {mg : Str → Option Value} {base : Heap}
/-! ### law -/
abbrev sLaw : Stmt := topS 34
abbrev nLaw : List Str := ["_law_script", "_law_net_here", "_law_pen_here", "_law_streams", "_law_found", "_law_left", "_law_order", "_law_other", "_law_k"]
theorem scLaw : FnScope nLaw ["_law_script"] (defScope sLaw) := ⟨rfl, rfl, rfl, by decide +kernel, rfl, by decide +kernel, by decide +kernel⟩
def spLaw (K : PySem.W.Frag) : Sp := fun vs H Q _ => ∃ (a : Addr) (ns : List Int), vs = [.ref a] ∧ SqL K H a (ns.map V.int) ∧ ns.length ≤ 63 ∧ ∀ H', Q (.bl true) H'
theorem ok_law {f : Addr} {fd : FuncData} (F : Fun K "law" "law" sLaw f fd) (T : Txt mg) (DD : IsDef P w K mg base "_law_draw" 1 ["_law_pen_here", "_law_size"] spDraw) (DP : IsDef P w K mg base "_law_pen" 1 ["_law_script", "_law_k"] (spPen K))
    (DN : IsDef P w K mg base "_law_net" 3 ["_law_pen_here"] spNet) (DS : IsDef P w K mg base "_law_stream" 2 ["_law_pen_here", "_law_net_here", "_law_most"] spStream) (DT : IsDef P w K mg base "_law_tree" 10 ["_law_pen_here", "_law_streams"] (spTree 8))
    (DG : IsDef P w K mg base "_law_grown" 20 pGrown (spGrown 8)) : FnOk P w K mg base CX0 21 f fd ["_law_script"] (spLaw K) := by
  obtain ⟨fD, fdD, GD, mD, kD', bD⟩ := DD
  obtain ⟨fP, fdP, GP, mP, kP, bP⟩ := DP
  obtain ⟨fN, fdN, GN, mN, kN, bN⟩ := DN
  obtain ⟨fS, fdS, GS, mS, kS, bS⟩ := DS
  obtain ⟨fT, fdT, GT, mT, kT, bT⟩ := DT
  obtain ⟨fG, fdG, GG, mG, kG, bG⟩ := DG
  refine F.ok scLaw (fun vs H Q E h => ?_) (fun cdv A' outer s H vs Q E hr h => ?_)
  · obtain ⟨a, ns, rfl, _⟩ := h
    rfl
  obtain ⟨a, ns, rfl, hS, h63, q⟩ := h
  have hr1 := hr.mono (j := 1) (by omega)
  have hr2 := hr.mono (j := 2) (by omega)
  have hr3 := hr.mono (j := 3) (by omega)
  have hr10 := hr.mono (j := 10) (by omega)
  refine ⟨_, pss_cons (ps_set (i := 1) scLaw.nd rfl (Or.inr rfl) (pe_call GN hr3 rfl mN kN bN .nil pass0 (pa_cons (pe_call GP hr1 rfl mP kP bP .nil pass0 (pa_cons (pv 0) (pa_cons pe_int pa_nil))) pa_nil)))
    (pss_cons (ps_set (i := 2) scLaw.nd rfl (Or.inl rfl) (pe_call GP hr1 rfl mP kP bP .nil pass0 (pa_cons (pv 0) (pa_cons pe_int pa_nil))))
    (pss_cons (ps_setLc (i := 3) (own := [("_law_k", 8)]) (g := gName 8) (tt := tYes) rfl scLaw.nd rfl rfl (sw_true rfl rfl rfl (by decide +kernel)) (pi_range1 (by rfl) T.range (pa_cons (pe_op op_add pe_int (pe_call GD hr1 rfl mD kD' bD .nil pass0 (pa_cons (pv 2) (pa_cons pe_int pa_nil)))) pa_nil))
      (blkOk_by (N := nLaw) (sc := defScope sLaw) (by decide +kernel)) (fun _ _ _ _ _ => pg_name (i := 8) scLaw.nd rfl (Or.inl rfl)) (fun _ _ _ _ _ => pts_nil)
      (fun _ _ _ _ _ => pe_call GS hr2 rfl mS kS bS .nil pass0 (pa_cons (pe_call GP hr1 rfl mP kP bP .nil pass0 (pa_cons (pv 0) (pa_cons (pe_op op_add pe_int (pv 8)) pa_nil))) (pa_cons (pv 1) (pa_cons pe_int pa_nil)))))
    (pss_cons (ps_set (i := 4) scLaw.nd rfl (Or.inl rfl) (pe_call GG hr rfl mG kG bG .nil pass0 (pa_cons (pv 2) (pa_cons (pv 1) (pa_cons (pe_call GT hr10 rfl mT kT bT .nil pass0 (pa_cons (pv 2) (pa_cons (pv 3) pa_nil))) pa_nil)))))
    (pss_cons (ps_set (i := 5) scLaw.nd rfl (Or.inl rfl) (pe_callTy call_list_of (by rfl) T.list (by decide +kernel) (pa_cons (pv 3) pa_nil)))
    (pss_cons (ps_set (i := 6) scLaw.nd rfl (Or.inl rfl) (pe_lst pa_nil))
    (pss_cons (ps_while PassesOwn.never (pt_cmpR (op_neP hr.units) (pv 5) (pe_lst pa_nil) (nomark _))
      (pss_one (ps_expr (pe_bm PySem.F.plainAttrs_list PySem.F.slot_list_append PySem.F.type_list_append mt_append (pv 6) (pa_cons (pe_bm PySem.F.plainAttrs_list PySem.F.slot_list_pop PySem.F.type_list_pop mt_popAt (pv 5)
        (pa_cons (pe_call GD hr1 rfl mD kD' bD .nil pass0 (pa_cons (pv 2) (pa_cons (pe_callB call_len_seq (by rfl) T.len PySem.boot_len (pa_cons (pv 5) pa_nil)) pa_nil))) pa_nil)) pa_nil)))))
    (pss_cons (ps_set (i := 7) scLaw.nd rfl (Or.inl rfl) (pe_call GG hr rfl mG kG bG .nil pass0 (pa_cons (pv 2) (pa_cons (pv 1) (pa_cons (pe_call GT hr10 rfl mT kT bT .nil pass0 (pa_cons (pv 2) (pa_cons (pv 6) pa_nil))) pa_nil)))))
    (pss_one (ps_ret (pe_and (pe_cmpR op_notN (pv 4) pe_non (by rfl)) (pe_and (pe_cmpR op_notN (pv 7) pe_non (by rfl)) (pe_one (pe_cmpR (op_eqD hr.units) (pv 7) (pv 4) (nomark _)))))))))))))), ?_⟩
  -- the net
  refine ⟨_, rfl, a, ns, 0, rfl, hS, by omega, fun p0 x0 y0 z0 hp0 => ?_⟩
  refine ⟨p0, rfl, PenAt.put, fun na net H1 b1 _ N1 ok => ?_⟩
  have s1 : Same H H1 := same_pen hp0 b1
  -- the pen
  refine ⟨_, rfl, a, ns, 1, rfl, s1.seq hS, by omega, fun p x1 y1 z1 hp => ?_⟩
  have s2 : Same H1 (upd H1 p (.lst [.int x1, .int y1, .int z1])) := same_new hp _
  have p2 : PenAt (upd H1 p (.lst [.int x1, .int y1, .int z1])) p := PenAt.put
  have N2 : ∀ H', But p (upd H1 p (.lst [.int x1, .int y1, .int z1])) H' → NetAt H' na net := fun H' b => N1.mono (same_tk (same_pen hp b))
  have S2 : ∀ H', But p (upd H1 p (.lst [.int x1, .int y1, .int z1])) H' → SqL K H' a (ns.map V.int) := fun H' b => (same_pen hp b).seq (s1.seq hS)
  generalize upd H1 p (.lst [.int x1, .int y1, .int z1]) = H2 at s2 p2 N2 S2 ⊢
  -- how many streams
  refine ⟨_, rfl, p, _, rfl, p2, (by decide), (by decide), fun r x3 y3 z3 r0 r1 => ?_⟩
  have b3 : But p H2 (upd H2 p (.lst [.int x3, .int y3, .int z3])) := But.set _
  have p3 : PenAt (upd H2 p (.lst [.int x3, .int y3, .int z3])) p := PenAt.put
  generalize upd H2 p (.lst [.int x3, .int y3, .int z3]) = H3 at b3 p3 ⊢
  refine ⟨_, _, rfl, rfl, _, rfl, by omega, by omega, fun D hD => ?_⟩
  have Dp : D ≠ p := p3.neq hD
  have hD2 : H2 D = none := b3.free hD Dp
  refine lc_range (lo := 0) (fun i H' => But p H2 H' ∧ PenAt H' p ∧ ∃ as ss, H' D = some (.lst (as.map V.ref)) ∧ StreamsAt H' as ss ∧ as.length = i ∧ SsOk net ss ∧ ∀ b ∈ as, b ≠ D)
    ⟨b3.new hD _, p3.new hD, [], [], upd_same, ⟨rfl, fun i a e => by simp at e⟩, rfl, (fun st h => by cases h), fun b h => by cases h⟩ ?_ ?_
  · rintro i H' hi ⟨b4, p4, as, ss, D4, A4, la, so, nD⟩
    have i8 : i < 8 := by omega
    refine ⟨rfl, _, rfl, _, rfl, _, _, rfl, rfl, a, ns, _, rfl, S2 _ b4, by omega, fun pk x5 y5 z5 hpk => ?_⟩
    have N5 : NetAt (upd H' pk (.lst [.int x5, .int y5, .int z5])) na net := N2 _ (b4.new hpk _)
    refine ⟨_, rfl, pk, na, net, 5, rfl, PenAt.put, N5, ok.few, (by decide), (by decide), fun b st H5 b5 _ hb St l5 kn => ?_⟩
    have s5 : Same H' H5 := same_pen hpk b5
    have D5 := s5 _ _ D4
    have bD : b ≠ D := fun z => by
      rw [z, same_new hpk _ _ _ D4] at hb
      cases hb
    refine ⟨as.map V.ref, D5, by rw [List.length_map]; exact small1000 (by omega), (b4.trans (same_but s5)).put hD2 _, (p4.mono s5).ne Dp.symm, as ++ [b], ss ++ [st], ?_, ?_, by rw [List.length_append, la]; rfl, ?_, ?_⟩
    · rw [List.map_append]; exact upd_same
    · refine StreamsAt.put ((A4.mono s5).append (StreamsAt.one St)) D5 (fun c hc => ?_) _
      rcases List.mem_append.mp hc with z | z
      · exact nD c z
      · rw [List.mem_singleton.mp z]; exact bD
    · intro s hs
      rcases List.mem_append.mp hs with z | z
      · exact so s z
      · rw [List.mem_singleton.mp z]; exact ⟨l5, kn⟩
    · intro c hc
      rcases List.mem_append.mp hc with z | z
      · exact nD c z
      · rw [List.mem_singleton.mp z]; exact bD
  rintro H4 ⟨b4, p4, as, ss, D4, A4, la, so, nD⟩
  have l1 : 0 < as.length := by omega
  have l8 : as.length ≤ 8 := by omega
  have lss := A4.len
  have fl := flat_len (n := 5) (ss := ss) fun s hs => (so s hs).1
  -- found
  refine ⟨_, rfl, _, rfl, _, rfl, _, rfl, p, D, as, ss, rfl, p4, D4, A4, by omega, by omega, by decide, fun tr t H5 b5 p5 T5 e5 d5 => ?_⟩
  have b45 := b4.trans b5
  have ea : t.all = ss.flatten := by rw [Tr.all_eq, e5]
  refine ⟨p, na, tr, net, t, rfl, p5, N2 _ b45, ok, T5, by omega, by decide, by rw [e5]; omega, by rw [ea]; omega, by rw [ea]; exact so.known, fun g1 k1 m1 H6 b6 p6 G6 => ?_⟩
  have b46 := b5.trans b6
  have D6 := b46 _ _ Dp D4
  have A6 := A4.but p4 b46
  -- left, order
  refine ⟨_, rfl, D, _, rfl, .inl (SqL.of D6), fun L hL => ?_⟩
  have Lp : L ≠ p := p6.neq hL
  refine ⟨(by decide), fun O hO => ?_⟩
  have Op : O ≠ p := (p6.new hL).neq hO
  have LO : L ≠ O := fun z => by rw [← z, upd_same] at hO; cases hO
  have hO6 : H6 O = none := by rw [upd_ne LO.symm] at hO; exact hO
  refine ⟨fun m σ H' => ∃ ls os lss oss, m = ls.length ∧ σ = [some (.ref a), some (.ref na), some (.ref p), some (.ref D), some (.ref g1), some (.ref L), some (.ref O), none, none] ∧ But p H6 H' ∧ PenAt H' p ∧ H' L = some (.lst (ls.map V.ref)) ∧ H' O = some (.lst (os.map V.ref)) ∧
      StreamsAt H6 ls lss ∧ StreamsAt H6 os oss ∧ (oss ++ lss).Perm ss,
    ⟨_, as, [], ss, [], rfl, rfl, (same_but (p := p) (same_new hL _)).new hO _, (p6.new hL).new hO, by rw [upd_ne LO]; exact upd_same, upd_same, A6, ⟨rfl, fun i a e => by simp at e⟩, List.Perm.refl _⟩, ?_⟩
  rintro m σ H7 ⟨ls, os, lss', oss, rfl, rfl, b7, p7, L7, O7, A7, B7, pm⟩
  have ll := A7.len
  have lo := B7.len
  have lp := pm.length_eq
  rw [List.length_append] at lp
  refine ⟨_, rfl, (by decide), fun e he => ?_⟩
  have s8 : Same H7 (upd H7 e (.lst [])) := same_new he _
  have b8 : But p H6 (upd H7 e (.lst [])) := b7.new he _
  have p8 : PenAt (upd H7 e (.lst [])) p := p7.new he
  refine ⟨leftD lss', .list [], .lst (SqL.of (s8 _ _ L7)) (dp_streams (A7.but p6 b8)), .lst (SqL.of upd_same) .nil, leftD_pl _, nil_pl, _, rfl, ?_⟩
  have L8 := s8 _ _ L7
  have O8 := s8 _ _ O7
  generalize upd H7 e (.lst []) = H8 at s8 b8 p8 L8 O8 ⊢
  cases lss' with
  | cons s0 lr =>
    rw [show PyData.eqv (leftD (s0 :: lr)) (.list []) = false by simp [leftD, PyData.eqv, PyData.eqvAll]]
    refine iteT ?_
    rw [List.length_cons] at ll lp
    refine ⟨fun σ' H' => ∃ m', m' < ls.length ∧ ∃ ls os lss oss, m' = ls.length ∧ σ' = [some (.ref a), some (.ref na), some (.ref p), some (.ref D), some (.ref g1), some (.ref L), some (.ref O), none, none] ∧ But p H6 H' ∧ PenAt H' p ∧ H' L = some (.lst (ls.map V.ref)) ∧ H' O = some (.lst (os.map V.ref)) ∧
      StreamsAt H6 ls lss ∧ StreamsAt H6 os oss ∧ (oss ++ lss).Perm ss, fun σ' H' z => z, ?_⟩
    have lm : (ls.map V.ref).length = ls.length := List.length_map _
    refine ⟨_, rfl, .inl ⟨rfl, _, SqL.of O8⟩, _, rfl, .inl ⟨rfl, _, SqL.of L8⟩, _, rfl, _, rfl, L, _, rfl, .inl (SqL.of L8), p, _, rfl, p8, ?_, ?_, fun j x9 y9 z9 j0 j1 => ?_⟩
    · show (0 : Int) < (((ls.map V.ref).length : Nat) : Int)
      rw [lm]; omega
    · show (((ls.map V.ref).length : Nat) : Int) < 1073741824
      rw [lm]; omega
    have j1' : j < (((ls.map V.ref).length : Nat) : Int) := j1
    have b9 : But p H6 (upd H8 p (.lst [.int x9, .int y9, .int z9])) := b8.trans (But.set _)
    have p9 : PenAt (upd H8 p (.lst [.int x9, .int y9, .int z9])) p := PenAt.put
    have L9 : (upd H8 p (.lst [.int x9, .int y9, .int z9])) L = some (.lst (ls.map V.ref)) := by rw [upd_ne Lp]; exact L8
    have O9 : (upd H8 p (.lst [.int x9, .int y9, .int z9])) O = some (.lst (os.map V.ref)) := by rw [upd_ne Op]; exact O8
    generalize upd H8 p (.lst [.int x9, .int y9, .int z9]) = H9 at b9 p9 L9 O9 ⊢
    obtain ⟨k, rfl⟩ : ∃ k : Nat, j = (k : Int) := ⟨j.toNat, by omega⟩
    have hk : k < ls.length := by rw [lm] at j1'; omega
    have hy := List.getElem?_eq_getElem hk
    obtain ⟨st, e1, e2⟩ := A7.get k _ hy
    refine ⟨L, _, _, k, .ref ls[k], rfl, rfl, L9, by omega, by omega, PySem.StrLaws.seqIndex_nonneg j0 j1', by rw [List.getElem?_map, hy]; rfl, ?_⟩
    rw [erase_map]
    refine ⟨O, _, _, rfl, rfl, by rw [upd_ne LO.symm]; exact O9, by rw [List.length_map]; exact small1000 (by omega), ?_⟩
    refine ⟨_, ?_, ls.eraseIdx k, os ++ [ls[k]], (s0 :: lr).eraseIdx k, oss ++ [st], rfl, rfl, (b9.put hL _).put hO6 _, (p9.ne Lp.symm).ne Op.symm, by rw [upd_ne LO]; exact upd_same, by rw [List.map_append]; exact upd_same, A7.erase k, B7.append (StreamsAt.one e2), ?_⟩
    · rw [List.length_eraseIdx, if_pos hk]; omega
    · refine List.Perm.trans ?_ pm
      rw [List.append_assoc]
      exact List.Perm.append_left _ (perm_erase e1)
  | nil =>
    rw [show PyData.eqv (leftD []) (.list []) = true by simp [leftD, PyData.eqv, PyData.eqvAll]]
    refine iteF ?_
    rw [List.append_nil] at pm
    rw [List.length_nil] at lp ll
    have so7 := so.perm pm
    have fl7 := flat_len (n := 5) (ss := oss) fun s hs => (so7 s hs).1
    have mp7 := marks_perm pm
    -- other
    refine ⟨_, rfl, _, rfl, _, rfl, _, rfl, p, O, os, oss, rfl, p8, O8, B7.but p6 b8, by omega, by omega, by decide, fun tr2 t2 H9 b9 p9 T9 e9 d9 => ?_⟩
    have ea9 : t2.all = oss.flatten := by rw [Tr.all_eq, e9]
    have b29 : But p H2 H9 := ((b45.trans b6).trans b8).trans b9
    refine ⟨p, na, tr2, net, t2, rfl, p9, N2 _ b29, ok, T9, by omega, by decide, by rw [e9]; omega, by rw [ea9]; omega, by rw [ea9]; exact so7.known, fun g2 k2 m2 H10 b10 p10 G10 => ?_⟩
    have b6x : But p H6 H10 := (b8.trans b9).trans b10
    have G6x := G6.mono (tk_but b6x p6)
    -- the answer
    refine ⟨_, rfl, rfl, true, rfl, iteT ⟨_, rfl, rfl, true, rfl, iteT ⟨_, rfl, _, rfl, ?_⟩⟩⟩
    refine ⟨grD (met net (marks t2.all)) k2 m2, grD (met net (marks t.all)) k1 m1, dp_gr G10, dp_gr G6x, grD_pl _ _ _, grD_pl _ _ _, ?_⟩
    have em : met net (marks t2.all) = met net (marks t.all) := by
      rw [ea9, ea]
      exact met_congr mp7
    obtain ⟨c1, _, _, F1, u1⟩ := G6
    obtain ⟨c2, _, _, F2, u2⟩ := G10
    rw [em] at F2 u2
    have ek : k2 = k1 := F2.uniq F1
    have eu : m2 = m1 := u2.trans u1.symm
    rw [em, ek, eu, SeqAt.eqv_refl _ (grD_lay _ _ _)]
    exact q _
end
end Uk
end
section
set_option linter.all false
set_option maxRecDepth 100000
set_option maxHeartbeats 4000000
namespace Uk
open PySem PySem.Spec PyProof.Rows L2 UkS
/-! ### the top: the defs stand there as the text says -/
def DefAt (K : PySem.W.Frag) (mg : Str → Option Value) (name : Str) (st : Stmt) : Prop := ∃ (f : Addr) (fd : FuncData), Fun K name name st f fd ∧ mg name = some (.ref f)
theorem at_mk {K : PySem.W.Frag} {h : Heap} {mg : Str → Option Value} (X : K.In h) (G : h.Ns mainGlobals mg) {name : Str} {st : Stmt} {f : Addr} {oc : Value} {od an : Option Addr} {osl : Array (Option Value)} {kV doc pm cdv ct : Value}
    (a : PySem.W.nsIn K mainGlobals name = some (some (.ref f))) (l : K.lookup f = some ⟨oc, od, .func (PySem.W.fnOf name name (defArgs st) (defBody st) (defScope st) .none kV doc pm an cdv ct), osl⟩) (c : PySem.W.codeIn K cdv name = true)
    (k : PySem.W.keepIn K (.ref f) = true) : DefAt K mg name st := ⟨f, _, fun_mk (st := st) l c k, PySem.W.mg_of X G a⟩
theorem txt_mk {K : PySem.W.Frag} {h : Heap} {mg : Str → Option Value} (X : K.In h) (G : h.Ns mainGlobals mg) (z1 : PySem.W.nsIn K mainGlobals "len" = some none) (z2 : PySem.W.nsIn K mainGlobals "set" = some none) (z3 : PySem.W.nsIn K mainGlobals "sorted" = some none) (z4 : PySem.W.nsIn K mainGlobals "tuple" = some none) (z5 : PySem.W.nsIn K mainGlobals "list" = some none) (z6 : PySem.W.nsIn K mainGlobals "range" = some none) (z7 : PySem.W.nsIn K mainGlobals "int" = some none) (z8 : PySem.W.nsIn K mainGlobals "isinstance" = some none) : Txt mg :=
  ⟨PySem.W.mg_none_of X G z1, PySem.W.mg_none_of X G z2, PySem.W.mg_none_of X G z3, PySem.W.mg_none_of X G z4, PySem.W.mg_none_of X G z5, PySem.W.mg_none_of X G z6, PySem.W.mg_none_of X G z7, PySem.W.mg_none_of X G z8⟩
theorem all_mk {l : PySem.W.OpenLaw} {w : World} {K : PySem.W.Frag} {mg : Str → Option Value} {fa : Addr} (hfa : mg "law" = some (.ref fa)) (T : Txt mg)
    (A5 : DefAt K mg "unlike_in" sUnlike)
    (A7 : DefAt K mg "cells_at" sCellsAt)
    (A9 : DefAt K mg "rising" sRising)
    (A10 : DefAt K mg "cells_of" sCellsOf)
    (A11 : DefAt K mg "merged_cells" sMerged)
    (A12 : DefAt K mg "open_rows" sOpen)
    (A13 : DefAt K mg "may_be" sMayBe)
    (A15 : DefAt K mg "ways_of" sWays)
    (A16 : DefAt K mg "reached" sReached)
    (A17 : DefAt K mg "paired" sPaired)
    (A18 : DefAt K mg "few_marks" sFew)
    (A19 : DefAt K mg "far_spots" sFar)
    (A20 : DefAt K mg "unlike_by" sUnlikeBy)
    (A22 : DefAt K mg "streams_in" sStreamsIn)
    (A23 : DefAt K mg "stream_of" sStreamOf)
    (A25 : DefAt K mg "_law_pen" sPen)
    (A26 : DefAt K mg "_law_draw" sDraw)
    (A27 : DefAt K mg "_law_names" sNames)
    (A28 : DefAt K mg "_law_net" sNet)
    (A29 : DefAt K mg "_law_stream" sStream)
    (A30 : DefAt K mg "_law_met" sMet)
    (A31 : DefAt K mg "_law_tree" sTree)
    (A32 : DefAt K mg "_law_all" sAll)
    (A33 : DefAt K mg "_law_grown" sGrown)
    (A34 : DefAt K mg "law" sLaw) :
    ∃ fd : FuncData, (∀ (s : Shared) (v : Value), BindsTo s fd ⟨[v], []⟩ [("_law_script", v)]) ∧ ∀ base : Heap, K.In base → base.Ns mainGlobals mg → FnOk l.prog w K mg base CX0 21 fa fd ["_law_script"] (spLaw K) := by
  obtain ⟨f5, g5, F5, m5⟩ := A5
  obtain ⟨f7, g7, F7, m7⟩ := A7
  obtain ⟨f9, g9, F9, m9⟩ := A9
  obtain ⟨f10, g10, F10, m10⟩ := A10
  obtain ⟨f11, g11, F11, m11⟩ := A11
  obtain ⟨f12, g12, F12, m12⟩ := A12
  obtain ⟨f13, g13, F13, m13⟩ := A13
  obtain ⟨f15, g15, F15, m15⟩ := A15
  obtain ⟨f16, g16, F16, m16⟩ := A16
  obtain ⟨f17, g17, F17, m17⟩ := A17
  obtain ⟨f18, g18, F18, m18⟩ := A18
  obtain ⟨f19, g19, F19, m19⟩ := A19
  obtain ⟨f20, g20, F20, m20⟩ := A20
  obtain ⟨f22, g22, F22, m22⟩ := A22
  obtain ⟨f23, g23, F23, m23⟩ := A23
  obtain ⟨f25, g25, F25, m25⟩ := A25
  obtain ⟨f26, g26, F26, m26⟩ := A26
  obtain ⟨f27, g27, F27, m27⟩ := A27
  obtain ⟨f28, g28, F28, m28⟩ := A28
  obtain ⟨f29, g29, F29, m29⟩ := A29
  obtain ⟨f30, g30, F30, m30⟩ := A30
  obtain ⟨f31, g31, F31, m31⟩ := A31
  obtain ⟨f32, g32, F32, m32⟩ := A32
  obtain ⟨f33, g33, F33, m33⟩ := A33
  obtain ⟨f34, g34, F34, m34⟩ := A34
  have e := hfa.symm.trans m34
  cases e
  refine ⟨g34, fun s v => ?_, fun base _ _ => ?_⟩
  · obtain ⟨oc, od, kV, doc, pm, an, cdv, ct, osl, rfl, lk, hcd⟩ := F34.ex
    exact .of_eq rfl
  have b5 := F5.binds (ps := ["stream"]) fun _ _ _ _ _ _ us hl => match us, hl with | [_], _ => rfl
  have D5 : IsDef l.prog w K mg base "unlike_in" 1 ["stream"] spUnlike := ⟨f5, g5, ok_unlike F5 T, m5, F5.kp, b5⟩
  have b7 := F7.binds (ps := ["net", "mark"]) fun _ _ _ _ _ _ us hl => match us, hl with | [_, _], _ => rfl
  have D7 : IsDef l.prog w K mg base "cells_at" 1 ["net", "mark"] spCellsAt := ⟨f7, g7, ok_cellsAt F7, m7, F7.kp, b7⟩
  have b9 := F9.binds (ps := ["some"]) fun _ _ _ _ _ _ us hl => match us, hl with | [_], _ => rfl
  have D9 : IsDef l.prog w K mg base "rising" 1 ["some"] spRising := ⟨f9, g9, ok_rising F9 T, m9, F9.kp, b9⟩
  have b10 := F10.binds (ps := ["net", "stream"]) fun _ _ _ _ _ _ us hl => match us, hl with | [_, _], _ => rfl
  have D10 : IsDef l.prog w K mg base "cells_of" 2 ["net", "stream"] spCellsOf := ⟨f10, g10, ok_cellsOf F10 D7 D9, m10, F10.kp, b10⟩
  have b11 := F11.binds (ps := ["one", "other"]) fun _ _ _ _ _ _ us hl => match us, hl with | [_, _], _ => rfl
  have D11 : IsDef l.prog w K mg base "merged_cells" 2 ["one", "other"] spMerged := ⟨f11, g11, ok_merged F11 D9, m11, F11.kp, b11⟩
  have b12 := F12.binds (ps := ["net", "cells"]) fun _ _ _ _ _ _ us hl => match us, hl with | [_, _], _ => rfl
  have D12 : IsDef l.prog w K mg base "open_rows" 1 ["net", "cells"] spOpen := ⟨f12, g12, ok_open F12, m12, F12.kp, b12⟩
  have b13 := F13.binds (ps := ["net", "cells"]) fun _ _ _ _ _ _ us hl => match us, hl with | [_, _], _ => rfl
  have D13 : IsDef l.prog w K mg base "may_be" 2 ["net", "cells"] spMayBe := ⟨f13, g13, ok_mayBe F13 D12 D9, m13, F13.kp, b13⟩
  have b15 := F15.binds (ps := ["some"]) fun _ _ _ _ _ _ us hl => match us, hl with | [_], _ => rfl
  have D15 : IsDef l.prog w K mg base "ways_of" 1 ["some"] spWays := ⟨f15, g15, ok_ways F15, m15, F15.kp, b15⟩
  have b16 := F16.binds (ps := ["ways", "held", "begins"]) fun _ _ _ _ _ _ us hl => match us, hl with | [_, _, _], _ => rfl
  have D16 : IsDef l.prog w K mg base "reached" 1 ["ways", "held", "begins"] spReached := ⟨f16, g16, ok_reached F16 T, m16, F16.kp, b16⟩
  have b17 := F17.binds (ps := ["ways"]) fun _ _ _ _ _ _ us hl => match us, hl with | [_], _ => rfl
  have D17 : IsDef l.prog w K mg base "paired" 2 ["ways"] spPaired := ⟨f17, g17, ok_paired F17 T D16, m17, F17.kp, b17⟩
  have b18 := F18.binds (ps := ["some", "ways", "held"]) fun _ _ _ _ _ _ us hl => match us, hl with | [_, _, _], _ => rfl
  have D18 : IsDef l.prog w K mg base "few_marks" 1 ["some", "ways", "held"] spFew := ⟨f18, g18, ok_few F18 T, m18, F18.kp, b18⟩
  have b19 := F19.binds (ps := ["some", "ways", "held"]) fun _ _ _ _ _ _ us hl => match us, hl with | [_, _, _], _ => rfl
  have D19 : IsDef l.prog w K mg base "far_spots" 2 ["some", "ways", "held"] spFar := ⟨f19, g19, ok_far F19 T D16, m19, F19.kp, b19⟩
  have b20 := F20.binds (ps := ["net", "cells"]) fun _ _ _ _ _ _ us hl => match us, hl with | [_, _], _ => rfl
  have D20 : IsDef l.prog w K mg base "unlike_by" 3 ["net", "cells"] spUnlikeBy := ⟨f20, g20, ok_unlikeBy F20 D13 D12 D15 D17 D18 D19, m20, F20.kp, b20⟩
  have b22 := F22.binds (ps := ["tree"]) fun _ _ _ _ _ _ us hl => match us, hl with | [_], _ => rfl
  have D22 : IsDef l.prog w K mg base "streams_in" 10 ["tree"] (spStreamsIn 10) := ⟨f22, g22, all_streamsIn F22 T m22 F22.kp b22 10, m22, F22.kp, b22⟩
  have b23 := F23.binds (ps := ["tree"]) fun _ _ _ _ _ _ us hl => match us, hl with | [_], _ => rfl
  have D23 : IsDef l.prog w K mg base "stream_of" 11 ["tree"] spStreamOf := ⟨f23, g23, ok_streamOf F23 D22, m23, F23.kp, b23⟩
  have b25 := F25.binds (ps := ["_law_script", "_law_k"]) fun _ _ _ _ _ _ us hl => match us, hl with | [_, _], _ => rfl
  have D25 : IsDef l.prog w K mg base "_law_pen" 1 ["_law_script", "_law_k"] (spPen K) := ⟨f25, g25, ok_pen F25 T, m25, F25.kp, b25⟩
  have b26 := F26.binds (ps := ["_law_pen_here", "_law_size"]) fun _ _ _ _ _ _ us hl => match us, hl with | [_, _], _ => rfl
  have D26 : IsDef l.prog w K mg base "_law_draw" 1 ["_law_pen_here", "_law_size"] spDraw := ⟨f26, g26, ok_draw F26, m26, F26.kp, b26⟩
  have b27 := F27.binds (ps := ["_law_pen_here", "_law_many"]) fun _ _ _ _ _ _ us hl => match us, hl with | [_, _], _ => rfl
  have D27 : IsDef l.prog w K mg base "_law_names" 2 ["_law_pen_here", "_law_many"] spNames := ⟨f27, g27, ok_names F27 T D26, m27, F27.kp, b27⟩
  have b28 := F28.binds (ps := ["_law_pen_here"]) fun _ _ _ _ _ _ us hl => match us, hl with | [_], _ => rfl
  have D28 : IsDef l.prog w K mg base "_law_net" 3 ["_law_pen_here"] spNet := ⟨f28, g28, ok_net F28 T D26 D27, m28, F28.kp, b28⟩
  have b29 := F29.binds (ps := ["_law_pen_here", "_law_net_here", "_law_most"]) fun _ _ _ _ _ _ us hl => match us, hl with | [_, _, _], _ => rfl
  have D29 : IsDef l.prog w K mg base "_law_stream" 2 ["_law_pen_here", "_law_net_here", "_law_most"] spStream := ⟨f29, g29, ok_stream F29 T D26, m29, F29.kp, b29⟩
  have b30 := F30.binds (ps := ["_law_net_here", "_law_stream_here"]) fun _ _ _ _ _ _ us hl => match us, hl with | [_, _], _ => rfl
  have D30 : IsDef l.prog w K mg base "_law_met" 1 ["_law_net_here", "_law_stream_here"] spMet := ⟨f30, g30, ok_met F30 T, m30, F30.kp, b30⟩
  have b31 := F31.binds (ps := ["_law_pen_here", "_law_streams"]) fun _ _ _ _ _ _ us hl => match us, hl with | [_, _], _ => rfl
  have D31 : IsDef l.prog w K mg base "_law_tree" 10 ["_law_pen_here", "_law_streams"] (spTree 8) := ⟨f31, g31, all_tree F31 T D26 m31 F31.kp b31 8, m31, F31.kp, b31⟩
  have b32 := F32.binds (ps := ["_law_tree_here"]) fun _ _ _ _ _ _ us hl => match us, hl with | [_], _ => rfl
  have D32 : IsDef l.prog w K mg base "_law_all" 10 ["_law_tree_here"] (spAll 10) := ⟨f32, g32, all_all F32 T m32 F32.kp b32 10, m32, F32.kp, b32⟩
  have b33 := F33.binds (ps := ["_law_pen_here", "_law_net_here", "_law_tree_here"]) fun _ _ _ _ _ _ us hl => match us, hl with | [_, _, _], _ => rfl
  have D33 : IsDef l.prog w K mg base "_law_grown" 20 ["_law_pen_here", "_law_net_here", "_law_tree_here"] (spGrown 8) := ⟨f33, g33, all_grown F33 T m33 F33.kp b33 D26 D10 D11 D32 D23 D30 D5 D20 8, m33, F33.kp, b33⟩
  exact ok_law F34 T D26 D25 D28 D29 D31 D33
theorem walk {l : PySem.W.OpenLaw} {q : Program} {loose : List Str} {XP : (Str → Option Value) → Heap → Prop} {YP : World → Heap → Prop} {d : DefRec} {K : Params → PySem.W.Frag} (hn : l.most = some 63) (hdf : d.params.defaults = [])
    (hY : ∀ (w : World) (h : Heap), YP w h → (K w.params).In h)
    (F : ∀ (w : World) (mg : Str → Option Value) (fa : Addr) (h : Heap), (K w.params).In h → h.Ns mainGlobals mg → mg d.name = some (.ref fa) →
      ∃ fd : FuncData, (∀ (s : Shared) (u : Value), BindsTo s fd ⟨[u], []⟩ [("_law_script", u)]) ∧ ∀ base : Heap, (K w.params).In base → base.Ns mainGlobals mg → FnOk l.prog w (K w.params) mg base CX0 21 fa fd ["_law_script"] (spLaw (K w.params))) :
    PySem.W.WalkO q loose XP YP l.row.toRowW d [] (fun f vs => PySem.call f vs) :=
  L2.walk_of (n := 63) (k := 21) (x := "_law_script") (CX := fun _ => CX0) (sp := fun w => spLaw (K w.params)) hn (by decide) hdf ⟨rfl, by decide, by decide⟩ hY F (fun _ _ a ns hl _ hS => ⟨a, ns, rfl, hS, hl, fun _ => rfl⟩) fun _ _ _ _ _ z => z
end Uk
end
open PySem PySem.W PyProof.Rows
set_option maxRecDepth 100000 in
set_option maxHeartbeats 0 in
theorem PySem.Challenge.cw_sumshare_k66_whole_unlike_marks_of_trees_holds : PySem.Challenge.rw_sumshare_k66_whole_unlike_marks_of_trees.Holds := by
  w_on; o_law; k_head; (case hw => w_witness2)
  k_fill
  refine Uk.walk (l := PySem.Challenge.rw_sumshare_k66_whole_unlike_marks_of_trees) rfl rfl (fun w h Y => PySem.W.kIn_of Y) ?F
  case F =>
    intro w mg fa h KX G hmg
    refine' Uk.all_mk hmg (Uk.txt_mk KX G ?z1 ?z2 ?z3 ?z4 ?z5 ?z6 ?z7 ?z8)
      (Uk.at_mk KX G ?a5 ?l5 ?c5 ?k5)
      (Uk.at_mk KX G ?a7 ?l7 ?c7 ?k7)
      (Uk.at_mk KX G ?a9 ?l9 ?c9 ?k9)
      (Uk.at_mk KX G ?a10 ?l10 ?c10 ?k10)
      (Uk.at_mk KX G ?a11 ?l11 ?c11 ?k11)
      (Uk.at_mk KX G ?a12 ?l12 ?c12 ?k12)
      (Uk.at_mk KX G ?a13 ?l13 ?c13 ?k13)
      (Uk.at_mk KX G ?a15 ?l15 ?c15 ?k15)
      (Uk.at_mk KX G ?a16 ?l16 ?c16 ?k16)
      (Uk.at_mk KX G ?a17 ?l17 ?c17 ?k17)
      (Uk.at_mk KX G ?a18 ?l18 ?c18 ?k18)
      (Uk.at_mk KX G ?a19 ?l19 ?c19 ?k19)
      (Uk.at_mk KX G ?a20 ?l20 ?c20 ?k20)
      (Uk.at_mk KX G ?a22 ?l22 ?c22 ?k22)
      (Uk.at_mk KX G ?a23 ?l23 ?c23 ?k23)
      (Uk.at_mk KX G ?a25 ?l25 ?c25 ?k25)
      (Uk.at_mk KX G ?a26 ?l26 ?c26 ?k26)
      (Uk.at_mk KX G ?a27 ?l27 ?c27 ?k27)
      (Uk.at_mk KX G ?a28 ?l28 ?c28 ?k28)
      (Uk.at_mk KX G ?a29 ?l29 ?c29 ?k29)
      (Uk.at_mk KX G ?a30 ?l30 ?c30 ?k30)
      (Uk.at_mk KX G ?a31 ?l31 ?c31 ?k31)
      (Uk.at_mk KX G ?a32 ?l32 ?c32 ?k32)
      (Uk.at_mk KX G ?a33 ?l33 ?c33 ?k33)
      (Uk.at_mk KX G ?a34 ?l34 ?c34 ?k34)
    (case a5 => k_is); (case l5 => k_is); (case c5 => k_is); (case k5 => k_is)
    (case a7 => k_is); (case l7 => k_is); (case c7 => k_is); (case k7 => k_is)
    (case a9 => k_is); (case l9 => k_is); (case c9 => k_is); (case k9 => k_is)
    (case a10 => k_is); (case l10 => k_is); (case c10 => k_is); (case k10 => k_is)
    (case a11 => k_is); (case l11 => k_is); (case c11 => k_is); (case k11 => k_is)
    (case a12 => k_is); (case l12 => k_is); (case c12 => k_is); (case k12 => k_is)
    (case a13 => k_is); (case l13 => k_is); (case c13 => k_is); (case k13 => k_is)
    (case a15 => k_is); (case l15 => k_is); (case c15 => k_is); (case k15 => k_is)
    (case a16 => k_is); (case l16 => k_is); (case c16 => k_is); (case k16 => k_is)
    (case a17 => k_is); (case l17 => k_is); (case c17 => k_is); (case k17 => k_is)
    (case a18 => k_is); (case l18 => k_is); (case c18 => k_is); (case k18 => k_is)
    (case a19 => k_is); (case l19 => k_is); (case c19 => k_is); (case k19 => k_is)
    (case a20 => k_is); (case l20 => k_is); (case c20 => k_is); (case k20 => k_is)
    (case a22 => k_is); (case l22 => k_is); (case c22 => k_is); (case k22 => k_is)
    (case a23 => k_is); (case l23 => k_is); (case c23 => k_is); (case k23 => k_is)
    (case a25 => k_is); (case l25 => k_is); (case c25 => k_is); (case k25 => k_is)
    (case a26 => k_is); (case l26 => k_is); (case c26 => k_is); (case k26 => k_is)
    (case a27 => k_is); (case l27 => k_is); (case c27 => k_is); (case k27 => k_is)
    (case a28 => k_is); (case l28 => k_is); (case c28 => k_is); (case k28 => k_is)
    (case a29 => k_is); (case l29 => k_is); (case c29 => k_is); (case k29 => k_is)
    (case a30 => k_is); (case l30 => k_is); (case c30 => k_is); (case k30 => k_is)
    (case a31 => k_is); (case l31 => k_is); (case c31 => k_is); (case k31 => k_is)
    (case a32 => k_is); (case l32 => k_is); (case c32 => k_is); (case k32 => k_is)
    (case a33 => k_is); (case l33 => k_is); (case c33 => k_is); (case k33 => k_is)
    (case a34 => k_is); (case l34 => k_is); (case c34 => k_is); (case k34 => k_is)
    (case z1 => k_is)
    (case z2 => k_is)
    (case z3 => k_is)
    (case z4 => k_is)
    (case z5 => k_is)
    (case z6 => k_is)
    (case z7 => k_is)
    (case z8 => k_is)
