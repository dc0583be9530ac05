import PyProof.Rows.All
import Wide.All
import OpenK.AllK
import Wide.FinOn
import HandS.ForMost
import HandS.More
import HandS.Style
import HandS.SortKw
import HandS.Lambda
import HandS.Nested
import HandS.EndTab
import HandS.Evl
import KE.KDictKeyed
import KE.KMinKey
import PySem.Challenge.RW_callmill_k70_whole_packs_of_other_cells
import HandS.Walk
import HandS.NoneIn
set_option Elab.async false
set_option linter.all false
set_option maxRecDepth 100000
set_option maxHeartbeats 4000000
namespace Mill
section
variable {α β : Type} [DecidableEq α] [DecidableEq β]
def uq : List α → List α → List α
  | acc, [] => acc
  | acc, x :: xs => if x ∈ acc then uq acc xs else uq (acc ++ [x]) xs
theorem uq_snoc : ∀ (xs acc : List α) (x : α), uq acc (xs ++ [x]) = if x ∈ uq acc xs then uq acc xs else uq acc xs ++ [x]
  | [], acc, x => rfl
  | y :: ys, acc, x => by
    simp only [List.cons_append, uq]
    split
    · exact uq_snoc ys acc x
    · exact uq_snoc ys (acc ++ [y]) x
theorem uq_nodup : ∀ (xs acc : List α), acc.Nodup → (uq acc xs).Nodup
  | [], acc, h => h
  | y :: ys, acc, h => by
    simp only [uq]
    split
    · exact uq_nodup ys acc h
    · rename_i hy
      refine uq_nodup ys (acc ++ [y]) (List.nodup_append.mpr ⟨h, by simp, fun a ha b hb => ?_⟩)
      have e : b = y := by simpa using hb
      subst e
      exact fun q => hy (q ▸ ha)
theorem mem_uq : ∀ (xs acc : List α) (x : α), x ∈ uq acc xs ↔ x ∈ acc ∨ x ∈ xs
  | [], acc, x => by simp [uq]
  | y :: ys, acc, x => by
    simp only [uq]
    split
    · rename_i hy
      rw [mem_uq ys acc x]
      constructor
      · rintro (h | h)
        · exact .inl h
        · exact .inr (List.mem_cons_of_mem _ h)
      · rintro (h | h)
        · exact .inl h
        · rcases List.mem_cons.mp h with e | h
          · subst e; exact .inl hy
          · exact .inr h
    · rw [mem_uq ys (acc ++ [y]) x]
      simp only [List.mem_append, List.mem_cons, List.not_mem_nil, or_false]
      constructor
      · rintro ((h | h) | h)
        · exact .inl h
        · exact .inr (.inl h)
        · exact .inr (.inr h)
      · rintro (h | h | h)
        · exact .inl (.inl h)
        · exact .inl (.inr h)
        · exact .inr h
theorem uq_len : ∀ (xs acc : List α), (uq acc xs).length ≤ acc.length + xs.length
  | [], acc => by simp [uq]
  | y :: ys, acc => by
    simp only [uq]
    split
    · have := uq_len ys acc
      simp only [List.length_cons]; omega
    · have := uq_len ys (acc ++ [y])
      simp only [List.length_cons, List.length_append, List.length_nil] at *; omega
theorem uq_map (f : α → β) (hf : ∀ a b, f a = f b → a = b) : ∀ (xs acc : List α), uq (acc.map f) (xs.map f) = (uq acc xs).map f
  | [], acc => rfl
  | y :: ys, acc => by
    simp only [List.map_cons, uq]
    have e : f y ∈ acc.map f ↔ y ∈ acc := by
      constructor
      · intro h
        obtain ⟨z, hz, e⟩ := List.mem_map.mp h
        exact hf _ _ e ▸ hz
      · exact fun h => List.mem_map.mpr ⟨y, h, rfl⟩
    by_cases h : y ∈ acc
    · rw [if_pos h, if_pos (e.mpr h)]
      exact uq_map f hf ys acc
    · rw [if_neg h, if_neg (fun q => h (e.mp q))]
      have := uq_map f hf ys (acc ++ [y])
      rw [List.map_append] at this
      exact this
def ix (us : List α) (x : α) : Nat := us.idxOf x
theorem idx_get : ∀ {us : List α} {x : α}, x ∈ us → us[ix us x]? = some x
  | y :: ys, x, h => by
    show (y :: ys)[(y :: ys).idxOf x]? = some x
    rw [List.idxOf_cons]
    by_cases e : y = x
    · subst e; simp
    · have e' : (y == x) = false := by simpa using e
      rw [e']
      have hx : x ∈ ys := by
        rcases List.mem_cons.mp h with q | q
        · exact absurd q.symm e
        · exact q
      have h1 : ys[ys.idxOf x]? = some x := idx_get hx
      simpa using h1
theorem idx_lt {us : List α} {x : α} (h : x ∈ us) : ix us x < us.length := (List.getElem?_eq_some_iff.mp (idx_get h)).1
theorem idx_of_get : ∀ {us : List α} {x : α} {i : Nat}, us.Nodup → us[i]? = some x → ix us x = i := fun {us x i} nd h => by
  have h1 := idx_get (List.mem_of_getElem? h)
  obtain ⟨a, e1⟩ := List.getElem?_eq_some_iff.mp h
  obtain ⟨b, e2⟩ := List.getElem?_eq_some_iff.mp h1
  exact (List.getElem_inj nd).mp (e2.trans e1.symm)
/-- a list without doubles that lies in another is no longer -/
theorem nodup_le : ∀ (xs ys : List α), xs.Nodup → (∀ x ∈ xs, x ∈ ys) → xs.length ≤ ys.length
  | [], ys, _, _ => Nat.zero_le _
  | x :: xs, ys, nd, h => by
    have hx := h x List.mem_cons_self
    have nd' := List.nodup_cons.mp nd
    have := nodup_le xs (ys.erase x) nd'.2 fun z hz => (List.mem_erase_of_ne (fun e : z = x => nd'.1 (by rw [← e]; exact hz))).mpr (h z (List.mem_cons_of_mem _ hz))
    have h2 := List.length_erase_of_mem hx
    have h3 := List.length_pos_of_mem hx
    simp only [List.length_cons]; omega
end

/-! ### shapes -/
structure Sh where
  c : Nat × Nat
  ts : List (Nat × Nat × Nat)
instance : Inhabited Sh := ⟨⟨(0, 0), []⟩⟩
def tri (t : Nat × Nat × Nat) : List Int := [(t.1 : Int), (t.2.1 : Int), (t.2.2 : Int)]
def Sh.cells (s : Sh) : List Int := (s.c.1 : Int) :: (s.c.2 : Int) :: s.ts.flatMap tri
def Sh.at (s : Sh) (p : Nat) : Nat × Nat := match s.ts.find? (fun t => t.1 == p) with
  | some t => t.2
  | none => s.c
structure Sh.Ok (s : Sh) (E S R : Nat) : Prop where
  c1 : s.c.1 < S
  c2 : s.c.2 < R
  up : s.ts.Pairwise fun a b => a.1 < b.1
  tb : ∀ t ∈ s.ts, t.1 < E ∧ t.2.1 < S ∧ t.2.2 < R
  ln : s.ts.length ≤ 20
theorem tris_len : ∀ ts : List (Nat × Nat × Nat), (ts.flatMap tri).length = 3 * ts.length
  | [] => rfl
  | t :: ts => by
    rw [List.flatMap_cons, List.length_append, tris_len ts, List.length_cons]
    simp only [tri, List.length_cons, List.length_nil]; omega
theorem tris_get : ∀ (ts : List (Nat × Nat × Nat)) (j : Nat) (t : Nat × Nat × Nat), ts[j]? = some t →
    (ts.flatMap tri)[3 * j]? = some (t.1 : Int) ∧ (ts.flatMap tri)[3 * j + 1]? = some (t.2.1 : Int) ∧ (ts.flatMap tri)[3 * j + 2]? = some (t.2.2 : Int)
  | [], j, t, h => by simp at h
  | u :: ts, 0, t, h => by
    simp at h; subst h
    simp [tri]
  | u :: ts, j + 1, t, h => by
    have ih := tris_get ts j t (by simpa using h)
    have hl : (tri u).length = 3 := rfl
    rw [List.flatMap_cons, List.getElem?_append_right (by omega), List.getElem?_append_right (by omega), List.getElem?_append_right (by omega)]
    have e0 : 3 * (j + 1) - (tri u).length = 3 * j := by omega
    have e1 : 3 * (j + 1) + 1 - (tri u).length = 3 * j + 1 := by omega
    have e2 : 3 * (j + 1) + 2 - (tri u).length = 3 * j + 2 := by omega
    rw [e0, e1, e2]
    exact ih
theorem Sh.len (s : Sh) : s.cells.length = 2 + 3 * s.ts.length := by
  unfold Sh.cells
  rw [List.length_cons, List.length_cons, tris_len]; omega
theorem Sh.get0 (s : Sh) : s.cells[0]? = some (s.c.1 : Int) := rfl
theorem Sh.get1 (s : Sh) : s.cells[1]? = some (s.c.2 : Int) := rfl
theorem Sh.get (s : Sh) {j : Nat} {t : Nat × Nat × Nat} (h : s.ts[j]? = some t) :
    s.cells[2 + 3 * j]? = some (t.1 : Int) ∧ s.cells[3 + 3 * j]? = some (t.2.1 : Int) ∧ s.cells[4 + 3 * j]? = some (t.2.2 : Int) := by
  obtain ⟨h0, h1, h2⟩ := tris_get s.ts j t h
  unfold Sh.cells
  have e0 : 2 + 3 * j = 3 * j + 1 + 1 := by omega
  have e1 : 3 + 3 * j = 3 * j + 1 + 1 + 1 := by omega
  have e2 : 4 + 3 * j = 3 * j + 2 + 1 + 1 := by omega
  rw [e0, e1, e2]
  simp only [List.getElem?_cons_succ]
  exact ⟨h0, h1, h2⟩
theorem Sh.at_hit {s : Sh} {E S R : Nat} (h : s.Ok E S R) {j : Nat} {t : Nat × Nat × Nat} (e : s.ts[j]? = some t) : s.at t.1 = t.2 := by
  unfold Sh.at
  have : s.ts.find? (fun u => u.1 == t.1) = some t := by
    have up := h.up
    revert e up
    generalize s.ts = l
    intro e up
    induction l generalizing j with
    | nil => simp at e
    | cons u l ih =>
      rw [List.find?_cons]
      cases j with
      | zero =>
        simp at e; subst e; simp
      | succ j =>
        have e' : l[j]? = some t := by simpa using e
        have hlt := (List.pairwise_cons.mp up).1 t (List.mem_of_getElem? e')
        have : (u.1 == t.1) = false := by simp; omega
        rw [this]
        exact ih e' (List.pairwise_cons.mp up).2
  rw [this]
theorem Sh.at_miss {s : Sh} {p : Nat} (h : ∀ t ∈ s.ts, t.1 ≠ p) : s.at p = s.c := by
  unfold Sh.at
  have : s.ts.find? (fun u => u.1 == p) = none := List.find?_eq_none.mpr fun t ht => by simpa using h t ht
  rw [this]
theorem Sh.at_lt {s : Sh} {E S R : Nat} (h : s.Ok E S R) (p : Nat) : (s.at p).1 < S ∧ (s.at p).2 < R := by
  unfold Sh.at
  cases e : s.ts.find? (fun u => u.1 == p) with
  | none => exact ⟨h.c1, h.c2⟩
  | some t => exact (h.tb t (List.mem_of_find?_eq_some e)).2
/-- the shape of a row of pairs, with its common pair -/
def mkTs (c : Nat × Nat) (n : Nat) (ps : List (Nat × Nat)) : List (Nat × Nat × Nat) := match ps with
  | [] => []
  | p :: r => if p = c then mkTs c (n + 1) r else (n, p.1, p.2) :: mkTs c (n + 1) r
theorem mkTs_snoc (c : Nat × Nat) : ∀ (ps : List (Nat × Nat)) (n : Nat) (p : Nat × Nat), mkTs c n (ps ++ [p]) = mkTs c n ps ++ (if p = c then [] else [(n + ps.length, p.1, p.2)])
  | [], n, p => by
    simp only [List.nil_append, mkTs, List.length_nil, Nat.add_zero]
  | q :: r, n, p => by
    simp only [List.cons_append, mkTs, List.length_cons]
    have e : n + (r.length + 1) = n + 1 + r.length := by omega
    rw [mkTs_snoc c r (n + 1) p, e]
    split
    · rfl
    · rw [List.cons_append]
theorem mkTs_ge (c : Nat × Nat) : ∀ (ps : List (Nat × Nat)) (n : Nat) (t : Nat × Nat × Nat), t ∈ mkTs c n ps → n ≤ t.1 ∧ t.1 < n + ps.length ∧ t.2 ∈ ps
  | [], n, t, h => by simp [mkTs] at h
  | q :: r, n, t, h => by
    simp only [mkTs] at h
    split at h
    · have := mkTs_ge c r (n + 1) t h
      simp only [List.length_cons]
      exact ⟨by omega, by omega, List.mem_cons_of_mem _ this.2.2⟩
    · rcases List.mem_cons.mp h with e | h
      · subst e
        simp only [List.length_cons]
        exact ⟨Nat.le_refl _, by omega, List.mem_cons_self⟩
      · have := mkTs_ge c r (n + 1) t h
        simp only [List.length_cons]
        exact ⟨by omega, by omega, List.mem_cons_of_mem _ this.2.2⟩
theorem mkTs_up (c : Nat × Nat) : ∀ (ps : List (Nat × Nat)) (n : Nat), (mkTs c n ps).Pairwise fun a b => a.1 < b.1
  | [], n => List.Pairwise.nil
  | q :: r, n => by
    simp only [mkTs]
    split
    · exact mkTs_up c r (n + 1)
    · refine List.pairwise_cons.mpr ⟨fun t ht => ?_, mkTs_up c r (n + 1)⟩
      have := (mkTs_ge c r (n + 1) t ht).1
      show n < t.1
      omega
theorem mkTs_len (c : Nat × Nat) : ∀ (ps : List (Nat × Nat)) (n : Nat), (mkTs c n ps).length ≤ ps.length
  | [], n => Nat.le_refl _
  | q :: r, n => by
    simp only [mkTs]
    have := mkTs_len c r (n + 1)
    split <;> simp only [List.length_cons] <;> omega
theorem mkTs_find (c : Nat × Nat) : ∀ (ps : List (Nat × Nat)) (n p : Nat) (q : Nat × Nat), ps[p]? = some q →
    (match (mkTs c n ps).find? (fun t => t.1 == n + p) with | some t => t.2 | none => c) = q
  | [], n, p, q, h => by simp at h
  | x :: r, n, 0, q, h => by
    simp at h; subst h
    simp only [Nat.add_zero]
    by_cases e : x = c
    · have h0 : mkTs c n (x :: r) = mkTs c (n + 1) r := by simp only [mkTs, if_pos e]
      have : (mkTs c (n + 1) r).find? (fun t => t.1 == n) = none := List.find?_eq_none.mpr fun t ht => by
        have := (mkTs_ge c r (n + 1) t ht).1
        simp; omega
      rw [h0, this]; exact e.symm
    · have h0 : mkTs c n (x :: r) = (n, x.1, x.2) :: mkTs c (n + 1) r := by simp only [mkTs, if_neg e]
      rw [h0]
      simp [List.find?_cons]
  | x :: r, n, p + 1, q, h => by
    have ih := mkTs_find c r (n + 1) p q (by simpa using h)
    have e : n + 1 + p = n + (p + 1) := by omega
    rw [e] at ih
    by_cases e : x = c
    · have h0 : mkTs c n (x :: r) = mkTs c (n + 1) r := by simp only [mkTs, if_pos e]
      rw [h0]
      exact ih
    · have h0 : mkTs c n (x :: r) = (n, x.1, x.2) :: mkTs c (n + 1) r := by simp only [mkTs, if_neg e]
      have h1 : (n == n + (p + 1)) = false := by simp
      rw [h0]
      simp only [List.find?_cons, h1]
      exact ih
def mkSh (ps : List (Nat × Nat)) (c : Nat × Nat) : Sh := ⟨c, mkTs c 0 ps⟩
theorem mkSh_at {ps : List (Nat × Nat)} {c q : Nat × Nat} {p : Nat} (h : ps[p]? = some q) : (mkSh ps c).at p = q := by
  have := mkTs_find c ps 0 p q h
  rw [Nat.zero_add] at this
  exact this
theorem mkSh_ok {ps : List (Nat × Nat)} {c : Nat × Nat} {S R : Nat} (hc : c ∈ ps) (h : ∀ q ∈ ps, q.1 < S ∧ q.2 < R) (hl : ps.length ≤ 20) : (mkSh ps c).Ok ps.length S R where
  c1 := (h c hc).1
  c2 := (h c hc).2
  up := mkTs_up c ps 0
  tb := fun t ht => by
    obtain ⟨h1, h2, h3⟩ := mkTs_ge c ps 0 t ht
    exact ⟨by omega, h _ h3⟩
  ln := Nat.le_trans (mkTs_len c ps 0) hl

/-! ### packs -/
structure Pk where
  saying : Nat
  rooms : List (Nat × Bool)
  shapes : List Sh
  sayings : List (List Nat)
def roomCell (r : Nat × Bool) : Int := 2 * (r.1 : Int) + (if r.2 then 1 else 0)
def block (b : List Int) : List Int := (b.length : Int) :: b
def nats (l : List Nat) : List Int := l.map fun (i : Nat) => (i : Int)
def Pk.head (k : Pk) : List Int := [(k.rooms.length : Int), (k.sayings.length : Int), (k.shapes.length : Int), (k.saying : Int)] ++ k.rooms.map roomCell
def Pk.shapeL (k : Pk) : List (List Int) := k.shapes.map Sh.cells
def Pk.sayL (k : Pk) : List (List Int) := k.sayings.map nats
def Pk.cells (k : Pk) : List Int := k.head ++ k.shapeL.flatMap block ++ k.sayL.flatMap block
structure Pk.Ok (k : Pk) (E T : Nat) : Prop where
  e1 : 1 ≤ E
  e2 : E ≤ 20
  t2 : T ≤ 60
  r1 : 1 ≤ k.rooms.length
  r2 : k.rooms.length ≤ 20
  s1 : k.saying < k.sayings.length
  s2 : k.sayings.length ≤ 500
  h2 : k.shapes.length ≤ 20
  room : ∀ r ∈ k.rooms, r.1 < k.shapes.length
  shape : ∀ s ∈ k.shapes, s.Ok E k.sayings.length k.rooms.length
  texts : ∀ s ∈ k.sayings, s.length ≤ 20 ∧ ∀ t ∈ s, t < T
  over : ∀ (i s : Nat), k.rooms[i]? = some (s, true) → ∀ sh, k.shapes[s]? = some sh → ∀ p, p < E → k.sayings[(sh.at p).1]? = some [] ∧ (sh.at p).2 = i
section
variable {τ : Type} [DecidableEq τ] [Inhabited τ]
structure Tb (τ : Type) where
  saying : List τ
  rooms : List (Bool × List (List τ × Nat))
def textsOf (ts : List τ) (s : List Nat) : List τ := s.map fun i => ts.getD i default
def Pk.sayT (k : Pk) (ts : List τ) (i : Nat) : List τ := textsOf ts (k.sayings.getD i [])
def Pk.cell (k : Pk) (ts : List τ) (sh : Sh) (p : Nat) : List τ × Nat := (k.sayT ts (sh.at p).1, (sh.at p).2)
def Pk.row (k : Pk) (ts : List τ) (E : Nat) (s : Nat) : List (List τ × Nat) := (List.range E).map fun p => k.cell ts (k.shapes.getD s default) p
def Pk.tb (k : Pk) (ts : List τ) (E : Nat) : Tb τ := ⟨k.sayT ts k.saying, k.rooms.map fun r => (r.2, k.row ts E r.1)⟩
structure Tb.Ok (t : Tb τ) (E : Nat) (ts : List τ) : Prop where
  e1 : 1 ≤ E
  e2 : E ≤ 20
  t2 : ts.length ≤ 60
  r1 : 1 ≤ t.rooms.length
  r2 : t.rooms.length ≤ 20
  say : t.saying.length ≤ 20 ∧ ∀ x ∈ t.saying, x ∈ ts
  row : ∀ r ∈ t.rooms, r.2.length = E ∧ ∀ x ∈ r.2, (x.1.length ≤ 20 ∧ ∀ y ∈ x.1, y ∈ ts) ∧ x.2 < t.rooms.length
  over : ∀ (i : Nat) row, t.rooms[i]? = some (true, row) → ∀ x ∈ row, x = ([], i)
theorem textsOf_mem {ts : List τ} {s : List Nat} (h : ∀ t ∈ s, t < ts.length) : ∀ x ∈ textsOf ts s, x ∈ ts := fun x hx => by
  obtain ⟨i, hi, e⟩ := List.mem_map.mp hx
  subst e
  have := h i hi
  rw [List.getD_eq_getElem?_getD, List.getElem?_eq_getElem this]
  exact List.getElem_mem this
theorem Pk.tb_ok {k : Pk} {E : Nat} {ts : List τ} (h : k.Ok E ts.length) : (k.tb ts E).Ok E ts := by
  have say : ∀ i, i < k.sayings.length → (k.sayT ts i).length ≤ 20 ∧ ∀ x ∈ k.sayT ts i, x ∈ ts := fun i hi => by
    have e : k.sayings.getD i [] = k.sayings[i] := by rw [List.getD_eq_getElem?_getD, List.getElem?_eq_getElem hi]; rfl
    unfold Pk.sayT
    rw [e]
    obtain ⟨h1, h2⟩ := h.texts _ (List.getElem_mem hi)
    exact ⟨by unfold textsOf; rw [List.length_map]; exact h1, textsOf_mem h2⟩
  have shp : ∀ r ∈ k.rooms, ∃ sh, k.shapes[r.1]? = some sh ∧ k.shapes.getD r.1 default = sh ∧ sh.Ok E k.sayings.length k.rooms.length := fun r hr => by
    have hi := h.room r hr
    exact ⟨k.shapes[r.1], List.getElem?_eq_getElem hi, by rw [List.getD_eq_getElem?_getD, List.getElem?_eq_getElem hi]; rfl, h.shape _ (List.getElem_mem hi)⟩
  refine ⟨h.e1, h.e2, h.t2, by show 1 ≤ (k.rooms.map _).length; rw [List.length_map]; exact h.r1, by show (k.rooms.map _).length ≤ 20; rw [List.length_map]; exact h.r2, say _ h.s1, fun r hr => ?_, fun i row hr x hx => ?_⟩
  · obtain ⟨q, hq, rfl⟩ := List.mem_map.mp hr
    obtain ⟨sh, h1, h2, ok⟩ := shp q hq
    refine ⟨by show ((List.range E).map _).length = E; rw [List.length_map, List.length_range], fun x hx => ?_⟩
    obtain ⟨p, hp, rfl⟩ := List.mem_map.mp hx
    rw [h2]
    have lt := Sh.at_lt ok p
    refine ⟨say _ lt.1, ?_⟩
    show (sh.at p).2 < (k.rooms.map _).length
    rw [List.length_map]
    exact lt.2
  · have hr' : (k.rooms[i]?).map (fun r => (r.2, k.row ts E r.1)) = some (true, row) := by
      rw [← List.getElem?_map]; exact hr
    obtain ⟨q, hq, e⟩ := Option.map_eq_some_iff.mp hr'
    obtain ⟨e1, e2⟩ := Prod.mk.inj e
    subst e2
    obtain ⟨p, hp, rfl⟩ := List.mem_map.mp hx
    have hp' := List.mem_range.mp hp
    obtain ⟨sh, h1, h2, ok⟩ := shp q (List.mem_of_getElem? hq)
    have hq' : k.rooms[i]? = some (q.1, true) := by rw [hq, ← e1]
    obtain ⟨o1, o2⟩ := h.over i q.1 hq' sh h1 p hp'
    rw [h2]
    unfold Pk.cell Pk.sayT
    rw [List.getD_eq_getElem?_getD, o1, o2]
    rfl
/-! the pack of a table -/
def Tb.all (t : Tb τ) : List (List τ) := t.saying :: t.rooms.flatMap fun r => r.2.map (·.1)
def Tb.says (t : Tb τ) : List (List τ) := uq [] t.all
def Tb.rows (t : Tb τ) : List (List (List τ × Nat)) := uq [] (t.rooms.map (·.2))
def pairs (us : List (List τ)) (row : List (List τ × Nat)) : List (Nat × Nat) := row.map fun x => (ix us x.1, x.2)
def Tb.pk (t : Tb τ) (shs : List Sh) (tx : List τ) : Pk := ⟨ix t.says t.saying, t.rooms.map (fun r => (ix t.rows r.2, r.1)), shs, t.says.map fun s => s.map (ix tx)⟩
theorem flat_len {γ : Type} (f : γ → List (List τ)) (n : Nat) : ∀ l : List γ, (∀ x ∈ l, (f x).length = n) → (l.flatMap f).length = l.length * n
  | [], _ => by simp
  | x :: l, h => by
    rw [List.flatMap_cons, List.length_append, flat_len f n l fun y hy => h y (List.mem_cons_of_mem _ hy), h x List.mem_cons_self, List.length_cons, Nat.add_mul]
    omega
theorem textsOf_idx {tx : List τ} {s : List τ} (h : ∀ y ∈ s, y ∈ tx) : textsOf tx (s.map (ix tx)) = s := by
  unfold textsOf
  rw [List.map_map]
  conv => rhs; rw [← List.map_id s]
  refine List.map_congr_left fun y hy => ?_
  show tx.getD (ix tx y) default = y
  rw [List.getD_eq_getElem?_getD, idx_get (h y hy)]
  rfl
theorem Tb.pk_ok {t : Tb τ} {E : Nat} {ts : List τ} {shs : List Sh} {tx : List τ} (h : t.Ok E ts) (hs : shs.length = t.rows.length)
    (hc : ∀ (i : Nat) row, t.rows[i]? = some row → ∃ c, c ∈ pairs t.says row ∧ shs[i]? = some (mkSh (pairs t.says row) c))
    (hx : ∀ y, y ∈ tx ↔ ∃ s ∈ t.says, y ∈ s) (hn : tx.Nodup) : (t.pk shs tx).Ok E tx.length ∧ (t.pk shs tx).tb tx E = t := by
  have mall : ∀ s, s ∈ t.says ↔ s ∈ t.all := fun s => by
    unfold Tb.says; rw [mem_uq]; simp
  have mrow : ∀ r, r ∈ t.rows ↔ ∃ q ∈ t.rooms, q.2 = r := fun r => by
    unfold Tb.rows; rw [mem_uq]; simp
  have msay : t.saying ∈ t.says := (mall _).mpr List.mem_cons_self
  have msaid : ∀ q ∈ t.rooms, ∀ x ∈ q.2, x.1 ∈ t.says := fun q hq x hx => (mall _).mpr (List.mem_cons_of_mem _ (List.mem_flatMap.mpr ⟨q, hq, List.mem_map.mpr ⟨x, hx, rfl⟩⟩))
  have mroom : ∀ q ∈ t.rooms, q.2 ∈ t.rows := fun q hq => (mrow _).mpr ⟨q, hq, rfl⟩
  have pl : ∀ row, (pairs t.says row).length = row.length := fun row => by unfold pairs; rw [List.length_map]
  have okrow : ∀ row ∈ t.rows, row.length = E ∧ ∀ x ∈ row, x.1 ∈ t.says ∧ x.2 < t.rooms.length := fun row hr => by
    obtain ⟨q, hq, rfl⟩ := (mrow _).mp hr
    exact ⟨(h.row q hq).1, fun x hx => ⟨msaid q hq x hx, ((h.row q hq).2 x hx).2⟩⟩
  have okp : ∀ row ∈ t.rows, ∀ q ∈ pairs t.says row, q.1 < t.says.length ∧ q.2 < t.rooms.length := fun row hr q hq => by
    obtain ⟨x, hx, rfl⟩ := List.mem_map.mp hq
    exact ⟨idx_lt (us := t.says) (x := x.1) ((okrow row hr).2 x hx).1, ((okrow row hr).2 x hx).2⟩
  have goods : ∀ s ∈ t.says, s.length ≤ 20 ∧ ∀ y ∈ s, y ∈ ts := fun s hs => by
    rcases List.mem_cons.mp ((mall _).mp hs) with e | hm
    · subst e; exact h.say
    · obtain ⟨q, hq, hm⟩ := List.mem_flatMap.mp hm
      obtain ⟨x, hx, rfl⟩ := List.mem_map.mp hm
      exact ((h.row q hq).2 x hx).1
  have shAt : ∀ q ∈ t.rooms, ∀ (p : Nat) x, q.2[p]? = some x → ∃ sh, shs[ix t.rows q.2]? = some sh ∧ sh.at p = (ix t.says x.1, x.2) := fun q hq p x hx => by
    obtain ⟨c, hc1, hc2⟩ := hc _ q.2 (idx_get (mroom q hq))
    refine ⟨_, hc2, mkSh_at ?_⟩
    unfold pairs
    rw [List.getElem?_map, hx]
    rfl
  have sayAt : ∀ s ∈ t.says, (t.pk shs tx).sayT tx (ix t.says s) = s := fun s hs => by
    show textsOf tx ((t.says.map fun s => s.map (ix tx)).getD (ix t.says s) []) = s
    rw [List.getD_eq_getElem?_getD, List.getElem?_map, idx_get hs]
    exact textsOf_idx fun y hy => (hx y).mpr ⟨s, hs, hy⟩
  have rlen : (t.pk shs tx).rooms.length = t.rooms.length := by show (t.rooms.map _).length = _; rw [List.length_map]
  have slen : (t.pk shs tx).sayings.length = t.says.length := by show (t.says.map _).length = _; rw [List.length_map]
  constructor
  · refine ⟨h.e1, h.e2, ?_, by rw [rlen]; exact h.r1, by rw [rlen]; exact h.r2, by rw [slen]; exact idx_lt msay, ?_, ?_, fun r hr => ?_, fun s hs' => ?_, fun s hs' => ?_, fun i s hr sh hsh p hp => ?_⟩
    · refine Nat.le_trans (nodup_le tx ts hn fun y hy => ?_) h.t2
      obtain ⟨s, hs, hy⟩ := (hx y).mp hy
      exact (goods s hs).2 y hy
    · rw [slen]
      have h1 := uq_len t.all ([] : List (List τ))
      have h2 : t.all.length = 1 + t.rooms.length * E := by
        unfold Tb.all
        rw [List.length_cons, flat_len _ E _ fun r hr => by rw [List.length_map]; exact (h.row r hr).1]
        omega
      have h3 : t.rooms.length * E ≤ 20 * 20 := Nat.mul_le_mul h.r2 h.e2
      have h4 : t.says.length ≤ 0 + t.all.length := h1
      omega
    · show shs.length ≤ 20
      have h1 := uq_len (t.rooms.map (·.2)) ([] : List (List (List τ × Nat)))
      have h2 : t.rows.length ≤ 0 + (t.rooms.map (·.2)).length := h1
      have h3 := h.r2
      rw [List.length_map] at h2
      omega
    · obtain ⟨q, hq, rfl⟩ := List.mem_map.mp hr
      show ix t.rows q.2 < shs.length
      rw [hs]
      exact idx_lt (mroom q hq)
    · obtain ⟨i, hi⟩ := List.mem_iff_getElem?.mp hs'
      have hi' : shs[i]? = some s := hi
      have hlt : i < t.rows.length := by
        rw [← hs]; exact (List.getElem?_eq_some_iff.mp hi').1
      obtain ⟨c, hc1, hc2⟩ := hc i t.rows[i] (List.getElem?_eq_getElem hlt)
      rw [hi'] at hc2
      cases hc2
      have hm : t.rows[i] ∈ t.rows := List.getElem_mem hlt
      have ok := mkSh_ok hc1 (okp _ hm) (by rw [pl, (okrow _ hm).1]; exact h.e2)
      rw [pl, (okrow _ hm).1] at ok
      rw [slen, rlen]
      exact ok
    · obtain ⟨u, hu, rfl⟩ := List.mem_map.mp hs'
      refine ⟨by rw [List.length_map]; exact (goods u hu).1, fun y hy => ?_⟩
      obtain ⟨z, hz, rfl⟩ := List.mem_map.mp hy
      exact idx_lt ((hx z).mpr ⟨u, hu, hz⟩)
    · have hr' : (t.rooms[i]?).map (fun r => (ix t.rows r.2, r.1)) = some (s, true) := by
        rw [← List.getElem?_map]; exact hr
      obtain ⟨q, hq, e⟩ := Option.map_eq_some_iff.mp hr'
      obtain ⟨e1, e2⟩ := Prod.mk.inj e
      subst e1
      have hqm := List.mem_of_getElem? hq
      have hq' : t.rooms[i]? = some (true, q.2) := by rw [hq, ← e2]
      have hpl : p < q.2.length := by rw [(h.row q hqm).1]; exact hp
      have hx0 := h.over i q.2 hq' _ (List.getElem_mem hpl)
      obtain ⟨sh', g1, g2⟩ := shAt q hqm p _ (List.getElem?_eq_getElem hpl)
      have hsh' : shs[ix t.rows q.2]? = some sh := hsh
      rw [g1] at hsh'
      cases hsh'
      rw [g2, hx0]
      have m0 : ([] : List τ) ∈ t.says := by
        have := msaid q hqm _ (List.getElem_mem hpl)
        rw [hx0] at this
        exact this
      refine ⟨?_, rfl⟩
      show (t.says.map fun s => s.map (ix tx))[ix t.says []]? = some []
      rw [List.getElem?_map, idx_get m0]
      rfl
  · have e1 : (t.pk shs tx).sayT tx (t.pk shs tx).saying = t.saying := sayAt _ msay
    have e2 : ((t.pk shs tx).rooms.map fun r => (r.2, (t.pk shs tx).row tx E r.1)) = t.rooms := by
      show (t.rooms.map (fun r => (ix t.rows r.2, r.1))).map (fun r => (r.2, (t.pk shs tx).row tx E r.1)) = t.rooms
      rw [List.map_map]
      conv => rhs; rw [← List.map_id t.rooms]
      refine List.map_congr_left fun q hq => ?_
      show (q.1, (t.pk shs tx).row tx E (ix t.rows q.2)) = q
      have e3 : (t.pk shs tx).row tx E (ix t.rows q.2) = q.2 := by
        refine List.ext_getElem? fun p => ?_
        unfold Pk.row
        rw [List.getElem?_map]
        by_cases hp : p < E
        · have hpl : p < q.2.length := by rw [(h.row q hq).1]; exact hp
          rw [List.getElem?_range hp, List.getElem?_eq_getElem hpl]
          show some ((t.pk shs tx).cell tx (shs.getD (ix t.rows q.2) default) p) = _
          obtain ⟨sh', g1, g2⟩ := shAt q hq p _ (List.getElem?_eq_getElem hpl)
          rw [List.getD_eq_getElem?_getD, g1]
          show some ((t.pk shs tx).sayT tx (sh'.at p).1, (sh'.at p).2) = _
          rw [g2]
          show some ((t.pk shs tx).sayT tx (ix t.says q.2[p].1), q.2[p].2) = _
          rw [sayAt _ (msaid q hq _ (List.getElem_mem hpl))]
        · rw [List.getElem?_eq_none (by rw [List.length_range]; omega), List.getElem?_eq_none (by rw [(h.row q hq).1]; omega)]
          rfl
      rw [e3]
    show Tb.mk ((t.pk shs tx).sayT tx (t.pk shs tx).saying) ((t.pk shs tx).rooms.map fun r => (r.2, (t.pk shs tx).row tx E r.1)) = t
    rw [e1, e2]
end
end Mill

namespace Mill
open PySem PySem.Spec PyProof.Rows L2

/-! ### data in the abstract heap -/
mutual
def Dt (H : Hp) : PyData → V → Prop
  | .none, v => v = .non
  | .bool b, v => v = .bl b
  | .int i, v => v = .int i
  | .str x, v => v = .str x
  | .list ds, v => ∃ a xs, v = .ref a ∧ H a = some (.lst xs) ∧ DtAll H ds xs
  | .tuple ds, v => ∃ a xs, v = .ref a ∧ H a = some (.tup xs) ∧ DtAll H ds xs
  | .dict _, _ => False
def DtAll (H : Hp) : List PyData → List V → Prop
  | [], xs => xs = []
  | d :: ds, xs => ∃ y ys, xs = y :: ys ∧ Dt H d y ∧ DtAll H ds ys
end
section
variable {H H' : Hp}
mutual
theorem Dt.mono (e : Same H H') : ∀ (d : PyData) (v : V), Dt H d v → Dt H' d v
  | .none, v, h => h
  | .bool b, v, h => h
  | .int i, v, h => h
  | .str x, v, h => h
  | .list ds, v, h => by
    obtain ⟨a, xs, e1, e2, e3⟩ := h
    exact ⟨a, xs, e1, e _ _ e2, DtAll.mono e ds xs e3⟩
  | .tuple ds, v, h => by
    obtain ⟨a, xs, e1, e2, e3⟩ := h
    exact ⟨a, xs, e1, e _ _ e2, DtAll.mono e ds xs e3⟩
  | .dict _, v, h => h.elim
theorem DtAll.mono (e : Same H H') : ∀ (ds : List PyData) (xs : List V), DtAll H ds xs → DtAll H' ds xs
  | [], xs, h => h
  | d :: ds, xs, h => by
    obtain ⟨y, ys, e1, e2, e3⟩ := h
    exact ⟨y, ys, e1, Dt.mono e d y e2, DtAll.mono e ds ys e3⟩
end
theorem DtAll.len : ∀ {ds : List PyData} {xs : List V}, DtAll H ds xs → ds.length = xs.length
  | [], xs, h => by rw [show xs = [] from h]; rfl
  | d :: ds, xs, h => by
    obtain ⟨y, ys, rfl, _, e3⟩ := h
    rw [List.length_cons, List.length_cons, DtAll.len e3]
theorem DtAll.get : ∀ {ds : List PyData} {xs : List V} {i : Nat} {d : PyData}, DtAll H ds xs → ds[i]? = some d → ∃ x, xs[i]? = some x ∧ Dt H d x
  | [], xs, i, d, h, e => by simp at e
  | c :: ds, xs, i, d, h, e => by
    obtain ⟨y, ys, rfl, e2, e3⟩ := h
    cases i with
    | zero => simp at e; subst e; exact ⟨y, rfl, e2⟩
    | succ i => exact DtAll.get (i := i) e3 (by simpa using e)
theorem DtAll.at : ∀ {ds : List PyData} {xs : List V} {i : Nat} {x : V}, DtAll H ds xs → xs[i]? = some x → ∃ d, ds[i]? = some d ∧ Dt H d x
  | [], xs, i, x, h, e => by rw [show xs = [] from h] at e; simp at e
  | c :: ds, xs, i, x, h, e => by
    obtain ⟨y, ys, rfl, e2, e3⟩ := h
    cases i with
    | zero => simp at e; subst e; exact ⟨c, rfl, e2⟩
    | succ i => exact DtAll.at (i := i) e3 (by simpa using e)
theorem DtAll.snoc : ∀ {ds : List PyData} {xs : List V} {d : PyData} {x : V}, DtAll H ds xs → Dt H d x → DtAll H (ds ++ [d]) (xs ++ [x])
  | [], xs, d, x, h, e => by rw [show xs = [] from h]; exact ⟨x, [], rfl, e, rfl⟩
  | c :: ds, xs, d, x, h, e => by
    obtain ⟨y, ys, rfl, e2, e3⟩ := h
    exact ⟨y, ys ++ [x], rfl, e2, DtAll.snoc e3 e⟩
theorem DtAll.app : ∀ {ds es : List PyData} {xs ys : List V}, DtAll H ds xs → DtAll H es ys → DtAll H (ds ++ es) (xs ++ ys)
  | [], es, xs, ys, h, e => by rw [show xs = [] from h]; exact e
  | c :: ds, es, xs, ys, h, e => by
    obtain ⟨y, zs, rfl, e2, e3⟩ := h
    exact ⟨y, zs ++ ys, rfl, e2, DtAll.app e3 e⟩
theorem dts_ints : ∀ (ns : List Int), DtAll H (ns.map .int) (ns.map V.int)
  | [] => rfl
  | n :: ns => ⟨.int n, ns.map V.int, rfl, rfl, dts_ints ns⟩
theorem dts_strs : ∀ (ns : List Str), DtAll H (ns.map .str) (ns.map V.str)
  | [] => rfl
  | n :: ns => ⟨.str n, ns.map V.str, rfl, rfl, dts_strs ns⟩
theorem ints_of : ∀ {ns : List Int} {xs : List V}, DtAll H (ns.map .int) xs → xs = ns.map V.int
  | [], xs, h => h
  | n :: ns, xs, h => by
    obtain ⟨y, ys, rfl, e2, e3⟩ := h
    rw [List.map_cons, ints_of e3, show y = V.int n from e2]
theorem strs_of : ∀ {ns : List Str} {xs : List V}, DtAll H (ns.map .str) xs → xs = ns.map V.str
  | [], xs, h => h
  | n :: ns, xs, h => by
    obtain ⟨y, ys, rfl, e2, e3⟩ := h
    rw [List.map_cons, strs_of e3, show y = V.str n from e2]
mutual
theorem Dt.dp {K : PySem.W.Frag} (e : Same H H') : ∀ (d : PyData) (v : V), Dt H d v → Dp K H' v d
  | .none, v, h => by rw [show v = .non from h]; exact .non
  | .bool b, v, h => by rw [show v = .bl b from h]; exact .bl b
  | .int i, v, h => by rw [show v = .int i from h]; exact .int i
  | .str x, v, h => by rw [show v = .str x from h]; exact .str x
  | .list ds, v, h => by
    obtain ⟨a, xs, e1, e2, e3⟩ := h
    subst e1
    exact .lst (SqL.of (e _ _ e2)) (DtAll.dp e ds xs e3)
  | .tuple ds, v, h => by
    obtain ⟨a, xs, e1, e2, e3⟩ := h
    subst e1
    exact .tup (SqT.of (e _ _ e2)) (DtAll.dp e ds xs e3)
  | .dict _, v, h => h.elim
theorem DtAll.dp {K : PySem.W.Frag} (e : Same H H') : ∀ (ds : List PyData) (xs : List V), DtAll H ds xs → DpAll K H' xs ds
  | [], xs, h => by rw [show xs = [] from h]; exact .nil
  | d :: ds, xs, h => by
    obtain ⟨y, ys, e1, e2, e3⟩ := h
    subst e1
    exact .cons (Dt.dp e d y e2) (DtAll.dp e ds ys e3)
end
/-- lists of ints, of texts -/
abbrev iL (ns : List Int) : PyData := .list (ns.map .int)
abbrev sL (ns : List Str) : PyData := .list (ns.map .str)
theorem dt_iL {v : V} {ns : List Int} (h : Dt H (iL ns) v) : ∃ a, v = .ref a ∧ H a = some (.lst (ns.map V.int)) := by
  obtain ⟨a, xs, e1, e2, e3⟩ := h
  rw [ints_of e3] at e2
  exact ⟨a, e1, e2⟩
theorem dt_sL {v : V} {ns : List Str} (h : Dt H (sL ns) v) : ∃ a, v = .ref a ∧ H a = some (.lst (ns.map V.str)) := by
  obtain ⟨a, xs, e1, e2, e3⟩ := h
  rw [strs_of e3] at e2
  exact ⟨a, e1, e2⟩
theorem iL_of {a : Addr} {ns : List Int} (h : H a = some (.lst (ns.map V.int))) : Dt H (iL ns) (.ref a) := ⟨a, _, rfl, h, dts_ints ns⟩
theorem sL_of {a : Addr} {ns : List Str} (h : H a = some (.lst (ns.map V.str))) : Dt H (sL ns) (.ref a) := ⟨a, _, rfl, h, dts_strs ns⟩
end

/-! ### what stands (B) and what runs (H) -/
/-- from B, H on: B grew by new objects, all of H but the objects at M is as it was -/
structure Gr (M : Addr → Prop) (B H B' H' : Hp) : Prop where
  bb : Same B B'
  bh : Same B' H'
  hh : ∀ b o, ¬ M b → H b = some o → H' b = some o
  al : ∀ b, H b ≠ none → H' b ≠ none
  old : ∀ b, H b ≠ none → B' b = B b
abbrev M0 : Addr → Prop := fun _ => False
section
variable {M M' : Addr → Prop} {B H B1 H1 B2 H2 : Hp} {p : Addr} {o : HO}
theorem Gr.refl (h : Same B H) : Gr M B H B H := ⟨fun _ _ e => e, h, fun _ _ _ e => e, fun _ e => e, fun _ _ => rfl⟩
theorem Gr.trans (a : Gr M B H B1 H1) (b : Gr M' B1 H1 B2 H2) (m : ∀ c, M' c → M c ∨ H c = none) : Gr M B H B2 H2 where
  bb := fun c o e => b.bb c o (a.bb c o e)
  bh := b.bh
  hh := fun c o n e => b.hh c o (fun z => (m c z).elim n fun q => by rw [q] at e; cases e) (a.hh c o n e)
  al := fun c e => b.al c (a.al c e)
  old := fun c e => (b.old c (a.al c e)).trans (a.old c e)
theorem Gr.tr (a : Gr M B H B1 H1) (b : Gr M B1 H1 B2 H2) : Gr M B H B2 H2 := a.trans b fun _ z => .inl z
theorem Gr.tr0 (a : Gr M B H B1 H1) (b : Gr M0 B1 H1 B2 H2) : Gr M B H B2 H2 := a.trans b fun _ z => z.elim
theorem Gr.free (a : Gr M B H B1 H1) (h : H1 p = none) : H p = none := by
  cases q : H p with
  | none => rfl
  | some u => exact absurd h (a.al p (by rw [q]; exact fun z => by cases z))
theorem Same.bfree (s : Same B H) (h : H p = none) : B p = none := s.free h
/-- a new object, known from now on -/
theorem Gr.new (s : Same B H) (h : H p = none) : Gr M B H (upd B p o) (upd H p o) where
  bb := fun b u e => by rw [upd_ne (ne_of_none e (s.free h))]; exact e
  bh := fun b u e => by
    by_cases hb : b = p
    · rw [hb, upd_same] at e; rw [hb, upd_same]; exact e
    · rw [upd_ne hb] at e; rw [upd_ne hb]; exact s b u e
  hh := fun b u _ e => by rw [upd_ne (ne_of_none e h)]; exact e
  al := fun b e => by
    by_cases hb : b = p
    · rw [hb, upd_same]; exact fun z => by cases z
    · rw [upd_ne hb]; exact e
  old := fun b e => upd_ne fun z => e (by rw [z]; exact h)
/-- a new object that will be written -/
theorem Gr.newM (s : Same B H) (h : H p = none) : Gr M B H B (upd H p o) where
  bb := fun b u e => e
  bh := fun b u e => by rw [upd_ne (ne_of_none e (s.free h))]; exact s b u e
  hh := fun b u _ e => by rw [upd_ne (ne_of_none e h)]; exact e
  al := fun b e => by
    by_cases hb : b = p
    · rw [hb, upd_same]; exact fun z => by cases z
    · rw [upd_ne hb]; exact e
  old := fun b e => rfl
/-- an object that B does not know is written -/
theorem Gr.put (s : Same B H) (h : B p = none) : Gr (fun b => b = p) B H B (upd H p o) where
  bb := fun b u e => e
  bh := fun b u e => by rw [upd_ne (ne_of_none e h)]; exact s b u e
  hh := fun b u n e => by rw [upd_ne n]; exact e
  al := fun b e => by
    by_cases hb : b = p
    · rw [hb, upd_same]; exact fun z => by cases z
    · rw [upd_ne hb]; exact e
  old := fun b e => rfl
/-- .. within a walk whose objects M may be written, or which made it -/
theorem Gr.wr (a : Gr M B H B1 H1) (h : B1 p = none) (m : M p ∨ H p = none) : Gr M B H B1 (upd H1 p o) := a.trans (Gr.put a.bh h) fun c z => by rw [z]; exact m
theorem Gr.nw (a : Gr M B H B1 H1) (h : H1 p = none) : Gr M B H (upd B1 p o) (upd H1 p o) := a.tr (Gr.new a.bh h)
theorem Gr.nwM (a : Gr M B H B1 H1) (h : H1 p = none) : Gr M B H B1 (upd H1 p o) := a.tr (Gr.newM a.bh h)
/-- an object that was made on the way is known from now on -/
theorem Gr.fz (a : Gr M B H B1 H1) (h0 : H p = none) (hb : B1 p = none) (h : H1 p = some o) : Gr M B H (upd B1 p o) H1 where
  bb := fun b u e => by
    have q := a.bb b u e
    rw [upd_ne (ne_of_none q hb)]; exact q
  bh := fun b u e => by
    by_cases hp : b = p
    · rw [hp, upd_same] at e; rw [hp, h]; exact e
    · rw [upd_ne hp] at e; exact a.bh b u e
  hh := a.hh
  al := a.al
  old := fun b e => (upd_ne fun z => e (by rw [z]; exact h0)).trans (a.old b e)
theorem Gr.bnone (a : Gr M B H B1 H1) (hb : B p = none) (h : H p ≠ none) : B1 p = none := (a.old p h).trans hb
theorem Gr.imp (a : Gr M B H B1 H1) (m : ∀ b, M b → M' b) : Gr M' B H B1 H1 := ⟨a.bb, a.bh, fun b o n e => a.hh b o (fun z => n (m b z)) e, a.al, a.old⟩
/-- Evl's pure steps -/
theorem Gr.ex (s : Same B H) (e : Same H H1) : Gr M B H B H1 := ⟨fun _ _ e => e, fun b o q => e b o (s b o q), fun b o _ q => e b o q, fun b q z => q (e.free z), fun _ _ => rfl⟩
theorem nn {H : Hp} {p : Addr} {o : HO} (h : H p = some o) : H p ≠ none := fun z => by rw [h] at z; cases z
end

/-! ### dicts whose keys are tuples, nested -/
def NR (p : NestedKey × Addr × V) (q : NestedKey × Addr × Value) : Prop := p.1 = q.1 ∧ p.2.1 = q.2.1 ∧ L2.RelV p.2.2 q.2.2
def NdP (P : Program) (w : World) (od : Obj) (d : Addr) (xs : List (NestedKey × Addr × V)) (h : Heap) : Prop :=
  h.get? d = some od ∧ od.ExactDict ∧ (d == sysModules) = false ∧ xs.length ≤ sizeLine ∧ (xs.map (·.1)).Nodup ∧
    ∃ ys : List (NestedKey × Addr × Value), Paired NR xs ys ∧ ∃ es ep, od.data = .dict es ep ∧ es.toList = ys.map (entryOfKey (nestedKind P w))
def ndO (P : Program) (w : World) (od : Obj) (d : Addr) (xs : List (NestedKey × Addr × V)) : HO := .ext (NdP P w od d xs)
theorem nd_ok {P : Program} {w : World} {H : Hp} {h : Heap} {od : Obj} {d : Addr} {xs : List (NestedKey × Addr × V)} (x : NdP P w od d xs h) : ObjOk P w H h d (ndO P w od d xs) :=
  ⟨x, ⟨od, x.1⟩, fun h1 h2 q st => ⟨st _ q.1, q.2⟩⟩
theorem nd_p {P : Program} {w : World} {H : Hp} {h : Heap} {od : Obj} {d : Addr} {xs : List (NestedKey × Addr × V)} (ok : HOk P w H h) (e : H d = some (ndO P w od d xs)) : NdP P w od d xs h := by
  obtain ⟨x, _, _⟩ := ok d _ e
  exact x
/-- its keys stand -/
def NdK (H : Hp) (xs : List (NestedKey × Addr × V)) : Prop := ∀ x ∈ xs, Dt H x.1.data (.ref x.2.1) ∧ x.1.depth ≤ 8
theorem NdK.mono {H H' : Hp} {xs : List (NestedKey × Addr × V)} (k : NdK H xs) (e : Same H H') : NdK H' xs := fun x hx => ⟨Dt.mono e _ _ (k x hx).1, (k x hx).2⟩
def valN (xs : List (NestedKey × Addr × V)) (k : NestedKey) : Option V := (xs.find? fun x => decide (x.1 = k)).map (·.2.2)
def putN (xs : List (NestedKey × Addr × V)) (k : NestedKey) (a : Addr) (v : V) : List (NestedKey × Addr × V) :=
  if (valN xs k).isSome then xs.map (fun x => if x.1 = k then (x.1, x.2.1, v) else x) else xs ++ [(k, a, v)]
theorem NR.val {xs : List (NestedKey × Addr × V)} {ys : List (NestedKey × Addr × Value)} (r : Paired NR xs ys) (k : NestedKey) : RelO (valN xs k) ((atKey ys k).map (·.2)) := by
  induction r with
  | nil => exact True.intro
  | @cons p q ps qs h t ih =>
    obtain ⟨h1, _, h2⟩ := h
    by_cases e : p.1 = k
    · have e' : q.1 = k := h1.symm.trans e
      have a : valN (p :: ps) k = some p.2.2 := by simp [valN, List.find?_cons, e]
      have b : atKey (q :: qs) k = some q.2 := by simp [atKey, List.find?_cons, e']
      rw [a, b]; exact h2
    · have e' : ¬ q.1 = k := fun z => e (h1.trans z)
      have a : valN (p :: ps) k = valN ps k := by simp [valN, List.find?_cons, e]
      have b : atKey (q :: qs) k = atKey qs k := by simp [atKey, List.find?_cons, e']
      rw [a, b]; exact ih
theorem NR.repl {xs : List (NestedKey × Addr × V)} {ys : List (NestedKey × Addr × Value)} (r : Paired NR xs ys) (k : NestedKey) {y : V} {u : Value} (ry : L2.RelV y u) :
    Paired NR (xs.map fun x => if x.1 = k then (x.1, x.2.1, y) else x) (ys.map (putAt k u)) := by
  induction r with
  | nil => exact .nil
  | @cons p q ps qs h t ih =>
    rw [List.map_cons, List.map_cons]
    refine .cons ?_ ih
    obtain ⟨h1, h2, h3⟩ := h
    unfold putAt
    by_cases e : p.1 = k
    · rw [if_pos e, if_pos (h1.symm.trans e)]; exact ⟨h1, h2, ry⟩
    · rw [if_neg e, if_neg (fun z => e (h1.trans z))]; exact ⟨h1, h2, h3⟩
theorem NR.put {xs : List (NestedKey × Addr × V)} {ys : List (NestedKey × Addr × Value)} (r : Paired NR xs ys) (k : NestedKey) {b : Addr} {y : V} {u : Value} (ry : L2.RelV y u) :
    Paired NR (putN xs k b y) (storedH ys k b u) := by
  have e : (valN xs k).isSome = (atKey ys k).isSome := by rw [(NR.val r k).isSome_eq, Option.isSome_map]
  unfold putN storedH
  rw [e]
  by_cases q : (atKey ys k).isSome = true
  · rw [if_pos q, if_pos q]; exact NR.repl r k ry
  · rw [if_neg q, if_neg q]; exact Paired.snoc r ⟨rfl, rfl, ry⟩
theorem NR.keys {xs : List (NestedKey × Addr × V)} {ys : List (NestedKey × Addr × Value)} (r : Paired NR xs ys) : xs.map (·.1) = ys.map (·.1) := by
  induction r with
  | nil => rfl
  | cons h _ ih => rw [List.map_cons, List.map_cons, ih, h.1]
theorem putN_len (xs : List (NestedKey × Addr × V)) (k : NestedKey) (a : Addr) (v : V) : (putN xs k a v).length ≤ xs.length + 1 := by
  unfold putN
  split
  · rw [List.length_map]; omega
  · rw [List.length_append]; exact Nat.le_refl _
theorem putN_new {xs : List (NestedKey × Addr × V)} {k : NestedKey} {a : Addr} {v : V} (h : valN xs k = none) : putN xs k a v = xs ++ [(k, a, v)] := by simp [putN, h]
theorem NdK.put {H H' : Hp} {xs : List (NestedKey × Addr × V)} {k : NestedKey} {a : Addr} {v : V} (n : NdK H xs) (h : Dt H k.data (.ref a)) (hd : k.depth ≤ 8) : NdK H (putN xs k a v) := by
  unfold putN
  split
  · intro x hx
    obtain ⟨y, hy, rfl⟩ := List.mem_map.mp hx
    split
    · exact n y hy
    · exact n y hy
  · intro x hx
    rcases List.mem_append.mp hx with hx | hx
    · exact n x hx
    · rw [List.mem_singleton.mp hx]; exact ⟨h, hd⟩
section
variable {X : Cx} {pins : List (Addr × Obj)} {σ : L2.St} {H : Hp} {s : Shared}
mutual
theorem nested_of (I : Inv X pins σ H s) : ∀ (k : NestedKey) (v : V) (u : Value), Dt H k.data v → L2.RelV v u → NestedIs s.heap k u
  | .none, v, u, h, r => by rw [show v = .non from h] at r; rw [show u = Value.none from r]; exact .none
  | .num i, v, u, h, r => by
    rw [show v = .int i from h] at r
    obtain ⟨t, rfl⟩ := r
    exact .int i t
  | .text x, v, u, h, r => by
    rw [show v = .str x from h] at r
    obtain ⟨t, rfl⟩ := r
    exact .text x t
  | .tup ks, v, u, h, r => by
    obtain ⟨a, xs, e1, e2, e3⟩ := h
    subst e1
    rw [show u = Value.ref a from r]
    obtain ⟨its, rv, ⟨o, h1, h2, n, h3⟩, _⟩ := I.tuple (a := a) (SqT.of e2)
    exact .tup h1 h2 h3 (nesteds_of I ks xs its e3 rv)
theorem nesteds_of (I : Inv X pins σ H s) : ∀ (ks : List NestedKey) (vs : List V) (us : List Value), DtAll H (NestedKey.datas ks) vs → Vals vs us → NestedAll s.heap ks us
  | [], vs, us, h, r => by
    rw [show vs = [] from h] at r
    cases r
    exact .nil
  | k :: ks, vs, us, h, r => by
    obtain ⟨y, ys, e1, e2, e3⟩ := h
    subst e1
    cases r with
    | cons r1 r2 => exact .cons (nested_of I k _ _ e2 r1) (nesteds_of I ks _ _ e3 r2)
end
theorem key_is (I : Inv X pins σ H s) {k : NestedKey} {b : Addr} (h : Dt H k.data (.ref b)) (hd : k.depth ≤ 8) : (nestedKind X.prog X.w).is s.heap k b := ⟨nested_of I k _ _ h rfl, hd⟩
theorem nd_of (I : Inv X pins σ H s) {od : Obj} {d : Addr} {xs : List (NestedKey × Addr × V)} (e : H d = some (ndO X.prog X.w od d xs)) (k : NdK H xs) :
    (d == sysModules) = false ∧ xs.length ≤ sizeLine ∧ ∃ ys, Paired NR xs ys ∧ s.heap.DictOfH (nestedKind X.prog X.w) d ys := by
  obtain ⟨h1, h2, h3, h4, h5, ys, r, es, ep, h6, h7⟩ := nd_p I.hok e
  refine ⟨h3, h4, ys, r, od, es, ep, h1, h2, h6, h7, fun y hy => ?_, by rw [← NR.keys r]; exact h5⟩
  clear h7 h5 h4 e
  induction r with
  | nil => cases hy
  | @cons p q ps qs hq t ih =>
    rcases List.mem_cons.mp hy with e | hy
    · subst e
      have kp := k p List.mem_cons_self
      obtain ⟨e1, e2, _⟩ := hq
      rw [← e1, ← e2]
      exact key_is I kp.1 kp.2
    · exact ih (fun x hx => k x (List.mem_cons_of_mem _ hx)) hy
theorem roomN {A : Around} {P : Program} {w : World} (hu : A.units + 64 < cLine) : (nestedKind P w).room A.in1 := by
  show A.units + 1 + 8 < cLine
  omega
variable {A : Around} {E : Value → Shared → Prop} {od : Obj} {a b : Addr} {xs : List (NestedKey × Addr × V)} {k : NestedKey} {v : V} {r : Value}
theorem n_getItem {Q : Value → Shared → Prop} (hu : A.units + 64 < cLine) (I : Inv X pins σ H s) (e : H a = some (ndO X.prog X.w od a xs)) (n : NdK H xs) (hk : Dt H k.data (.ref b)) (hd : k.depth ≤ 8) (g : valN xs k = some v)
    (h : ∀ w' s', Inv X pins σ H s' → L2.RelV v w' → Q w' s') : wpAny (model X.prog X.w) A (getItem (.ref a) (.ref b)) Q E s := by
  obtain ⟨_, _, ys, rel, dd⟩ := nd_of I e n
  obtain ⟨w', hw, rw'⟩ := RelO.some_of (v := v) (o := (atKey ys k).map (·.2)) (by rw [← g]; exact NR.val rel k)
  obtain ⟨p, hp, hp2⟩ := Option.map_eq_some_iff.mp hw
  refine wpAny_getItem_heap (roomN hu) (key_is I hk hd) dd hp ?_
  rw [hp2]
  exact h w' _ (I.tok _) rw'
theorem n_notIn {Q : Value → Shared → Prop} (hu : A.units + 64 < cLine) (I : Inv X pins σ H s) (e : H a = some (ndO X.prog X.w od a xs)) (n : NdK H xs) (hk : Dt H k.data (.ref b)) (hd : k.depth ≤ 8)
    (h : ∀ s', Inv X pins σ H s' → Q (.bool (!(valN xs k).isSome)) s') : wpAny (model X.prog X.w) A (compareOp .NotIn (.ref b) (.ref a)) Q E s := by
  obtain ⟨hs, _, ys, rel, dd⟩ := nd_of I e n
  refine wpAny_notIn_heap (roomN hu) (key_is I hk hd) hs dd ?_
  have q := (NR.val rel k).isSome_eq
  rw [Option.isSome_map] at q
  rw [← q]
  exact h _ (I.tok _)
theorem n_get2 {Q : Value → Shared → Prop} {d : V} (hu : A.units + 64 < cLine) (I : Inv X pins σ H s) (e : H a = some (ndO X.prog X.w od a xs)) (n : NdK H xs) (hk : Dt H k.data (.ref b)) (hd : k.depth ≤ 8) (rd : L2.RelV d r)
    (h : ∀ w' s', Inv X pins σ H s' → L2.RelV ((valN xs k).getD d) w' → Q w' s') : wpAny (model X.prog X.w) A (call (.builtin "dict.get") [.ref a, .ref b, r]) Q E s := by
  obtain ⟨hs, _, ys, rel, dd⟩ := nd_of I e n
  exact call_meetsIn PySem.F.slot_dict_get dd.typeIs PySem.F.entry_dict_get (PySem.F.args_dict_get_3 _ _ _) (meetsH_dict_get_default (nestedKind X.prog X.w) a b hs r) ⟨roomN hu, k, ys, key_is I hk hd, dd, h _ _ (I.tok _) ((NR.val rel k).getD rd)⟩
theorem n_setItem {Q : Unit → Shared → Prop} (hu : A.units + 64 < cLine) (I : Inv X pins σ H s) (e : H a = some (ndO X.prog X.w od a xs)) (n : NdK H xs) (hk : Dt H k.data (.ref b)) (hd : k.depth ≤ 8) (hl : xs.length < sizeLine) (rv : L2.RelV v r)
    (h : ∀ od' s', Inv X pins σ (upd H a (ndO X.prog X.w od' a (putN xs k b v))) s' → Q () s') : wpAny (model X.prog X.w) A (setItem (.ref a) (.ref b) r) Q E s := by
  obtain ⟨hs, hz, ys, rel, dd⟩ := nd_of I e n
  have hz' : ys.length ≤ sizeLine := by rw [← Paired.length rel]; exact hz
  refine wpAny_setItem_heap (hsz := hz') (roomN hu) (key_is I hk hd) dd fun h' dd' hs' => ?_
  obtain ⟨q, es, ep, hq, h2, h3, h4, _, h5⟩ := dd'
  have rel' := NR.put rel k (b := b) rv
  refine h q _ (d_write I (by rw [e]; exact True.intro) hs' ⟨q, hq⟩ (nd_ok ⟨hq, h2, hs, ?_, ?_, _, rel', es, ep, h3, h4⟩))
  · have := putN_len xs k b v; omega
  · rw [NR.keys rel']; exact h5
theorem n_len {Q : Value → Shared → Prop} (I : Inv X pins σ H s) (e : H a = some (ndO X.prog X.w od a xs)) (h : ∀ t s', Inv X pins σ H s' → Q (.int xs.length t) s') : wpAny (model X.prog X.w) A (call (.builtin "len") [.ref a]) Q E s := by
  obtain ⟨h1, h2, h3, h4, h5, ys, rel, es, ep, h6, h7⟩ := nd_p I.hok e
  have hl : es.size = xs.length := by rw [size_of_entries h7, Paired.length rel]
  refine PyProof.Rows.call_len_slot (n := xs.length) (T := "dict") ⟨od, h1, h2.1⟩ PySem.F.slot_dict_len (fun Q' hq => call_len_raw h3 ⟨od, h1, h2, h6⟩ (by rw [hl]; exact hq)) (by omega) (by rw [sizeLine_eq] at h4; omega) ?_
  exact h _ _ (I.tok _)
end

/-! the rules -/
section
variable {X : Cx} {o i e f value : Expr} {pos pos' apos cpos : Pos} {td ty tv tx : TE}
def tNdNew (P : Program) (w : World) : TE := fun _ H Q => ∀ p od, H p = none → Q (.ref p) (upd H p (ndO P w od p []))
theorem pe_ndNew : PE X (.Dict [] [] pos) (tNdNew X.prog X.w) := ⟨fun pins s σ H Q I h =>
  wpAny_Dict_empty ⟨.ref s.heap.objs.size, _, I.laid (a := s.heap.objs.size) (o := ndO X.prog X.w { cls := .type "dict", data := .dict #[] } s.heap.objs.size []) (t' := s.toks) (fun _ _ q => Heap.get?_push_of_some _ q) (Nat.le_refl _)
    (nd_ok ⟨Heap.get?_push_size _ rfl, ⟨rfl, rfl, rfl⟩, beq_eq_false_iff_ne.mpr (Ne.symm (Nat.ne_of_lt I.big)), Nat.zero_le _, List.nodup_nil, [], .nil, #[], 0, rfl, rfl⟩), rfl, h _ _ (I.hok.fresh (Nat.le_refl _))⟩⟩
/-- what is asked of a dict and a key -/
def NdAsk (P : Program) (w : World) (H : Hp) (x y : V) (a b : Addr) (od : Obj) (xs : List (NestedKey × Addr × V)) (k : NestedKey) : Prop :=
  x = .ref a ∧ y = .ref b ∧ H a = some (ndO P w od a xs) ∧ NdK H xs ∧ Dt H k.data (.ref b) ∧ k.depth ≤ 8
def tNdGet (P : Program) (w : World) (td ty : TE) : TE := fun σ H Q => td σ H fun x H1 => ty σ H1 fun y H2 => ∃ a b od xs k v, NdAsk P w H2 x y a b od xs k ∧ valN xs k = some v ∧ Q v H2
def tNdNotIn (P : Program) (w : World) (ty td : TE) : TE := fun σ H Q => ty σ H fun y H1 => td σ H1 fun x H2 => ∃ a b od xs k, NdAsk P w H2 x y a b od xs k ∧ Q (.bl (!(valN xs k).isSome)) H2
def sNdPut (P : Program) (w : World) (td ty tv : TE) : TS := fun D σ H => tv σ H fun v H1 => td σ H1 fun x H2 => ty σ H2 fun y H3 => ∃ a b od xs k, NdAsk P w H3 x y a b od xs k ∧ xs.length < sizeLine ∧ ∀ od', D.nx σ (upd H3 a (ndO P w od' a (putN xs k b v)))
def tNdGet2 (P : Program) (w : World) (td ty tx : TE) : TE := fun σ H Q => td σ H fun x H1 => ∃ a od xs, x = .ref a ∧ H1 a = some (ndO P w od a xs) ∧ ty σ H1 fun y H2 => tx σ H2 fun z H3 => ∃ b od xs k, NdAsk P w H3 x y a b od xs k ∧ Q ((valN xs k).getD z) H3
theorem pe_ndGet (hu : X.A.units + 64 < cLine) (ho : PE X o td) (hi : PE X i ty) (hs : NoSl i) : PE X (.Subscript o i pos) (tNdGet X.prog X.w td ty) := by
  refine ⟨fun pins s σ H Q I h => ?_⟩
  refine subD_of PySem.F.slot_dict_getitem.lookup hs (thn (ho.run pins s σ H _ I h) fun u s1 ⟨x, H1, I1, rx, q1⟩ => thn (hi.run pins s1 σ H1 _ I1 q1) fun iv s2 ⟨y, H2, I2, ry, a, b, od, xs, k, v, ⟨ex, ey, e, n, hk, hd⟩, g, q2⟩ => ?_)
  subst ex ey
  obtain rfl : u = Value.ref a := rx
  obtain rfl : iv = Value.ref b := ry
  obtain ⟨h1, h2, _⟩ := nd_p I2.hok e
  exact ⟨⟨od, h1, h2.1⟩, n_getItem hu I2 e n hk hd g fun w' s3 I3 rw' => ⟨v, H2, I3, rw', q2⟩⟩
theorem pc_ndNotIn (hu : X.A.units + 64 < cLine) (hi : PE X i ty) (ho : PE X o td) : PC X .NotIn i o (tNdNotIn X.prog X.w ty td) := by
  refine ⟨fun pins s σ H Q I h => ?_⟩
  refine thn (hi.run pins s σ H _ I h) fun iv s1 ⟨y, H1, I1, ry, q1⟩ => thn (ho.run pins s1 σ H1 _ I1 q1) fun u s2 ⟨x, H2, I2, rx, a, b, od, xs, k, ⟨ex, ey, e, n, hk, hd⟩, q2⟩ => ?_
  subst ex ey
  obtain rfl : u = Value.ref a := rx
  obtain rfl : iv = Value.ref b := ry
  exact n_notIn hu I2 e n hk hd fun s3 I3 => ⟨.bl (!(valN xs k).isSome), H2, I3, rfl, q2⟩
theorem ps_ndPut (hu : X.A.units + 64 < cLine) (ho : PE X o td) (hi : PE X i ty) (hv : PE X value tv) (hs : swapsWith value (some (.Subscript o i pos')) pos.line X.env = pure false) :
    PS X (.Assign [.Subscript o i pos'] value pos) (sNdPut X.prog X.w td ty tv) := by
  refine ⟨fun pins s σ H D I h => ?_⟩
  refine wpAny_Assign_Subscript (thn (hv.run pins s σ H _ I h) fun r s1 ⟨v, H1, I1, rv, q1⟩ => thn (ho.run pins s1 σ H1 _ I1 q1) fun u s2 ⟨x, H2, I2, rx, q2⟩ => thn (hi.run pins s2 σ H2 _ I2 q2) fun iv s3 ⟨y, H3, I3, ry, a, b, od, xs, k, ⟨ex, ey, e, n, hk, hd⟩, hl, q3⟩ => ?_) hs
  subst ex ey
  obtain rfl : u = Value.ref a := rx
  obtain rfl : iv = Value.ref b := ry
  exact n_setItem hu I3 e n hk hd hl rv fun od' s4 I4 => ⟨σ, _, I4, q3 od'⟩
theorem pe_ndGet2 (hu : X.A.units + 64 < cLine) (ho : PE X o td) (he : PE X e ty) (hf : PE X f tx) (m : M2 X o "get" apos e f cpos) : PE X (.Call (.Attribute o "get" apos) [e, f] [] cpos) (tNdGet2 X.prog X.w td ty tx) := by
  refine ⟨fun pins s σ H Q I h => ?_⟩
  refine wpAny_Call_method m.base m.few m.line PySem.F.plainAttrs_dict PySem.F.slot_dict_get PySem.F.type_dict_get (thn (ho.run pins s σ H _ I h) fun u s1 ⟨x, H1, I1, rx, a, od0, xs0, ex, e0, q1⟩ => ?_)
  subst ex
  obtain rfl : u = Value.ref a := rx
  obtain ⟨h1, h2, _⟩ := nd_p I1.hok e0
  refine ⟨⟨od0, h1, h2.1⟩, fun b q => by cases q; exact ⟨od0, h1, h2.2.1⟩, ?_⟩
  rw [m.trees]
  refine Calls.callWith_builtin rfl (Calls.evalArgs_plain (Calls.spliced_cons (thn (he.run pins s1 σ H1 _ I1 q1) fun iv s2 ⟨y, H2, I2, ry, q2⟩ =>
    Calls.spliced_cons (thn (hf.run pins s2 σ H2 _ I2 q2) fun fv s3 ⟨z, H3, I3, rz, b, od, xs, k, ⟨_, ey, e, n, hk, hd⟩, q3⟩ => Calls.spliced_nil ?_))))
  subst ey
  obtain rfl : iv = Value.ref b := ry
  exact n_get2 hu I3 e n hk hd rz fun w' s4 I4 rw' => ⟨_, H3, I4, rw', q3⟩
theorem call_lenN : CallR X (.builtin "len") (fun vs H Q => ∃ a od xs, vs = [V.ref a] ∧ H a = some (ndO X.prog X.w od a xs) ∧ Q (.int xs.length) H) := by
  intro pins s σ H vs us Q I r h
  obtain ⟨a, od, xs, rfl, ha, q⟩ := h
  obtain ⟨u, rfl, ru⟩ := vals1 r
  cases ru
  exact n_len I ha fun t s' I' => ⟨.int xs.length, H, I', ⟨t, rfl⟩, q⟩
end
/-- the keys of such a dict, walked -/
def Itn (P : Program) (w : World) (d : Addr) (od : Obj) (xs : List (NestedKey × Addr × V)) : It :=
  ⟨fun i H => H d = some (ndO P w od d xs) ∧ i < xs.length, fun i H x H' => H' = H ∧ ∃ p, xs[i]? = some p ∧ x = .ref p.2.1, fun i H => H d = some (ndO P w od d xs) ∧ xs.length ≤ i⟩
theorem nd_ent {P : Program} {w : World} {xs : List (NestedKey × Addr × V)} {ys : List (NestedKey × Addr × Value)} {es : Array DictEntry} (rel : Paired NR xs ys) (h : es.toList = ys.map (entryOfKey (nestedKind P w))) {i : Nat} {p : NestedKey × Addr × V} (e : xs[i]? = some p) :
    ∃ en, es[i]? = some en ∧ en.key = .ref p.2.1 := by
  obtain ⟨b, hb, e1, e2, _⟩ := paired_get rel e
  have q := entry_at h i
  rw [hb] at q
  exact ⟨_, q, by rw [e2]; rfl⟩
theorem turn_nd {P : Program} {w : World} {K : PySem.W.Frag} {tg : Expr} {d : Addr} {od : Obj} {xs : List (NestedKey × Addr × V)} {es : Array DictEntry} {ep : Nat} (it : Addr) (hod : od.data = .dict es ep) :
    Turn P w K tg (Itn P w d od xs) [it] it (fun i h => h.IsKeyIter it d i xs.length ep) where
  mem := by simp
  obj := fun i h st b hb => by
    have e : b = it := by simpa using hb
    subst e
    obtain ⟨oi, e, c, dd⟩ := st
    exact ⟨oi, e, fun v z => by rw [dd] at z; cases z⟩
  keep := fun i h h' st k => st.at fun oi e => k it (by simp) oi e
  item := by
    intro X hP hw hK hc i pins s σ H E I hf st hg
    subst hP hw hK
    obtain ⟨hd, hi⟩ := hg
    obtain ⟨f0, f1, f2, f3, f4, f5⟩ := hf it (by simp)
    obtain ⟨hgd, hx, hs, _, _, ys, rel, es', ep', hdt, hent⟩ := nd_p I.hok hd
    obtain ⟨rfl, rfl⟩ := dict_ep hod hdt
    obtain ⟨p, hp⟩ : ∃ p, xs[i]? = some p := ⟨xs[i], List.getElem?_eq_getElem hi⟩
    obtain ⟨en, hen, hkey⟩ := nd_ent rel hent hp
    refine next_key_item st hgd hdt (by rw [size_of_entries hent, Paired.length rel]) hen fun h' st' sb => ?_
    have I1 : Inv X pins σ H { s with heap := h' } := I.turned (t' := s.toks) (fun b ob hb e => (sb.2 b hb).trans e) f0 f1 f3 f4 f5
    obtain ⟨oi, e, c, dd⟩ := id st'
    exact ⟨en.key, rfl, go_of (s := { s with heap := h' }) e c dd (by decide) ⟨.ref p.2.1, H, I1, hkey, ⟨rfl, p, hp, rfl⟩, st', fun b hb => (hf b hb).1⟩⟩
  done := by
    intro X hP hw hK hc i pins s σ H E I hf st hg
    subst hP hw hK
    obtain ⟨hd, hi⟩ := hg
    obtain ⟨f0, f1, f2, f3, f4, f5⟩ := hf it (by simp)
    obtain ⟨hgd, hx, hs, _, _, ys, rel, es', ep', hdt, hent⟩ := nd_p I.hok hd
    obtain ⟨rfl, rfl⟩ := dict_ep hod hdt
    exact next_key_end (I.ok.hd hc) st hgd hdt (by rw [size_of_entries hent, Paired.length rel]) hi fun h' eb => ⟨rfl, I.turned (t' := s.toks) (fun b ob hb e => eb b ob hb e) f0 f1 f3 f4 f5⟩
  self := fun A i s Q E st h => by
    refine wpAny_pyIter_slot st.typeIs F.slot_dict_keyiterator_iter (wpAny_call_entry F.slot_dict_keyiterator_iter st.typeIs F.entry_dict_keyiterator_iter ?_ (F.args_dict_keyiterator_iter_1 _))
    show wpAny _ _ (ret (.ref it)) _ _ s
    exact wpAny_pure ⟨_, rfl, "dict_keyiterator", _, st.typeIs, F.slot_dict_keyiterator_next.lookup, h⟩
def iNd (P : Program) (w : World) (td : TE) : TI := fun σ H R => td σ H fun x H1 => ∃ d od xs, x = .ref d ∧ H1 d = some (ndO P w od d xs) ∧ R (Itn P w d od xs) H1
theorem nd_iter {X : Cx} {tg : Expr} {pins : List (Addr × Obj)} {s : Shared} {σ : L2.St} {H : Hp} {R : It → Hp → Prop} {A : Around} {E : Value → Shared → Prop} {d : Addr} {od : Obj} {xs : List (NestedKey × Addr × V)} (I : Inv X pins σ H s) (hd : H d = some (ndO X.prog X.w od d xs)) (q : R (Itn X.prog X.w d od xs) H) :
    wpAny (model X.prog X.w) A (pyIter (.ref d)) (PIE X pins σ tg R) E s := by
  obtain ⟨hgd, hx, hs, _, _, ys, rel, es, ep, hdt, hent⟩ := nd_p I.hok hd
  refine iter_keys hs hgd hx hdt (pi_one (tk := s.toks) I _ (turn_nd _ hdt) ⟨_, Heap.get?_push_size _ rfl, rfl, ?_⟩ q)
  rw [size_of_entries hent, ← Paired.length rel] <;> rfl
theorem pi_nd {X : Cx} {tg e : Expr} {td : TE} (he : PE X e td) : PI X tg e (iNd X.prog X.w td) := by
  refine ⟨fun pins s σ H R I h => ?_⟩
  refine thn (he.run pins s σ H _ I h) fun u s1 ⟨x, H1, I1, rx, d, od, xs, ex, hd, q⟩ => ?_
  subst ex
  obtain rfl : u = Value.ref d := rx
  exact nd_iter I1 hd q
/-- for key in d -/
theorem for_nd {P : Program} {w : World} {d : Addr} {od : Obj} {xs : List (NestedKey × Addr × V)} {g : TG} {tb : TS} {D : Ends} {σ : L2.St} {H : Hp} (Pv : Nat → L2.St → Hp → Prop) (h0 : Pv 0 σ H) (hl : ∀ i σ H, i ≤ xs.length → Pv i σ H → H d = some (ndO P w od d xs))
    (hs : ∀ i p σ H, xs[i]? = some p → Pv i σ H → g (.ref p.2.1) σ H fun σ2 H2 => tb { D with nx := Pv (i + 1), ct := Pv (i + 1), bk := D.nx } σ2 H2) (hd : ∀ σ H, Pv xs.length σ H → D.nx σ H) :
    ∃ W : Nat → Nat → L2.St → Hp → Prop, (∃ m, W 0 m σ H) ∧ ∀ i m σ H, W i m σ H →
      ((Itn P w d od xs).stop i H ∧ D.nx σ H) ∨ ((Itn P w d od xs).go i H ∧ ∃ N : L2.St → Hp → Prop, (∀ σ' H', N σ' H' → ∃ m', m' < m ∧ W (i + 1) m' σ' H') ∧ ∀ x H', (Itn P w d od xs).yld i H x H' → g x σ H' fun σ2 H2 => tb { D with nx := N, ct := N, bk := D.nx } σ2 H2) := by
  refine ⟨fun i m σ H => m = xs.length - i ∧ i ≤ xs.length ∧ Pv i σ H, ⟨xs.length, by simp, Nat.zero_le _, h0⟩, ?_⟩
  rintro i m σ H ⟨rfl, hi, p⟩
  have q := hl i σ H hi p
  by_cases hlt : i < xs.length
  · refine .inr ⟨⟨q, hlt⟩, Pv (i + 1), fun σ' H' p' => ⟨xs.length - (i + 1), by omega, rfl, hlt, p'⟩, fun x H' y => ?_⟩
    obtain ⟨e, pp, hp, rfl⟩ := y
    subst e
    exact hs i pp σ _ hp p
  · have e : i = xs.length := by omega
    subst e
    exact .inl ⟨⟨q, Nat.le_refl _⟩, hd σ H p⟩
end Mill

namespace Mill
open PySem PySem.Spec PyProof.Rows L2

/-- an iterator that draws the values xs, one by one -/
structure Drw (P : Program) (w : World) (H : Hp) (it : Addr) (tn : Nat → Heap → Prop) (xs : List V) : Prop where
  obj : ∀ i h, tn i h → ∃ o, h.get? it = some o ∧ ∀ v, o.data ≠ .cell v
  keep : ∀ i h h', tn i h → (∀ o, h.get? it = some o → h'.get? it = some o) → tn i h'
  item : ∀ (X : Cx) (A : Around), X.prog = P → X.w = w → ∀ (i : Nat) (x : V) (pins : List (Addr × Obj)) (s : Shared) (σ : L2.St) (E : Value → Shared → Prop) (Q : Option Value → Shared → Prop), Inv X pins σ H s → tn i s.heap → xs[i]? = some x →
    (∀ u h', L2.RelV x u → tn (i + 1) h' → (∀ b o, b ≠ it → s.heap.get? b = some o → h'.get? b = some o) → Q (some u) { s with heap := h' }) → wpAny (model P w) A (pyNext (.ref it)) Q E s
  done : ∀ (X : Cx) (A : Around), X.prog = P → X.w = w → A.handled = none → ∀ (pins : List (Addr × Obj)) (s : Shared) (σ : L2.St) (E : Value → Shared → Prop) (Q : Option Value → Shared → Prop), Inv X pins σ H s → tn xs.length s.heap →
    (∀ h', (∀ b o, b ≠ it → s.heap.get? b = some o → h'.get? b = some o) → Q none { s with heap := h' }) → wpAny (model P w) A (pyNext (.ref it)) Q E s

theorem drw_list {P : Program} {w : World} {K : PySem.W.Frag} {H : Hp} {it a : Addr} {xs : List V} (h : ∀ (X : Cx) pins s σ, X.prog = P → X.w = w → Inv X pins σ H s → ∃ its : List Value, Vals xs its ∧ s.heap.IsList a its.toArray) :
    Drw P w H it (fun i h => h.IsListIter it a i) xs where
  obj := fun i h st => by
    obtain ⟨o, e, c, d⟩ := st
    exact ⟨o, e, fun v z => by rw [d] at z; cases z⟩
  keep := fun i h h' st k => st.at fun o e => k o e
  item := by
    intro X A hP hw i x pins s σ E Q I st hx hQ
    obtain ⟨its, rv, hl⟩ := h X pins s σ hP hw I
    subst hP hw
    obtain ⟨u, hu, ru⟩ := rv.get hx
    exact wpAny_pyNext_list_item st hl (x := u) (by simpa using hu) fun h' st' sb => hQ u h' ru st' fun b o hb e => (sb.2 b hb).trans e
  done := by
    intro X A hP hw hA pins s σ E Q I st hQ
    obtain ⟨its, rv, hl⟩ := h X pins s σ hP hw I
    subst hP hw
    refine wpAny_pyNext_list_end hA st hl (by simp [← rv.length]) fun h' eb => hQ h' fun b o hb e => eb b o hb e
theorem drw_nd {P : Program} {w : World} {H : Hp} {it d : Addr} {od : Obj} {xs : List (NestedKey × Addr × V)} {es : Array DictEntry} {ep : Nat} (hd : H d = some (ndO P w od d xs)) (hod : od.data = .dict es ep) :
    Drw P w H it (fun i h => h.IsKeyIter it d i xs.length ep) (xs.map fun p => V.ref p.2.1) where
  obj := fun i h st => by
    obtain ⟨o, e, c, d⟩ := st
    exact ⟨o, e, fun v z => by rw [d] at z; cases z⟩
  keep := fun i h h' st k => st.at fun o e => k o e
  item := by
    intro X A hP hw i x pins s σ E Q I st hx hQ
    subst hP hw
    obtain ⟨hgd, hx', hs, _, _, ys, rel, es', ep', hdt, hent⟩ := nd_p I.hok hd
    obtain ⟨rfl, rfl⟩ := dict_ep hod hdt
    rw [List.getElem?_map] at hx
    obtain ⟨p, hp, e⟩ := Option.map_eq_some_iff.mp hx
    obtain ⟨en, hen, hkey⟩ := nd_ent rel hent hp
    refine next_key_item st hgd hdt (by rw [size_of_entries hent, Paired.length rel]) hen fun h' st' sb => ?_
    refine hQ en.key h' ?_ st' fun b o hb e => (sb.2 b hb).trans e
    rw [← e]; exact hkey
  done := by
    intro X A hP hw hA pins s σ E Q I st hQ
    subst hP hw
    obtain ⟨hgd, hx', hs, _, _, ys, rel, es', ep', hdt, hent⟩ := nd_p I.hok hd
    obtain ⟨rfl, rfl⟩ := dict_ep hod hdt
    exact next_key_end hA st hgd hdt (by rw [size_of_entries hent, Paired.length rel]) (by rw [List.length_map]; exact Nat.le_refl _) fun h' eb => hQ h' fun b o hb e => eb b o hb e

/-- what the loop holds of the best one so far -/
def BestAt (xs : List V) (val : Nat → Int) (j : Nat) (its : List Value) : Prop :=
  (j = 0 ∧ its = []) ∨ ∃ (i : Nat) (x : V) (vb : Value) (tb : Tok), its = [vb, .int (val i) tb] ∧ i < j ∧ xs[i]? = some x ∧ L2.RelV x vb
section
variable {X : Cx} {pins : List (Addr × Obj)} {σ : L2.St} {H : Hp} {A : Around} {it S : Addr} {tn : Nat → Heap → Prop} {xs : List V} {key : Value} {kw : List (Str × Value)} {val : Nat → Int} {R : Result → Shared → Prop}
theorem mx_loop (hA : A.handled = none) (D : Drw X.prog X.w H it tn xs) (hSi : S ≠ it)
    (hkey : (key = .none ∧ ∀ (i : Nat) (x : V), xs[i]? = some x → x = .int (val i)) ∨ (∃ q, key = .ref q ∧ ∀ (i : Nat) (x : V) (u : Value) (pins' : List (Addr × Obj)) (s' : Shared), (∀ p ∈ pins, p ∈ pins') → Inv X pins' σ H s' → xs[i]? = some x → L2.RelV x u →
      wpAny (model X.prog X.w) A.in1 (call (.ref q) [u]) (fun v s'' => (∃ t, v = .int (val i) t) ∧ Inv X pins' σ H s'') (fun _ _ => False) s'))
    (hR1 : ∀ (i : Nat) (x : V) (u : Value) (s' : Shared), xs[i]? = some x → L2.RelV x u → Inv X pins σ H s' → R (.ok (.ret u)) s')
    (hR0 : xs = [] → ∃ nm d, kw = [(nm, d)] ∧ ∀ s', Inv X pins σ H s' → R (.ok (.ret d)) s') :
    ∀ (r j : Nat) (its : List Value) (s : Shared) (c : Nat), xs.length - j = r → j ≤ xs.length → Inv X pins σ H s → tn j s.heap → FpOk X pins H it → FpOk X pins H S → s.heap.get? S = some (seqObj "list" its.toArray c) → BestAt xs val j its →
      codeAny (model X.prog X.w) A (.builtin "max.loop" ⟨[.ref it, key, .ref S], kw⟩) R s := by
  have hname : (toString "max" ++ toString ".loop" : String) = "max.loop" := by decide
  intro r
  induction r with
  | zero =>
    intro j its s c hr hj I st fi fS hS best
    have hjn : j = xs.length := by omega
    subst hjn
    refine codeAny_builtin PySem.F.entry_max_loop ?_
    rw [Around.under_plainId PySem.F.plain_max_loop _]
    show wpAny _ A.in1 (seqItems? (.ref S) >>= _) _ _ _
    refine wpAny_bind (wpAny_seqItems hS rfl ?_)
    rcases best with ⟨h0, rfl⟩ | ⟨i, x, vb, tb, rfl, hi, hx, rx⟩
    · have hnil : xs = [] := List.eq_nil_of_length_eq_zero h0
      obtain ⟨nm, d, rfl, hR⟩ := hR0 hnil
      show wpAny _ A.in1 (tryCatch (pyNext (.ref it)) _ >>= _) _ _ _
      refine wpAny_bind (wpAny_tryCatch (D.done X A.in1 rfl rfl hA pins s σ _ _ I st fun h' k => ?_))
      have I1 : Inv X pins σ H { s with heap := h' } := I.turned (t' := s.toks) (fun b o hb e => k b o hb e) fi.1 fi.2.1 fi.2.2.2.1 fi.2.2.2.2.1 fi.2.2.2.2.2
      refine wpAny_bind (wpAny_rule ?_)
      exact wpAny_pure (hR _ I1)
    · show wpAny _ A.in1 (tryCatch (pyNext (.ref it)) _ >>= _) _ _ _
      refine wpAny_bind (wpAny_tryCatch (D.done X A.in1 rfl rfl hA pins s σ _ _ I st fun h' k => ?_))
      have I1 : Inv X pins σ H { s with heap := h' } := I.turned (t' := s.toks) (fun b o hb e => k b o hb e) fi.1 fi.2.1 fi.2.2.2.1 fi.2.2.2.2.1 fi.2.2.2.2.2
      have hS' := k S _ hSi hS
      have s1 := Heap.SameBut.update h' S (Obj.mapSeq fun _ => (#[] : Array Value))
      have I2 : Inv X pins σ H { s with heap := h'.update S (Obj.mapSeq fun _ => (#[] : Array Value)) } := I1.turned (t' := s.toks) (fun b o hb e => (s1.2 b hb).trans e) fS.1 fS.2.1 fS.2.2.2.1 fS.2.2.2.2.1 fS.2.2.2.2.2
      show wpAny _ A.in1 (updateSeq S (fun _ => #[]) >>= _) _ _ _
      refine wpAny_bind ?_
      refine wpAny_updateSeq hS' rfl (wpAny_bind (wpAny_letGo (wpAny_pure ?_)))
      exact hR1 i x vb _ hx rx I2
  | succ r ih =>
    intro j its s c hr hj I st fi fS hS best
    have hlt : j < xs.length := by omega
    refine codeAny_builtin PySem.F.entry_max_loop ?_
    rw [Around.under_plainId PySem.F.plain_max_loop _]
    show wpAny _ A.in1 (seqItems? (.ref S) >>= _) _ _ _
    refine wpAny_bind (wpAny_seqItems hS rfl ?_)
    show wpAny _ A.in1 (tryCatch (pyNext (.ref it)) _ >>= _) _ _ _
    refine wpAny_bind (wpAny_tryCatch (D.item X _ rfl rfl j xs[j] pins s σ _ _ I st (List.getElem?_eq_getElem hlt) fun u h' ru st' k => ?_))
    have hx : xs[j]? = some xs[j] := List.getElem?_eq_getElem hlt
    generalize xs[j] = x at hx ru
    have I1 : Inv X pins σ H { s with heap := h' } := I.turned (t' := s.toks) (fun b o hb e => k b o hb e) fi.1 fi.2.1 fi.2.2.2.1 fi.2.2.2.2.1 fi.2.2.2.2.2
    have hS1 := k S _ hSi hS
    obtain ⟨oi, hoi, hoc⟩ := D.obj _ _ st'
    have I1p : Inv X (pins ++ [(S, seqObj "list" its.toArray c), (it, oi)]) σ H { s with heap := h' } := I1.pins_of fun p hp => by
      rcases List.mem_append.mp hp with hp | hp
      · exact I1.pin p (List.mem_append_right _ hp)
      · rcases List.mem_cons.mp hp with e | hp
        · subst e
          exact ⟨hS1, fS.1, fS.2.1, fS.2.2.1, fun v z => by cases z⟩
        · rw [List.mem_singleton.mp hp]
          exact ⟨hoi, fi.1, fi.2.1, fi.2.2.1, hoc⟩
    -- behind the key
    have old : ∀ (s2 : Shared), Inv X (pins ++ [(S, seqObj "list" its.toArray c), (it, oi)]) σ H s2 → s2.heap.get? S = some (seqObj "list" its.toArray c) ∧ tn (j + 1) s2.heap := fun s2 I2 =>
      ⟨(I2.pin (S, seqObj "list" its.toArray c) (List.mem_append_right _ (List.mem_append_right _ (.head _)))).1, D.keep _ _ _ st' fun o e => by
        rw [hoi] at e; cases e; exact (I2.pin (it, oi) (List.mem_append_right _ (List.mem_append_right _ (.tail _ (.head _))))).1⟩
    have store : ∀ (t2 : Tok) (s2 : Shared), Inv X (pins ++ [(S, seqObj "list" its.toArray c), (it, oi)]) σ H s2 →
        codeAny (model X.prog X.w) A (.builtin "max.loop" ⟨[.ref it, key, .ref S], kw⟩) R { s2 with heap := s2.heap.update S (Obj.mapSeq fun _ => #[u, .int (val j) t2]) } := fun t2 s2 I2 => by
      obtain ⟨pS, st2⟩ := old s2 I2
      have s1 := Heap.SameBut.update s2.heap S (Obj.mapSeq fun _ => #[u, .int (val j) t2])
      obtain ⟨c2, hc2⟩ : ∃ c2, (s2.heap.update S (Obj.mapSeq fun _ => #[u, .int (val j) t2])).get? S = some (seqObj "list" #[u, .int (val j) t2] c2) := ⟨_, get?_update_seq pS fun _ => #[u, .int (val j) t2]⟩
      have I3 : Inv X pins σ H { s2 with heap := s2.heap.update S (Obj.mapSeq fun _ => #[u, .int (val j) t2]) } := I2.unpinned.turned (t' := s2.toks) (fun b o hb e => (s1.2 b hb).trans e) fS.1 fS.2.1 fS.2.2.2.1 fS.2.2.2.2.1 fS.2.2.2.2.2
      exact ih (j + 1) [u, .int (val j) t2] _ c2 (by omega) hlt I3 (D.keep _ _ _ st2 fun o e => (s1.2 it hSi.symm).trans e) fi fS hc2 (.inr ⟨j, x, u, t2, rfl, Nat.lt_succ_self _, hx, ru⟩)
    have skip : ∀ (s2 : Shared) (i : Nat) (y : V) (vb : Value) (tb : Tok), its = [vb, .int (val i) tb] → i < j → xs[i]? = some y → L2.RelV y vb → Inv X (pins ++ [(S, seqObj "list" its.toArray c), (it, oi)]) σ H s2 →
        codeAny (model X.prog X.w) A (.builtin "max.loop" ⟨[.ref it, key, .ref S], kw⟩) R s2 := fun s2 i y vb tb e hi hy ry I2 => by
      obtain ⟨pS, st2⟩ := old s2 I2
      exact ih (j + 1) its s2 c (by omega) hlt I2.unpinned st2 fi fS pS (.inr ⟨i, y, vb, tb, e, Nat.lt_succ_of_lt hi, hy, ry⟩)
    have quiet : (Code.builtin "max.loop" ⟨[.ref it, key, .ref S], kw⟩).quiet = true := plainId_quiet PySem.F.plain_max_loop _
    rcases best with ⟨h0, rfl⟩ | ⟨i, y, vb, tb, rfl, hi, hy, ry⟩
    · rcases hkey with ⟨rfl, hk⟩ | ⟨q, rfl, hk⟩
      · have e := hk j x hx
        subst e
        obtain ⟨t2, rfl⟩ := ru
        refine wpAny_bind (wpAny_pure ?_)
        show wpAny _ A.in1 (updateSeq S (fun _ => #[.int (val j) t2, .int (val j) t2]) >>= _) _ _ _
        refine wpAny_bind (wpAny_updateSeq hS1 rfl ?_)
        rw [hname]
        exact wpAny_pure ⟨quiet, store t2 _ I1p⟩
      · show wpAny _ A.in1 (tryCatch (holding [u] (call (.ref q) [u])) _ >>= _) _ _ _
        refine wpAny_bind (wpAny_tryCatch (wpAny_holding (wpAny_mono (hk j x u _ _ (fun p hp => List.mem_append_left _ hp) I1p hx ru) (fun v s2 h2 => ?_) fun _ _ z => z.elim)))
        obtain ⟨⟨t2, rfl⟩, I2⟩ := h2
        show wpAny _ A.in1 (updateSeq S (fun _ => #[u, .int (val j) t2]) >>= _) _ _ _
        refine wpAny_bind (wpAny_updateSeq (old s2 I2).1 rfl ?_)
        rw [hname]
        exact wpAny_pure ⟨quiet, store t2 _ I2⟩
    · have cmp : ∀ (u2 : Value) (t2 : Tok) (s2 : Shared) (Q : Bool → Shared → Prop) (E : Value → Shared → Prop), Q (decide (val j > val i)) s2 →
          wpAny (model X.prog X.w) A.in1 (holding [u2, .int (val j) t2] (do
            let answer ← richCompare .Gt (.int (val j) t2) (.int (val i) tb)
            let yes ← holding [answer] (truthy answer)
            letGo [answer]
            pure yes)) Q E s2 := fun u2 t2 s2 Q E hQ => by
        refine wpAny_holding (wpAny_bind (CmpOf.ints_gt (prog := X.prog) (w := X.w) (A := A.in1) (P := fun i v => ∃ t, v = .int (val i) t) val (fun i v h => h) j i _ _ _ _ _ ⟨t2, rfl⟩ ⟨tb, rfl⟩ ?_))
        refine wpAny_bind (wpAny_holding (wpAny_truthy_bool ?_))
        exact wpAny_bind (wpAny_letGo (wpAny_pure hQ))
      rcases hkey with ⟨rfl, hk⟩ | ⟨q, rfl, hk⟩
      · have e := hk j x hx
        subst e
        obtain ⟨t2, rfl⟩ := ru
        refine wpAny_bind (wpAny_pure ?_)
        refine wpAny_bind (wpAny_tryCatch (cmp _ t2 _ _ _ ?_))
        by_cases hb : val j > val i
        · simp only [hb, decide_true, if_true]
          refine wpAny_bind (wpAny_updateSeq hS1 rfl (wpAny_bind (wpAny_letGo ?_)))
          rw [hname]
          exact wpAny_pure ⟨quiet, store t2 _ I1p⟩
        · simp only [hb, decide_false, Bool.false_eq_true, if_false]
          refine wpAny_bind (wpAny_letGo ?_)
          rw [hname]
          exact wpAny_pure ⟨quiet, skip _ i y vb tb rfl hi hy ry I1p⟩
      · show wpAny _ A.in1 (tryCatch (holding [u] (call (.ref q) [u])) _ >>= _) _ _ _
        refine wpAny_bind (wpAny_tryCatch (wpAny_holding (wpAny_mono (hk j x u _ _ (fun p hp => List.mem_append_left _ hp) I1p hx ru) (fun v s2 h2 => ?_) fun _ _ z => z.elim)))
        obtain ⟨⟨t2, rfl⟩, I2⟩ := h2
        refine wpAny_bind (wpAny_tryCatch (cmp _ t2 _ _ _ ?_))
        by_cases hb : val j > val i
        · simp only [hb, decide_true, if_true]
          refine wpAny_bind (wpAny_updateSeq (old s2 I2).1 rfl (wpAny_bind (wpAny_letGo ?_)))
          rw [hname]
          exact wpAny_pure ⟨quiet, store t2 _ I2⟩
        · simp only [hb, decide_false, Bool.false_eq_true, if_false]
          refine wpAny_bind (wpAny_letGo ?_)
          rw [hname]
          exact wpAny_pure ⟨quiet, skip _ i y vb tb rfl hi hy ry I2⟩
/-- the call, from the iterator on -/
theorem mx_call {s : Shared} {a : Addr} {oI : Obj} {kv dv : Option Value} {kw0 : List (Str × Value)} {Q : Value → Shared → Prop} {E : Value → Shared → Prop} (hA : A.handled = none) (I : Inv X pins σ H s)
    (hargs : argsOk "max" ⟨[.ref a], kw0⟩) (hb : Builtin.Builtins.bindParams "max" ["key", "default"] 0 ⟨[], kw0⟩ = pure [kv, dv])
    (hit : ∀ (Q : Value → Shared → Prop) (E : Value → Shared → Prop), Q (.ref s.heap.objs.size) { s with heap := s.heap.push oI } → wpAny (model X.prog X.w) A.in1 (pyIter (.ref a)) Q E s)
    (D : Drw X.prog X.w H s.heap.objs.size tn xs) (st : tn 0 (s.heap.push oI)) (hkv : kv.getD .none = key) (hdv : (dv.toList.map fun d => (("default" : Str), d)) = kw)
    (hkey : (key = .none ∧ ∀ (i : Nat) (x : V), xs[i]? = some x → x = .int (val i)) ∨ (∃ q, key = .ref q ∧ ∀ (i : Nat) (x : V) (u : Value) (pins' : List (Addr × Obj)) (s' : Shared), (∀ p ∈ pins, p ∈ pins') → Inv X pins' σ H s' → xs[i]? = some x → L2.RelV x u →
      wpAny (model X.prog X.w) A.in1 (call (.ref q) [u]) (fun v s'' => (∃ t, v = .int (val i) t) ∧ Inv X pins' σ H s'') (fun _ _ => False) s'))
    (hR1 : ∀ (i : Nat) (x : V) (u : Value) (s' : Shared), xs[i]? = some x → L2.RelV x u → Inv X pins σ H s' → Q u s')
    (hR0 : xs = [] → ∃ nm d, kw = [(nm, d)] ∧ ∀ s', Inv X pins σ H s' → Q d s') :
    wpAny (model X.prog X.w) A (call (.builtin "max") [.ref a] kw0) Q E s := by
  have hname : (toString "max" ++ toString ".loop" : String) = "max.loop" := by decide
  refine kmk_tree PySem.F.kind_max PySem.F.plain_max PySem.F.entry_max hargs ?_
  show wpAny _ A.in1 (Builtin.Builtins.bindParams "max" ["key", "default"] 0 ⟨[], kw0⟩ >>= _) _ _ s
  refine wpAny_bind (wpAny_of_eq hb ?_)
  refine wpAny_bind (wpAny_pure ?_)
  refine wpAny_bind (hit _ _ ?_)
  refine wpAny_bind (wpAny_newList ?_ (Nat.zero_le _))
  rw [hname, hkv, hdv]
  have I1 : Inv X pins σ H { s with heap := s.heap.push oI } := I.kept (t' := s.toks) fun b o e => Heap.get?_push_of_some _ e
  have hsz : (s.heap.push oI).objs.size = s.heap.objs.size + 1 := Heap.size_push ..
  have I2 : Inv X pins σ H { s with heap := (s.heap.push oI).push (seqObj "list" #[] 0) } := I1.kept (t' := s.toks) fun b o e => Heap.get?_push_of_some _ e
  have hSi : (s.heap.push oI).objs.size ≠ s.heap.objs.size := by rw [hsz]; exact Nat.ne_of_gt (Nat.lt_succ_self _)
  have fi : FpOk X pins H s.heap.objs.size := I.fpOk (Nat.le_refl _) (I.hok.fresh (Nat.le_refl _))
  have fS : FpOk X pins H (s.heap.push oI).objs.size := I1.fpOk (Nat.le_refl _) (I1.hok.fresh (Nat.le_refl _))
  refine wpAny_pure ⟨plainId_quiet PySem.F.plain_max_loop _, ?_⟩
  refine mx_loop (R := fun r s' => match r with | .ok (.ret v) => Q v s' | .ok _ => False | .error e => E e s') hA D hSi hkey hR1 hR0 _ 0 [] _ 0 rfl (Nat.zero_le _) I2 (D.keep _ _ _ st fun o e => Heap.get?_push_of_some _ e) fi fS (Heap.get?_push_size _ rfl) (.inl ⟨rfl, rfl⟩)
end

theorem mx_arg_d (a v : Value) : argsOk "max" ⟨[a], [(Str.ofString "default", v)]⟩ := by unfold argsOk; kernel_rfl
section
variable {X : Cx}
/-- max(xs, default=d), xs a list of ints: one of them, d where there is none -/
theorem cr_maxD (hc : X.calm = true) : CallRK X (.builtin "max") [Str.ofString "default"] (fun xs zs H Q => ∃ (a : Addr) (ns : List Int) (d : Int), xs = [.ref a] ∧ zs = [.int d] ∧ H a = some (.lst (ns.map V.int)) ∧ (ns = [] → Q (.int d) H) ∧ ∀ m, m ∈ ns → Q (.int m) H) := by
  intro pins s σ H xs zs us ws Q I r rz h
  obtain ⟨a, ns, d, rfl, rfl, hs, h0, h1⟩ := h
  rw [Vals.ref1 r]
  obtain ⟨w1, rfl, rw1⟩ := vals1 rz
  obtain ⟨t, rfl⟩ := rw1
  obtain ⟨its, rv, hl, _⟩ := I.list (SqL.of hs)
  show wpAny _ _ (call (.builtin "max") [.ref a] [(Str.ofString "default", .int d t)]) _ _ _
  refine mx_call (xs := ns.map V.int) (val := fun i => ns.getD i 0) (key := .none) (kv := none) (dv := some (.int d t)) (tn := fun i h => h.IsListIter s.heap.objs.size a i) (I.ok.hd hc) I (mx_arg_d _ _) rfl (fun Q' E' q => wpAny_pyIter_list hl.isList q)
    (drw_list (K := X.K) fun X' pins' s' σ' hP hw I' => ?_) ⟨_, Heap.get?_push_size _ rfl, rfl, rfl⟩ rfl rfl (.inl ⟨rfl, fun i x hx => ?_⟩) (fun i x u s' hx ru I' => ?_) (fun e => ⟨_, _, rfl, fun s' I' => ?_⟩)
  · obtain ⟨its', rv', hl', _⟩ := I'.list (SqL.of hs)
    exact ⟨its', rv', hl'.isList⟩
  · rw [List.getElem?_map] at hx
    obtain ⟨n, hn, e⟩ := Option.map_eq_some_iff.mp hx
    rw [← e, List.getD_eq_getElem?_getD, hn]; rfl
  · rw [List.getElem?_map] at hx
    obtain ⟨n, hn, e⟩ := Option.map_eq_some_iff.mp hx
    subst e
    exact ⟨.int n, H, I', ru, h1 n (List.mem_of_getElem? hn)⟩
  · exact ⟨.int d, H, I', ⟨t, rfl⟩, h0 (by cases ns with
      | nil => rfl
      | cons _ _ => cases e)⟩
end
end Mill

namespace Mill
open PySem PySem.Spec PyProof.Rows L2 LamX NdefX

theorem mx_arg_k (a v : Value) : argsOk "max" ⟨[a], [(Str.ofString "key", v)]⟩ := kmk_max_key a v
/-- the lambda's words -/
abbrev lamF (qual : Str) (params : Arguments) (scope : Scope) (cl : List (Str × Addr)) (c' : Addr) : NF := ⟨"<lambda>", qual, params, [], scope, cl, c'⟩
section
variable {X : Cx} {pins : List (Addr × Obj)} {σ : L2.St} {H : Hp} {s : Shared}
/-- a lambda of one parameter that captures one name, called; its object at f is pinned -/
theorem lam_run {a y qual : Str} {params : Arguments} {body : Expr} {scope : Scope} {cl : List (Str × Addr)} {pm ctv : Value} {c' f : Addr} {k j : Nat} {u : Value} {v r : V} {wv : V} {tb : TE} (hr : Room (k + 2) X.A) (I : Inv X pins σ H s)
    (hf : s.heap.get? f = some (PySem.W.kla_obj "<lambda>" qual params body scope cl pm c' ctv)) (hc : H c' = some (CodeO c' qual))
    (hbind : bindArgs (PySem.W.kla_fn "<lambda>" qual params body scope cl pm (.ref c') ctv) ⟨[u], []⟩ = pure [(a, u)])
    (S : NScope [a, y] [a] [y] scope) (cp : Caps X cl [y] [j]) (hj : σ[j]? = some (some wv)) (rv : L2.RelV v u)
    (hbody : ∀ (A : Around) (outer : List Env) (s1 : Shared), Room k (A.deeper (envF (lamF qual params scope cl c') f s1.heap.objs.size)) → PE (ncx CX0 X.prog X.w X.K X.mg X.base [a, y] (lamF qual params scope cl c') f A outer s1 H E0).nox body tb)
    (ht : tb [some v, some wv] H fun z H' => z = r ∧ H' = H) :
    wpAny (model X.prog X.w) X.A.in1 (call (.ref f) [u]) (fun z s'' => L2.RelV r z ∧ Inv X pins σ H s'') (fun _ _ => False) s := by
  have hr1 : Room (k + 1) X.A.in1 := hr.in1
  have e0 : Env0 X.prog X.w X.K X.mg X.base X.A.in1 X.stack s H := I.env0.in1
  refine wpAny_call ?_
  have rc : codeAny (model X.prog X.w) X.A.in1 (.call (.ref f) ⟨[u], []⟩) (CR CX0 X.stack X.prog X.w H s (fun z H' => z = r ∧ H' = H) E0) s := by
    refine PySem.W.kla_callFunE hr1.depth hf rfl S.co S.gen rfl (codeO_at I.hok hc) ?_
    rw [hbind]
    refine wpAny_pure (wpAny_newFunctionEnv (fun y hy => S.nocell y hy) (fun z hz => ?_) (fun h₁ hns hsb => ⟨I.nolimit.fresh _ hsb, ?_⟩) S.kind)
    · rw [List.mem_singleton.mp hz]
      exact S.par a (List.mem_singleton.mpr rfl)
    · show codeAny _ _ (.expr body (envF (lamF qual params scope cl c') f s.heap.objs.size)) _ _
      have kp : ∀ b o, s.heap.get? b = some o → h₁.get? b = some o := fun b o e => hsb.extBut b o (Nat.ne_of_lt (Heap.lt_size e)) (Heap.get?_push_of_some _ e)
      have C : CellsAt cl [y] ([j].map (slotAt σ)) s.heap H := cells_of I cp
      have ews : [j].map (slotAt σ) = [some wv] := by rw [List.map_cons, slotAt_of hj]; rfl
      rw [ews] at C
      have J : Inv (ncx CX0 X.prog X.w X.K X.mg X.base [a, y] (lamF qual params scope cl c') f X.A.in1 X.stack s H E0) [] (startF [a, y] [v] [some wv]) H { s with heap := h₁, toks := s.toks + ([(a, u)] : List (Str × Value)).length } :=
        inv_startN (ps := [a]) (us := [u]) S hr1.hd e0 rfl (.cons rv .nil) C hns kp
      refine PySem.W.kla_codeExpr (wpAny_mono ((hbody X.A.in1 X.stack s (hr1.deeper _)).run [] _ _ H _ (J.wish _) ht) (fun z s' hq => ?_) fun e s' hq => hq.elim)
      obtain ⟨w', H', J', rz, q⟩ := hq
      exact ⟨w', H', J'.os, J'.bare, J'.base, J'.hok, rz, q⟩
  refine codeAny_mono rc fun rr s' hq => ?_
  cases rr with
  | error e => exact hq.elim
  | ok fl =>
    cases fl with
    | next => exact False.elim hq
    | brk => exact False.elim hq
    | cont => exact False.elim hq
    | ret z =>
      obtain ⟨z', H', I', rz, q1, q2⟩ := I.after hq
      subst q1
      rw [q2] at I'
      exact ⟨rz, I'⟩
end
/-- all but the object at P stays, what was there is there -/
def PtN (P : Addr) (H H' : Hp) : Prop := (∀ b o, b ≠ P → H b = some o → H' b = some o) ∧ ∀ b, H b ≠ none → H' b ≠ none
/-- a lambda is made: but for its table the heap keeps what it has -/
theorem lam_make3 {X : Cx} {pins : List (Addr × Obj)} {σ : L2.St} {H : Hp} {s : Shared} {q : Str} {c P : Addr} {params : Arguments} {body : Expr} {scope : Scope} {pos : Pos} {E : Value → Shared → Prop} {Q : Value → Shared → Prop} (eq : q = X.env.qual ++ "<lambda>") (I : Inv X pins σ H s) (TB : TabB X.base X.mg c P) (hcode : X.env.code = .ref c)
    (hT : TabS H P q) (hdef : defaultsOf params X.env = ([], [])) (hfree : ∀ y ∈ scope.names, y.2 = .free → ∃ c, X.env.cells.lookup y.1 = some c)
    (h : ∀ (f c' : Addr) (pm ctv : Value) (H1 : Hp) (s' : Shared), Inv X pins σ H1 s' → PtN P H H1 → TabS H1 P q →
      s'.heap.get? f = some (PySem.W.kla_obj "<lambda>" q params body scope (cloFrom X.env.cells scope.names []) pm c' ctv) → H1 f = none → f ∉ frs X.stack → H1 c' = some (CodeO c' q) → Q (.ref f) s') :
    wpAny (model X.prog X.w) X.A (eval (.Lambda params body scope pos) X.env) Q E s := by
  subst eq
  obtain ⟨ps, hP, ht, ha⟩ := hT
  have hP' : s.heap.get? P = some { cls := .none, data := .fields ps } := I.hok P _ hP
  have nofr : ∀ f, s.heap.objs.size ≤ f → f ∉ frs X.stack := fun f hf z => by
    rcases List.mem_cons.mp (I.stkSub _ z) with e | e
    · have h1 := I.lt
      rw [← e] at h1
      exact Nat.lt_irrefl _ (Nat.lt_of_lt_of_le h1 hf)
    · exact I.nofs hf e
  refine PySem.W.kla_eval hdef ?_
  cases hc : codeAmong pos ps.toList with
  | some cv =>
    obtain ⟨c', rfl, hco⟩ := ha pos cv hc
    exact PySem.W.kla_makeFunctionHit (mg := X.mg) (c := c) (P := P) (ps := ps) (closure_ok hfree) I.ok.glob (I.mod.glob.keeps I.bk) hcode (TB.code.keeps I.bk) hP' ht hc (TB.bm.keeps I.bk) fun ctv h' tk hx hsz =>
      h h'.objs.size c' ((X.mg "__name__").getD .none) ctv H _ (I.kept fun b o e => Heap.get?_push_of_some _ (hx b o e)) ⟨fun _ _ _ e => e, fun _ e => e⟩ ⟨ps, hP, ht, ha⟩ (Heap.get?_push_size _ rfl) (I.hok.fresh hsz) (nofr _ hsz) hco
  | none =>
    refine PySem.W.kla_makeFunction (mg := X.mg) (c := c) (P := P) (ps := ps) (closure_ok hfree) I.ok.glob (I.mod.glob.keeps I.bk) hcode (TB.code.keeps I.bk) hP' ht hc TB.gP (TB.bm.keeps I.bk) fun c' ctv h' tk hx hge hlt hrec htb => ?_
    obtain ⟨c2, oc, vs, t, e2, hoc, hd, hv⟩ := hrec
    cases e2
    have hsz : s.heap.objs.size ≤ h'.objs.size := Nat.le_trans hge (Nat.le_of_lt hlt)
    have nC : H c' = none := I.hok.fresh hge
    have I1 := inv_table (t' := tk) (more := #[rawInt pos.line, rawInt pos.col, .ref c']) (h' := h'.push (PySem.W.kla_obj "<lambda>" (X.env.qual ++ "<lambda>") params body scope (cloFrom X.env.cells scope.names []) ((X.mg "__name__").getD .none) c' ctv)) I hP
      (fun b o hb e => Heap.get?_push_of_some _ (hx b o hb e)) (Heap.get?_push_of_some _ htb) hge ⟨oc, vs, t, Heap.get?_push_of_some _ hoc, hd, hv⟩
    have hE : PtN P H (upd (upd H P (.tbl (ps ++ #[rawInt pos.line, rawInt pos.col, .ref c']))) c' (CodeO c' (X.env.qual ++ "<lambda>"))) := by
      refine ⟨fun b o n e => by rw [upd_ne (ne_of_none e nC), upd_ne n]; exact e, fun b e => ?_⟩
      by_cases hb : b = c'
      · rw [hb, upd_same]; exact fun z => by cases z
      · rw [upd_ne hb]
        by_cases hb2 : b = P
        · rw [hb2, upd_same]; exact fun z => by cases z
        · rw [upd_ne hb2]; exact e
    have eL : (ps ++ #[rawInt pos.line, rawInt pos.col, .ref c']).toList = ps.toList ++ [rawInt pos.line, rawInt pos.col, .ref c'] := by simp
    refine h h'.objs.size c' ((X.mg "__name__").getD .none) ctv _ _ I1 hE ⟨_, by rw [upd_ne (ne_of_none hP nC), upd_same], by rw [eL]; exact PySem.TriplesOk_snoc _ _ _ _ ht, fun p' cv hcv => ?_⟩ (Heap.get?_push_size _ rfl) ?_ (nofr _ hsz) upd_same
    · rw [eL] at hcv
      rcases among_app _ ht hcv with z | z
      · obtain ⟨c0, e1, e2⟩ := ha p' cv z
        exact ⟨c0, e1, hE.1 _ _ (fun z => by rw [z, hP] at e2; exact codeO_ne _ (Option.some.inj e2).symm) e2⟩
      · exact ⟨c', z, upd_same⟩
    · have n2 : h'.objs.size ≠ P := Nat.ne_of_gt (Nat.lt_of_lt_of_le (Heap.lt_size hP') hsz)
      rw [upd_ne (Nat.ne_of_gt hlt), upd_ne n2]
      exact I.hok.fresh hsz
/-- max(d, key=lambda a: body): some key -/
def tMaxLam (P : Program) (w : World) (Pt : Addr) (q : Str) (j : Nat) (tb : TE) (te : TE) : TE := fun σ H Q => te σ H fun x H1 => ∃ d od xs wv, x = .ref d ∧ H1 d = some (ndO P w od d xs) ∧ xs ≠ [] ∧ σ[j]? = some (some wv) ∧ TabS H1 Pt q ∧
  (∀ H2, PtN Pt H1 H2 → ∀ p ∈ xs, ∃ n : Int, tb [some (.ref p.2.1), some wv] H2 fun z H' => z = .int n ∧ H' = H2) ∧ ∀ H2, PtN Pt H1 H2 → TabS H2 Pt q → ∀ p ∈ xs, Q (.ref p.2.1) H2
section
variable {X : Cx}
theorem pe_maxLam {a y : Str} {params : Arguments} {body e : Expr} {scope : Scope} {q : Str} {c P : Addr} {k j : Nat} {tb te : TE} {p lpos pos kpos : Pos} (eq : q = X.env.qual ++ "<lambda>") (hcalm : X.calm = true) (hg : Gl X "max") (hm : X.mg "max" = none) (hv : bootBuiltins "max" = some (.builtin "max"))
    (TB : TabB X.base X.mg c P) (hcode : X.env.code = .ref c) (hdef : defaultsOf params X.env = ([], []))
    (hr : Room (k + 2) X.A) (S : NScope [a, y] [a] [y] scope) (hfree : ∀ z ∈ scope.names, z.2 = .free → X.env.scope.names.lookup z.1 = some .cell ∨ X.env.scope.names.lookup z.1 = some .free) (hfr' : (y, NameKind.free) ∈ scope.names) (hj : X.N[j]? = some y)
    (hbind : ∀ (qual : Str) (cl : List (Str × Addr)) (pm cv ctv u : Value), bindArgs (PySem.W.kla_fn "<lambda>" qual params body scope cl pm cv ctv) ⟨[u], []⟩ = pure [(a, u)])
    (he : PE X e te)
    (hbody : ∀ (qual : Str) (cl : List (Str × Addr)) (c' f : Addr) (A : Around) (outer : List Env) (s1 : Shared) (H : Hp), Room k (A.deeper (envF (lamF qual params scope cl c') f s1.heap.objs.size)) → PE (ncx CX0 X.prog X.w X.K X.mg X.base [a, y] (lamF qual params scope cl c') f A outer s1 H E0).nox body tb)
    (h1 : backTo pos (starEach [e] X.env) = (false, eval e X.env) :: backTo pos (starEach [] X.env) := by rfl) (hpl : (backTo pos (starEach [e] X.env)).any (·.1) = false := by rfl) :
    PE X (.Call (.Name "max" p) [e] [⟨some "key", .Lambda params body scope lpos, kpos⟩] pos) (tMaxLam X.prog X.w P q j tb te) := by
  refine ⟨fun pins s σ H Q I h => ?_⟩
  refine wpAny_Call_Name_kw (ld_blt I hg hm hv ?_)
  refine PyProof.Rows.callWith_kw ?_ h1 hpl
  rw [h1]
  show wpAny _ _ (spliced [(false, eval e X.env)]) _ _ s
  refine Calls.spliced_cons (thn (he.run pins s σ H _ I h) fun u s1 ⟨x, H1, I1, rx, d, od, xs, wv, ex, hd, hne, hσ, hT, hval, hq⟩ => Calls.spliced_nil ?_)
  subst ex
  obtain rfl : u = Value.ref d := rx
  have hclo : ∀ z ∈ scope.names, z.2 = .free → ∃ c, X.env.cells.lookup z.1 = some c := fun z hz ez => (hfree z hz ez).elim (fun q => I1.ok.has _ (.inl q)) fun q => I1.ok.has _ (.inr q)
  show wpAny _ _ (evalAll [do let v ← eval (.Lambda params body scope lpos) X.env; standAt pos; pure v]) _ _ s1
  refine wpAny_evalAll_cons (wpAny_bind (lam_make3 eq I1 TB hcode hT hdef hclo fun f c' pm ctv H2 s2 I2 eN T2 hf hfn hfr hco => wpAny_bind (wpAny_standAt (wpAny_pure (wpAny_evalAll_nil ?_)))))
  show wpAny _ _ (call (.builtin "max") [.ref d] [(Str.ofString "key", .ref f)]) _ _ s2
  have hd2 : H2 d = some (ndO X.prog X.w od d xs) := eN.1 d _ (fun z => by obtain ⟨ps, hP, _⟩ := hT; rw [z, hP] at hd; cases hd) hd
  obtain ⟨nf, hnf⟩ : ∃ nf : Nat → Int, ∀ (i : Nat) p, xs[i]? = some p → tb [some (.ref p.2.1), some wv] H2 fun z H' => z = .int (nf i) ∧ H' = H2 := by
    refine ⟨fun i => if h : i < xs.length then Classical.choose (hval H2 eN xs[i] (List.getElem_mem h)) else 0, fun i p hp => ?_⟩
    obtain ⟨h, e⟩ := List.getElem?_eq_some_iff.mp hp
    have q := Classical.choose_spec (hval H2 eN xs[i] (List.getElem_mem h))
    subst e
    simp only [h, dif_pos]
    exact q
  have fL : f ≠ X.env.locals := fun z => by
    obtain ⟨m, ⟨o, es, ep, ho, hdd, _⟩, _⟩ := I2.loc
    rw [← z, hf] at ho
    cases ho
    cases hdd
  have fF : f ∉ X.fs := fun z => by
    rcases I2.ok.stk with q | ⟨q, qf⟩
    · rw [q] at hfr; exact hfr z
    · rw [q] at hfr
      refine hfr ?_
      unfold frs
      rw [List.filterMap_cons, qf]
      exact List.mem_cons_of_mem _ z
  have I3 : Inv X (pins ++ [(f, PySem.W.kla_obj "<lambda>" q params body scope (cloFrom X.env.cells scope.names []) pm c' ctv)]) σ H2 s2 := I2.pins_of fun q hq => by
    rcases List.mem_append.mp hq with hq | hq
    · exact I2.pin q (List.mem_append_right _ hq)
    · rw [List.mem_singleton.mp hq]
      exact ⟨hf, hfn, fL, fF, fun v z => by cases z⟩
  obtain ⟨hgd, hx', hs, _, _, ys, rel, es, ep, hdt, hent⟩ := nd_p I2.hok hd2
  have hlen : es.size = xs.length := by rw [size_of_entries hent, Paired.length rel]
  have cp : Caps X (cloFrom X.env.cells scope.names []) [y] [j] := Caps.made I2.ok hfree (fun z hz => by rw [List.mem_singleton.mp hz]; exact hfr') (by rw [List.map_cons, hj]; rfl)
  refine mx_call (xs := xs.map fun p => V.ref p.2.1) (val := nf) (key := .ref f) (kv := some (.ref f)) (dv := none) (tn := fun i h => h.IsKeyIter s2.heap.objs.size d i xs.length ep) (kw := []) (I2.ok.hd hcalm) I3 (mx_arg_k _ _) rfl (fun Q' E' q => iter_keys hs hgd hx' hdt q)
    (drw_nd hd2 hdt) ⟨_, Heap.get?_push_size _ rfl, rfl, by rw [hlen] <;> rfl⟩ rfl rfl (.inr ⟨f, rfl, fun i x u pins' s' hsub I' hx ru => ?_⟩) (fun i x u s' hx ru I' => ?_) (fun e => ?_)
  · rw [List.getElem?_map] at hx
    obtain ⟨p, hp, e⟩ := Option.map_eq_some_iff.mp hx
    have hf' := (I'.pin _ (List.mem_append_right _ (hsub _ (List.mem_append_right _ (.head _))))).1
    rw [← e] at ru
    refine wpAny_mono (lam_run (k := k) (r := .int (nf i)) hr I' hf' hco (hbind _ _ _ _ _ _) S cp hσ ru (fun A outer s1 hr1 => hbody _ _ _ _ A outer s1 H2 hr1) (hnf i p hp)) (fun z s'' hz => ⟨?_, hz.2⟩) fun _ _ z => z
    exact hz.1
  · rw [List.getElem?_map] at hx
    obtain ⟨p, hp, e⟩ := Option.map_eq_some_iff.mp hx
    subst e
    exact ⟨.ref p.2.1, H2, I'.unpinned, ru, hq H2 eN T2 p (List.mem_of_getElem? hp)⟩
  · exact absurd (List.map_eq_nil_iff.mp e) hne
end
end Mill

namespace Mill
open PySem PySem.Spec PyProof.Rows L2
/-! ### the text by places -/
def top (i : Nat) : Stmt := PySem.Challenge.pw_callmill_k70_whole_packs_of_other_cells.main.body.getD i (.Pass ⟨0, 0, 0, 0⟩)
abbrev sNumbered : Stmt := top 1
abbrev sFrozen : Stmt := top 2
abbrev sSayings : Stmt := top 3
abbrev sCommon : Stmt := top 4
abbrev sShape : Stmt := top 5
abbrev sPack : Stmt := top 6
abbrev sBlocks : Stmt := top 7
abbrev sPairAt : Stmt := top 8
abbrev sFits : Stmt := top 9
abbrev sParts : Stmt := top 10
abbrev sRests : Stmt := top 11
abbrev sWhole : Stmt := top 12
abbrev sUnp : Stmt := top 13
abbrev lTake : Stmt := top 15
abbrev lCell : Stmt := top 16
abbrev lEvents : Stmt := top 17
abbrev lShape : Stmt := top 18
abbrev lStill : Stmt := top 19
abbrev lParts : Stmt := top 20
abbrev lCells : Stmt := top 21
abbrev lTexts : Stmt := top 22
abbrev lRow : Stmt := top 23
abbrev lTable : Stmt := top 24
abbrev lLaw : Stmt := top 25
/-- the built-in names are still built-in -/
structure Blt (mg : Str → Option Value) : Prop where
  len : mg "len" = none
  range : mg "range" = none
  tuple : mg "tuple" = none
  list : mg "list" = none
  max : mg "max" = none
  min : mg "min" = none
  enum : mg "enumerate" = none
  zip : mg "zip" = none
  sorted : mg "sorted" = none
  int : mg "int" = none
  sum : mg "sum" = none
/-- a def of the text: where it stands -/
structure At (K : PySem.W.Frag) (mg : Str → Option Value) (x : Str) (ps : List Str) (st : Stmt) (f : Addr) (fd : FuncData) : Prop where
  fn : Fun K x x st f fd
  bd : Binds K fd ps []
  mgf : mg x = some (.ref f)
section
variable {P : Program} {w : World} {K : PySem.W.Frag} {mg : Str → Option Value} {base : Heap}

/-! ### _law_take -/
def spTake : Sp := fun vs H Q _ => ∃ (st : Addr) (a m n : Int), vs = [.ref st, .int n] ∧ H st = some (.lst [.int a, .int m]) ∧ 0 < n ∧ n < 1000 ∧ ∀ a' r : Int, 0 ≤ r → r < n → Q (.int r) (upd H st (.lst [.int a', .int m]))
theorem scTake : FnScope ["state", "many", "found"] ["state", "many"] (defScope lTake) := ⟨rfl, rfl, rfl, by decide +kernel, rfl, by decide +kernel, by decide +kernel⟩
theorem ok_take {f : Addr} {fd : FuncData} (F : Fun K "_law_take" "_law_take" lTake f fd) : FnOk P w K mg base CX0 1 f fd ["state", "many"] spTake := by
  refine F.ok scTake (fun vs H Q E h => ?_) (fun cdv A outer s H vs Q E hr h => ?_)
  · obtain ⟨st, a, m, n, rfl, _⟩ := h
    rfl
  · obtain ⟨st, a, m, n, rfl, hs, n0, n1, k⟩ := h
    refine ⟨_, pss_cons (ps_if (pt_cmpR op_eq (pe_ix ix_list (pv 0) pe_int (fun _ _ => rfl)) pe_int (nomark _))
        (pss_cons (ps_asg (pe_op op_mod (pe_op op_mul (pe_op op_add (pe_ix ix_list (pv 0) pe_int (fun _ _ => rfl)) pe_int) pe_int) pe_int) (pg_sub (pv 0) pe_int set_list))
        (pss_cons (ps_asg (pe_op op_mod (pe_op op_mul (pe_ix ix_list (pv 0) pe_int (fun _ _ => rfl)) (pe_ix ix_list (pv 0) pe_int (fun _ _ => rfl))) pe_int) (pg_sub (pv 0) pe_int set_list))
        (pss_one (ps_ret (pe_op op_mod (pe_op op_fdiv (pe_op op_mod (pe_op op_mul (pe_ix ix_list (pv 0) pe_int (fun _ _ => rfl)) pe_int) pe_int) pe_int) (pv 1)))))) pss_nil)
      (pss_cons (ps_set (i := 2) scTake.nd rfl (Or.inl rfl) (pe_op op_mod (pe_ix ix_list (pv 0) pe_int (fun _ _ => rfl)) (pv 1)))
      (pss_cons (ps_asg (pe_op op_fdiv (pe_ix ix_list (pv 0) pe_int (fun _ _ => rfl)) (pv 1)) (pg_sub (pv 0) pe_int set_list))
      (pss_one (ps_ret (pv 2))))), ?_⟩
    refine ⟨_, rfl, st, _, _, _, rfl, rfl, SqL.of hs, rfl, rfl, _, rfl, ?_⟩
    refine ite2 (fun _ => ?_) (fun _ => ?_)
    · -- the mixed draws
      refine ⟨_, rfl, st, _, _, _, rfl, rfl, SqL.of hs, rfl, _, _, rfl, rfl, _, _, rfl, rfl, .inr ⟨by decide, by decide⟩, _, _, rfl, rfl, (by show (0 : Int) < 2147483647; decide), _, rfl, st, _, _, 0, rfl, rfl, hs, rfl, ?_⟩
      have b1 := Int.emod_nonneg ((a + 1) * 48271) (show (2147483647 : Int) ≠ 0 by decide)
      have b2 := Int.emod_lt_of_pos ((a + 1) * 48271) (show (0 : Int) < 2147483647 by decide)
      generalize (a + 1) * 48271 % 2147483647 = a1 at b1 b2
      refine ⟨_, rfl, st, _, _, _, rfl, rfl, SqL.of upd_same, rfl, _, rfl, st, _, _, _, rfl, rfl, SqL.of upd_same, rfl, _, _, rfl, rfl, .inl ⟨by omega, by omega⟩, _, _, rfl, rfl, (by show (0 : Int) < 2147483629; decide), _, rfl, st, _, _, 0, rfl, rfl, upd_same, rfl, ?_⟩
      rw [upd_upd]
      refine ⟨_, rfl, st, _, _, _, rfl, rfl, SqL.of upd_same, rfl, _, _, rfl, rfl, .inr ⟨by decide, by decide⟩, _, _, rfl, rfl, (by show (0 : Int) < 2147483587; decide), _, _, rfl, rfl, ⟨by decide, by decide⟩, _, rfl, _, _, rfl, rfl, n0, ?_⟩
      exact k _ _ (Int.emod_nonneg _ (by omega)) (Int.emod_lt_of_pos _ n0)
    · refine ⟨_, rfl, st, _, _, _, rfl, rfl, SqL.of hs, rfl, _, rfl, _, _, rfl, rfl, n0, ?_⟩
      refine ⟨_, rfl, st, _, _, _, rfl, rfl, SqL.of hs, rfl, _, rfl, _, _, rfl, rfl, ⟨n0, by omega⟩, _, rfl, st, _, _, 0, rfl, rfl, hs, rfl, ?_⟩
      exact ⟨_, rfl, k _ _ (Int.emod_nonneg _ (by omega)) (Int.emod_lt_of_pos _ n0)⟩
end
end Mill

namespace Mill
open PySem PySem.Spec PyProof.Rows L2
/-- range(lo, lo + 3 * n, 3), and one more where the end lies up to two further -/
theorem rg3 {lo hi : Int} {n : Nat} (h0 : 0 ≤ lo) (h1 : lo ≤ 1000) (h2 : n ≤ 1000) (h3 : lo + 3 * (n : Int) - 3 < hi ∨ (n = 0 ∧ hi ≤ lo)) (h4 : hi ≤ lo + 3 * (n : Int)) (h5 : 0 ≤ hi) : RgC lo hi 3 n := by
  have e : Builtin.Range.rangeSize lo hi 3 = (n : Int) := by
    unfold Builtin.Range.rangeSize
    simp only [show (3 : Int) > 0 by decide, if_true]
    split <;> omega
  refine ⟨by decide, by decide, ?_, e⟩
  unfold Builtin.Range.small
  rw [e]
  simp only [Builtin.Range.rangeFitsLong, Bool.and_eq_true, Bool.or_eq_true, decide_eq_true_eq, beq_iff_eq, show (3 : Int) > 0 by decide, if_true]
  omega
theorem cells_at {s : Sh} {i : Nat} {x : Int} (h : s.cells[i]? = some x) : (s.cells.map V.int)[i]? = some (V.int x) := by rw [List.getElem?_map, h]; rfl
theorem atI_i {xs : List V} {z : Int} {j : Nat} {v : V} (e : z = (j : Int)) (h : xs[j]? = some v) : atI xs z = some v := by rw [e]; exact atI_nat h
theorem map_at {ns : List Int} {i : Nat} {x : Int} (h : ns[i]? = some x) : (ns.map V.int)[i]? = some (V.int x) := by rw [List.getElem?_map, h]; rfl
section
variable {P : Program} {w : World} {K : PySem.W.Frag} {mg : Str → Option Value} {base : Heap}

/-! ### pair_at -/
def spPairAt : Sp := fun vs H Q _ => ∃ (B : Hp) (v : V) (s : Sh) (p E S R : Nat), vs = [v, .int p] ∧ Same B H ∧ Dt B (iL s.cells) v ∧ s.Ok E S R ∧
  ∀ t, H t = none → Q (.ref t) (upd H t (.tup [.int (s.at p).1, .int (s.at p).2]))
theorem scPairAt : FnScope ["shape", "place", "at"] ["shape", "place"] (defScope sPairAt) := ⟨rfl, rfl, rfl, by decide +kernel, rfl, by decide +kernel, by decide +kernel⟩
theorem ok_pairAt {f : Addr} {fd : FuncData} (F : Fun K "pair_at" "pair_at" sPairAt f fd) (T : Blt mg) : FnOk P w K mg base CX0 1 f fd ["shape", "place"] spPairAt := by
  refine F.ok scPairAt (fun vs H Q E h => ?_) (fun cdv A outer s H vs Q E hr h => ?_)
  · obtain ⟨B, v, s, p, E, S, R, rfl, _⟩ := h
    rfl
  · obtain ⟨B, v, s, p, E, S, R, rfl, sm, dv, ok, k⟩ := h
    obtain ⟨a, rfl, ha⟩ := dt_iL dv
    have hH := sm _ _ ha
    refine ⟨_, pss_cons (ps_for PassesOwn.never rfl (pi_range3 rfl T.range (pa_cons pe_int (pa_cons (pe_callB call_len_seq (by rfl) T.len PySem.boot_len (pa_cons (pv 0) pa_nil)) (pa_cons pe_int pa_nil)))) (pg_name (i := 2) scPairAt.nd rfl (Or.inl rfl))
        (pss_one (ps_if (pt_cmpR op_eq (pe_ix ix_list (pv 0) (pv 2) (fun _ _ => rfl)) (pv 1) (nomark _)) (pss_one (ps_ret (pe_tup (pa_cons (pe_ix ix_list (pv 0) (pe_op op_add (pv 2) pe_int) (fun _ _ => rfl)) (pa_cons (pe_ix ix_list (pv 0) (pe_op op_add (pv 2) pe_int) (fun _ _ => rfl)) pa_nil))))) pss_nil)))
      (pss_one (ps_ret (pe_tup (pa_cons (pe_ix ix_list (pv 0) pe_int (fun _ _ => rfl)) (pa_cons (pe_ix ix_list (pv 0) pe_int (fun _ _ => rfl)) pa_nil))))), ?_⟩
    refine ⟨_, rfl, a, _, rfl, .inl (SqL.of hH), 2, _, 3, s.ts.length, rfl, ?_, for_rangeC (lo := 2) (c := 3) (n := s.ts.length) (fun i σ H' => ∃ x, σ = [some (.ref a), some (.int p), x] ∧ H' = H ∧ ∀ (j : Nat) t, j < i → s.ts[j]? = some t → t.1 ≠ p)
      ⟨none, rfl, rfl, fun j t h => absurd h (Nat.not_lt_zero _)⟩ ?_ ?_⟩
    · have := s.len
      have hl := ok.ln
      rw [List.length_map]
      refine rg3 (by decide) (by decide) (by omega) ?_ (by omega) (by omega)
      by_cases h : s.ts.length = 0
      · exact .inr ⟨h, by omega⟩
      · exact .inl (by omega)
    · rintro i σ H' hi ⟨x, rfl, rfl, hj⟩
      have ht : s.ts[i]? = some s.ts[i] := List.getElem?_eq_getElem hi
      generalize s.ts[i] = t at ht
      obtain ⟨g0, g1, g2⟩ := s.get ht
      refine ⟨_, rfl, _, rfl, a, _, _, _, rfl, rfl, SqL.of hH, atI_i (j := 2 + 3 * i) (by omega) (map_at g0), _, rfl, rfl, _, rfl, ?_⟩
      refine ite2 (fun e => ?_) (fun e => ?_)
      · have e1 : t.1 = p := by
          have := of_decide_eq_true e
          injection this with this
          omega
        refine ⟨_, rfl, _, rfl, _, _, rfl, rfl, a, _, _, _, rfl, rfl, SqL.of hH, atI_i (j := 3 + 3 * i) (by omega) (map_at g1), _, rfl, _, rfl, _, _, rfl, rfl, a, _, _, _, rfl, rfl, SqL.of hH, atI_i (j := 4 + 3 * i) (by omega) (map_at g2), (by show 2 ≤ sizeLine; decide), fun q hq => ?_⟩
        have := k q hq
        rw [← e1, Sh.at_hit ok ht] at this
        exact this
      · refine ⟨_, rfl, rfl, fun j u hju hu => ?_⟩
        by_cases ej : j = i
        · subst ej
          rw [ht] at hu
          cases hu
          intro q
          exact e (decide_eq_true (by rw [q]))
        · exact hj j u (by omega) hu
    · rintro σ H' ⟨x, rfl, rfl, hj⟩
      have miss : s.at p = s.c := Sh.at_miss fun t ht => by
        obtain ⟨j, hj'⟩ := List.mem_iff_getElem?.mp ht
        exact hj j t (List.getElem?_eq_some_iff.mp hj').1 hj'
      refine ⟨_, rfl, a, _, _, _, rfl, rfl, SqL.of hH, atI_i (j := 0) rfl (map_at s.get0), _, rfl, a, _, _, _, rfl, rfl, SqL.of hH, atI_i (j := 1) rfl (map_at s.get1), (by show 2 ≤ sizeLine; decide), fun q hq => ?_⟩
      have := k q hq
      rw [miss] at this
      exact this

/-! ### shape_fits -/
def spFits : Sp := fun vs H Q _ => ∃ (B : Hp) (v : V) (s : Sh) (E S R : Nat), vs = [v, .int E, .int S, .int R] ∧ Same B H ∧ Dt B (iL s.cells) v ∧ s.Ok E S R ∧ Q (.bl true) H
theorem scFits : FnScope ["shape", "events", "sayings", "rooms", "ahead", "at"] ["shape", "events", "sayings", "rooms"] (defScope sFits) := ⟨rfl, rfl, rfl, by decide +kernel, rfl, by decide +kernel, by decide +kernel⟩
theorem ok_fits {f : Addr} {fd : FuncData} (F : Fun K "shape_fits" "shape_fits" sFits f fd) (T : Blt mg) : FnOk P w K mg base CX0 1 f fd ["shape", "events", "sayings", "rooms"] spFits := by
  refine F.ok scFits (fun vs H Q E h => ?_) (fun cdv A outer s H vs Q E hr h => ?_)
  · obtain ⟨B, v, s, E, S, R, rfl, _⟩ := h
    rfl
  · obtain ⟨B, v, s, E, S, R, rfl, sm, dv, ok, k⟩ := h
    obtain ⟨a, rfl, ha⟩ := dt_iL dv
    have hH := sm _ _ ha
    have hlen := s.len
    refine ⟨_, pss_cons (ps_if (pt_cmpR op_ne (pe_op op_mod (pe_callB call_len_seq (by rfl) T.len PySem.boot_len (pa_cons (pv 0) pa_nil)) pe_int) pe_int (nomark _)) (pss_one (ps_ret pe_bl)) pss_nil)
      (pss_cons (ps_set (i := 4) scFits.nd rfl (Or.inl rfl) (pe_un un_neg pe_int))
      (pss_cons (ps_for PassesOwn.never rfl (pi_range3 rfl T.range (pa_cons pe_int (pa_cons (pe_callB call_len_seq (by rfl) T.len PySem.boot_len (pa_cons (pv 0) pa_nil)) (pa_cons pe_int pa_nil)))) (pg_name (i := 5) scFits.nd rfl (Or.inl rfl))
        (pss_cons (ps_if (PW.pt (pw_or (pt_cmpR op_le (pe_ix ix_list (pv 0) (pv 5) (fun _ _ => rfl)) (pv 4) (nomark _)) (pw_or1 (pt_cmpR op_ge (pe_ix ix_list (pv 0) (pv 5) (fun _ _ => rfl)) (pv 1) (nomark _))))) (pss_one (ps_ret pe_bl)) pss_nil)
        (pss_one (ps_set (i := 4) scFits.nd rfl (Or.inl rfl) (pe_ix ix_list (pv 0) (pv 5) (fun _ _ => rfl))))))
      (pss_cons (ps_for PassesOwn.never rfl (pi_range3 rfl T.range (pa_cons pe_int (pa_cons (pe_callB call_len_seq (by rfl) T.len PySem.boot_len (pa_cons (pv 0) pa_nil)) (pa_cons pe_int pa_nil)))) (pg_name (i := 5) scFits.nd rfl (Or.inl rfl))
        (pss_one (ps_if (PW.pt (pw_or (pt_cmpR op_ge (pe_ix ix_list (pv 0) (pv 5) (fun _ _ => rfl)) (pv 2) (nomark _)) (pw_or1 (pt_cmpR op_ge (pe_ix ix_list (pv 0) (pe_op op_add (pv 5) pe_int) (fun _ _ => rfl)) (pv 3) (nomark _))))) (pss_one (ps_ret pe_bl)) pss_nil)))
      (pss_one (ps_ret pe_bl))))), ?_⟩
    refine ⟨_, rfl, a, _, rfl, .inl (SqL.of hH), _, _, rfl, rfl, (by show (0 : Int) < 3; decide), rfl, _, rfl, ?_⟩
    refine iteNS (by rw [List.length_map]; exact congrArg V.int (by omega)) ?_
    refine ⟨1, rfl, ?_⟩
    have hl := ok.ln
    refine ⟨_, rfl, a, _, rfl, .inl (SqL.of hH), 2, _, 3, s.ts.length, rfl, ?_, for_rangeC (lo := 2) (c := 3) (n := s.ts.length) (fun i σ H' => ∃ (ah : Int) (x : Option V), σ = [some (.ref a), some (.int E), some (.int S), some (.int R), some (.int ah), x] ∧ H' = H ∧ ∀ t, s.ts[i]? = some t → ah < t.1)
      ⟨-1, none, rfl, rfl, fun t _ => by omega⟩ ?_ ?_⟩
    · rw [List.length_map]
      refine rg3 (by decide) (by decide) (by omega) ?_ (by omega) (by omega)
      by_cases h : s.ts.length = 0
      · exact .inr ⟨h, by omega⟩
      · exact .inl (by omega)
    · rintro i σ H' hi ⟨ah, x, rfl, rfl, hah⟩
      have ht : s.ts[i]? = some s.ts[i] := List.getElem?_eq_getElem hi
      generalize s.ts[i] = t at ht
      obtain ⟨g0, g1, g2⟩ := s.get ht
      have h1 := hah t ht
      have h2 := (ok.tb t (List.mem_of_getElem? ht)).1
      refine ⟨_, rfl, _, rfl, a, _, _, _, rfl, rfl, SqL.of hH, atI_i (j := 2 + 3 * i) (by omega) (map_at g0), _, rfl, _, _, rfl, rfl, _, rfl, ?_⟩
      refine ite2 (fun e => absurd (of_decide_eq_true e) (by omega)) (fun _ => ?_)
      refine ⟨_, rfl, _, rfl, a, _, _, _, rfl, rfl, SqL.of hH, atI_i (j := 2 + 3 * i) (by omega) (map_at g0), _, rfl, _, _, rfl, rfl, _, rfl, ?_⟩
      refine ite2 (fun e => absurd (of_decide_eq_true e) (by omega)) (fun _ => ?_)
      refine ⟨_, rfl, _, rfl, a, _, _, _, rfl, rfl, SqL.of hH, atI_i (j := 2 + 3 * i) (by omega) (map_at g0), ?_⟩
      refine ⟨(t.1 : Int), _, rfl, rfl, fun u hu => ?_⟩
      have hlt := (List.getElem?_eq_some_iff.mp hu).1
      have := List.pairwise_iff_getElem.mp ok.up i (i + 1) hi hlt (by omega)
      rw [List.getElem?_eq_getElem hi] at ht
      rw [List.getElem?_eq_getElem hlt] at hu
      rw [Option.some.inj ht, Option.some.inj hu] at this
      omega
    · rintro σ H' ⟨ah, x, rfl, rfl, _⟩
      refine ⟨_, rfl, a, _, rfl, .inl (SqL.of hH), 0, _, 3, s.ts.length + 1, rfl, ?_, for_rangeC (lo := 0) (c := 3) (n := s.ts.length + 1) (fun i σ H2 => ∃ (ah : Int) (x : Option V), σ = [some (.ref a), some (.int E), some (.int S), some (.int R), some (.int ah), x] ∧ H2 = H')
        ⟨ah, _, rfl, rfl⟩ ?_ ?_⟩
      · rw [List.length_map]
        exact rg3 (by decide) (by decide) (by omega) (.inl (by omega)) (by omega) (by omega)
      · rintro i σ H' hi ⟨ah, x, rfl, rfl⟩
        obtain ⟨u, v, hu, hv, h1, h2⟩ : ∃ u v : Nat, s.cells[3 * i]? = some (u : Int) ∧ s.cells[3 * i + 1]? = some (v : Int) ∧ u < S ∧ v < R := by
          cases i with
          | zero => exact ⟨_, _, s.get0, s.get1, ok.c1, ok.c2⟩
          | succ j =>
            have hj : j < s.ts.length := by omega
            have ht : s.ts[j]? = some s.ts[j] := List.getElem?_eq_getElem hj
            generalize s.ts[j] = t at ht
            obtain ⟨g0, g1, g2⟩ := s.get ht
            have h := (ok.tb t (List.mem_of_getElem? ht)).2
            have e1 : 3 * (j + 1) = 3 + 3 * j := by omega
            have e2 : 3 * (j + 1) + 1 = 4 + 3 * j := by omega
            rw [e2, e1]
            exact ⟨_, _, g1, g2, h.1, h.2⟩
        refine ⟨_, rfl, _, rfl, a, _, _, _, rfl, rfl, SqL.of hH, atI_i (j := 3 * i) (by omega) (map_at hu), _, rfl, _, _, rfl, rfl, _, rfl, ?_⟩
        refine ite2 (fun e => absurd (of_decide_eq_true e) (by omega)) (fun _ => ?_)
        refine ⟨_, rfl, _, rfl, _, _, rfl, rfl, a, _, _, _, rfl, rfl, SqL.of hH, atI_i (j := 3 * i + 1) (by omega) (map_at hv), _, rfl, _, _, rfl, rfl, _, rfl, ?_⟩
        refine ite2 (fun e => absurd (of_decide_eq_true e) (by omega)) (fun _ => ?_)
        exact ⟨ah, _, rfl, rfl⟩
      · rintro σ H' ⟨ah, x, rfl, rfl⟩
        exact k
end
end Mill

namespace Mill
open PySem PySem.Spec PyProof.Rows L2
abbrev bLen (bs : List (List Int)) (i : Nat) : Nat := ((bs.take i).flatMap block).length
theorem block_at (pre post : List Int) (bs : List (List Int)) {i : Nat} {b : List Int} (h : bs[i]? = some b) :
    (pre ++ bs.flatMap block ++ post)[pre.length + bLen bs i]? = some (b.length : Int) ∧ pre.length + bLen bs i + 1 + b.length ≤ (pre ++ bs.flatMap block ++ post).length ∧
      ((pre ++ bs.flatMap block ++ post).drop (pre.length + bLen bs i + 1)).take b.length = b ∧ bLen bs (i + 1) = bLen bs i + 1 + b.length := by
  obtain ⟨hi, e⟩ := List.getElem?_eq_some_iff.mp h
  have e1 : bs = bs.take i ++ b :: bs.drop (i + 1) := by
    conv => lhs; rw [← List.take_append_drop i bs]
    rw [List.drop_eq_getElem_cons hi, e]
  have e2 : pre ++ bs.flatMap block ++ post = (pre ++ (bs.take i).flatMap block) ++ ((b.length : Int) :: (b ++ ((bs.drop (i + 1)).flatMap block ++ post))) := by
    conv => lhs; rw [e1]
    simp only [List.flatMap_append, List.flatMap_cons, block, List.append_assoc, List.cons_append]
  have e3 : (pre ++ (bs.take i).flatMap block).length = pre.length + bLen bs i := List.length_append
  have e4 : bLen bs (i + 1) = bLen bs i + 1 + b.length := by
    show ((bs.take (i + 1)).flatMap block).length = _
    rw [List.take_succ, h]
    show ((bs.take i ++ [b]).flatMap block).length = _
    rw [List.flatMap_append, List.length_append]
    show bLen bs i + ([b].flatMap block).length = _
    simp only [List.flatMap_cons, List.flatMap_nil, List.append_nil, block, List.length_cons]
    omega
  rw [e2]
  refine ⟨?_, ?_, ?_, e4⟩
  · rw [List.getElem?_append_right (by omega), e3, Nat.sub_self]; rfl
  · rw [List.length_append, e3, List.length_cons, List.length_append]; omega
  · have e5 : pre.length + bLen bs i + 1 = (pre ++ (bs.take i).flatMap block).length + 1 := by rw [e3]
    rw [e5, List.drop_append]
    have e6 : (pre ++ (bs.take i).flatMap block).length + 1 - (pre ++ (bs.take i).flatMap block).length = 1 := by omega
    rw [e6, List.drop_eq_nil_of_le (by omega), List.nil_append, List.drop_one, List.tail_cons, List.take_append_of_le_length (Nat.le_refl _), List.take_length]
theorem cutV_nat (ns : List Int) (p n : Nat) (h : p + n ≤ ns.length) : cutV (ns.map V.int) (some ((p : Nat) : Int)) (some (((p + n : Nat)) : Int)) = ((ns.drop p).take n).map V.int := by
  unfold cutV
  rw [HT.sIx_nat, HT.sIx_nat, List.length_map, Nat.min_eq_left h, Nat.min_eq_left (Nat.le_trans (Nat.le_add_right _ _) h), List.map_take, List.map_drop]
  have : p + n - p = n := by omega
  rw [this]
theorem ints_at {ds : List (List Int)} {i : Nat} {b : List Int} (h : ds[i]? = some b) : (ds.map iL)[i]? = some (iL b) := by rw [List.getElem?_map, h]; rfl
theorem map_take_succ {α β : Type} (f : α → β) {l : List α} {i : Nat} {x : α} (h : l[i]? = some x) : (l.take (i + 1)).map f = (l.take i).map f ++ [f x] := by
  rw [List.take_succ, h, List.map_append]; rfl
theorem upd_eqL {H : Hp} {p : Addr} {xs ys : List V} (R : Hp → Prop) (e : xs = ys) (h : R (upd H p (.lst ys))) : R (upd H p (.lst xs)) := by rw [e]; exact h
section
variable {P : Program} {w : World} {K : PySem.W.Frag} {mg : Str → Option Value} {base : Heap}

/-! ### blocks_from -/
def spBlocks : Sp := fun vs H Q _ => ∃ (B : Hp) (v : V) (pre post : List Int) (bs : List (List Int)), vs = [v, .int (pre.length : Nat), .int (bs.length : Nat)] ∧ Same B H ∧ Dt B (iL (pre ++ bs.flatMap block ++ post)) v ∧ bs.length ≤ 1000 ∧
  ∀ v' B' H', Gr M0 B H B' H' → Dt B' (.tuple [.list (bs.map iL), .int ((pre.length + (bs.flatMap block).length : Nat) : Int)]) v' → Q v' H'
theorem scBlocks : FnScope ["cells", "at", "many", "found", "turn"] ["cells", "at", "many"] (defScope sBlocks) := ⟨rfl, rfl, rfl, by decide +kernel, rfl, by decide +kernel, by decide +kernel⟩
theorem ok_blocks {f : Addr} {fd : FuncData} (F : Fun K "blocks_from" "blocks_from" sBlocks f fd) (T : Blt mg) : FnOk P w K mg base CX0 1 f fd ["cells", "at", "many"] spBlocks := by
  refine F.ok scBlocks (fun vs H Q E h => ?_) (fun cdv A outer s H vs Q E hr h => ?_)
  · obtain ⟨B, v, pre, post, bs, rfl, _⟩ := h
    rfl
  · obtain ⟨B, v, pre, post, bs, rfl, sm, dv, hz, k⟩ := h
    obtain ⟨a, rfl, ha⟩ := dt_iL dv
    have hH := sm _ _ ha
    refine ⟨_, pss_cons (ps_set (i := 3) scBlocks.nd rfl (Or.inl rfl) (pe_lst pa_nil))
      (pss_cons (ps_for PassesOwn.never rfl (pi_range1 rfl T.range (pa_cons (pv 2) pa_nil)) (pg_name (i := 4) scBlocks.nd rfl (Or.inl rfl))
        (pss_cons (ps_if (PW.pt (pw_or (pt_cmpR op_ge (pv 1) (pe_callB call_len_seq (by rfl) T.len PySem.boot_len (pa_cons (pv 0) pa_nil)) (nomark _))
            (pw_or1 (pt_cmpR op_gt (pe_op op_add (pe_op op_add (pv 1) pe_int) (pe_ix ix_list (pv 0) (pv 1) (fun _ _ => rfl))) (pe_callB call_len_seq (by rfl) T.len PySem.boot_len (pa_cons (pv 0) pa_nil)) (nomark _))))) (pss_one (ps_ret pe_non)) pss_nil)
        (pss_cons (ps_expr (pe_bm PySem.F.plainAttrs_list PySem.F.slot_list_append PySem.F.type_list_append mt_append (pv 3)
            (pa_cons (pe_slice sl_list (pv 0) (po_some (pe_op op_add (pv 1) pe_int)) (po_some (pe_op op_add (pe_op op_add (pv 1) pe_int) (pe_ix ix_list (pv 0) (pv 1) (fun _ _ => rfl))))) pa_nil)))
        (pss_one (ps_aug (i := 1) scBlocks.nd rfl (Or.inl rfl) (pe_op op_add pe_int (pe_ix ix_list (pv 0) (pv 1) (fun _ _ => rfl))) ip_add)))))
      (pss_one (ps_ret (pe_tup (pa_cons (pv 3) (pa_cons (pv 1) pa_nil)))))), ?_⟩
    refine ⟨Nat.zero_le _, fun l hl => ?_⟩
    have nal : a ≠ l := ne_of_none hH hl
    refine ⟨_, rfl, _, rfl, by omega, by omega, for_range (lo := 0) (n := bs.length) (fun i σ H' => ∃ (B1 : Hp) (xs : List V) (x : Option V), σ = [some (.ref a), some (.int ((pre.length + bLen bs i : Nat) : Int)), some (.int (bs.length : Nat)), some (.ref l), x] ∧
        Gr M0 B H B1 H' ∧ B1 l = none ∧ H' l = some (.lst xs) ∧ DtAll B1 ((bs.take i).map iL) xs)
      ⟨B, [], none, rfl, (Gr.refl sm).nwM hl, sm.free hl, upd_same, rfl⟩ ?_ ?_⟩
    · rintro i σ H' hi ⟨B1, xs, x, rfl, G, hB, hL, hD⟩
      have hb : bs[i]? = some bs[i] := List.getElem?_eq_getElem hi
      generalize bs[i] = b at hb
      obtain ⟨c1, c2, c3, c4⟩ := block_at pre post bs hb
      have hA : H' a = some (.lst ((pre ++ bs.flatMap block ++ post).map V.int)) := G.hh _ _ (fun z => z) hH
      generalize pre ++ bs.flatMap block ++ post = ns at c1 c2 c3 hA
      generalize hp : pre.length + bLen bs i = p at c1 c2 c3
      have hat : atI (ns.map V.int) ((p : Nat) : Int) = some (V.int (b.length : Int)) := atI_nat (map_at c1)
      have hlen : (ns.map V.int).length = ns.length := List.length_map ..
      refine ⟨_, rfl, _, rfl, a, _, rfl, .inl (SqL.of hA), _, _, rfl, rfl, _, rfl, ?_⟩
      refine ite2 (fun e => absurd (of_decide_eq_true e) (by omega)) (fun _ => ?_)
      refine ⟨_, rfl, _, _, rfl, rfl, _, rfl, _, rfl, a, _, _, _, rfl, rfl, SqL.of hA, hat, _, _, rfl, rfl, _, rfl, a, _, rfl, .inl (SqL.of hA), _, _, rfl, rfl, _, rfl, ?_⟩
      refine ite2 (fun e => absurd (of_decide_eq_true e) (by omega)) (fun _ => ?_)
      refine ⟨_, rfl, .inl ⟨rfl, _, SqL.of hL⟩, _, rfl, _, rfl, _, _, rfl, rfl, _, rfl, _, rfl, _, _, rfl, rfl, _, rfl, _, rfl, a, _, _, _, rfl, rfl, SqL.of hA, hat, _, _, rfl, rfl, _, rfl, a, _, rfl, SqL.of hA, fun q hq => ?_⟩
      have e1 : ((p : Nat) : Int) + 1 = ((p + 1 : Nat) : Int) := by omega
      have e2 : ((p : Nat) : Int) + 1 + (b.length : Int) = ((p + 1 + b.length : Nat) : Int) := by omega
      have ecut : cutV (ns.map V.int) (some (((p : Nat) : Int) + 1)) (some (((p : Nat) : Int) + 1 + (b.length : Int))) = b.map V.int := by
        rw [e2, e1, cutV_nat ns (p + 1) b.length c2, c3]
      have nlq : l ≠ q := ne_of_none hL hq
      have naq : a ≠ q := ne_of_none hA hq
      refine upd_eqL (fun Hx => tNil _ Hx _) ecut ?_
      have lx : xs.length ≤ 1000 := by
        have := hD.len
        rw [List.length_map, List.length_take] at this
        omega
      refine ⟨l, xs, .ref q, rfl, rfl, by rw [upd_ne nlq]; exact hL, Nat.lt_of_le_of_lt lx (by decide), ?_⟩
      have G2 : Gr M0 B H (upd B1 q (.lst (b.map V.int))) (upd (upd H' q (.lst (b.map V.int))) l (.lst (xs ++ [.ref q]))) := (G.nw hq).wr (by rw [upd_ne nlq]; exact hB) (.inr hl)
      refine ⟨_, rfl, _, rfl, _, rfl, a, _, _, _, rfl, rfl, SqL.of (by rw [upd_ne nal, upd_ne naq]; exact hA), hat, _, _, rfl, rfl, _, _, rfl, rfl, ?_⟩
      refine ⟨_, xs ++ [.ref q], some (.int (0 + (i : Int))), ?_, G2, by rw [upd_ne nlq]; exact hB, upd_same, ?_⟩
      · have e3 : ((p : Nat) : Int) + (1 + (b.length : Int)) = ((pre.length + bLen bs (i + 1) : Nat) : Int) := by omega
        show [some (V.ref a), some (V.int (((p : Nat) : Int) + (1 + (b.length : Int)))), some (V.int (bs.length : Nat)), some (V.ref l), some (.int (0 + (i : Int)))] = _
        rw [e3]
      · rw [map_take_succ iL hb]
        exact (DtAll.mono (Gr.new (M := M0) G.bh hq).bb _ _ hD).snoc (iL_of upd_same)
    · rintro σ H' ⟨B1, xs, x, rfl, G, hB, hL, hD⟩
      refine ⟨_, rfl, _, rfl, by show 2 ≤ sizeLine; decide, fun q hq => ?_⟩
      have G1 := G.fz hl hB hL
      have G2 := G1.nw (o := .tup [.ref l, .int ((pre.length + bLen bs bs.length : Nat) : Int)]) hq
      have nlq : l ≠ q := ne_of_none hL hq
      refine k _ _ _ G2 ⟨q, _, rfl, upd_same, .ref l, _, rfl, ⟨l, xs, rfl, by rw [upd_ne nlq, upd_same], ?_⟩, _, [], rfl, ?_, rfl⟩
      · have e : (bs.take bs.length).map iL = bs.map iL := by rw [List.take_length]
        rw [e] at hD
        refine DtAll.mono (fun b o e => ?_) _ _ hD
        have := (Gr.fz (M := M0) (Gr.refl G.bh) (p := l) (o := .lst xs) · hB hL)
        rw [upd_ne (fun z => by rw [z] at e; have := G.bh _ _ e; rw [hq] at this; cases this), upd_ne (ne_of_none e hB)]
        exact e
      · show V.int ((pre.length + bLen bs bs.length : Nat) : Int) = _
        unfold bLen
        rw [List.take_length]
end
end Mill

namespace Mill
open PySem PySem.Spec PyProof.Rows L2
/-- what parts_of tells -/
abbrev PD (k : Pk) : PyData := .tuple [.int (k.saying : Nat), iL (k.rooms.map roomCell), .list (k.shapeL.map iL), .list (k.sayL.map iL)]
theorem roomCell_nn (r : Nat × Bool) : 0 ≤ roomCell r := by
  unfold roomCell
  split <;> omega
theorem blocks_nn {bs : List (List Int)} (h : ∀ b ∈ bs, ∀ x ∈ b, (0 : Int) ≤ x) : ∀ x ∈ bs.flatMap block, (0 : Int) ≤ x := fun x hx => by
  obtain ⟨b, hb, hm⟩ := List.mem_flatMap.mp hx
  rcases List.mem_cons.mp hm with e | hm
  · rw [e]; omega
  · exact h b hb x hm
theorem sh_nn (s : Sh) : ∀ x ∈ s.cells, (0 : Int) ≤ x := fun x hx => by
  unfold Sh.cells at hx
  rcases List.mem_cons.mp hx with e | hx
  · rw [e]; omega
  · rcases List.mem_cons.mp hx with e | hx
    · rw [e]; omega
    · obtain ⟨t, ht, hm⟩ := List.mem_flatMap.mp hx
      simp only [tri, List.mem_cons, List.not_mem_nil, or_false] at hm
      rcases hm with e | e | e <;> rw [e] <;> omega
theorem cells_nn (k : Pk) : ∀ x ∈ k.cells, (0 : Int) ≤ x := fun x hx => by
  unfold Pk.cells at hx
  rcases List.mem_append.mp hx with hx | hx
  · rcases List.mem_append.mp hx with hx | hx
    · unfold Pk.head at hx
      rcases List.mem_append.mp hx with hx | hx
      · simp only [List.mem_cons, List.not_mem_nil, or_false] at hx
        rcases hx with e | e | e | e <;> rw [e] <;> omega
      · obtain ⟨r, _, e⟩ := List.mem_map.mp hx
        rw [← e]; exact roomCell_nn r
    · refine blocks_nn (fun b hb => ?_) x hx
      obtain ⟨s, _, e⟩ := List.mem_map.mp hb
      rw [← e]; exact sh_nn s
  · refine blocks_nn (fun b hb y hy => ?_) x hx
    obtain ⟨s, _, e⟩ := List.mem_map.mp hb
    rw [← e] at hy
    obtain ⟨n, _, e2⟩ := List.mem_map.mp hy
    rw [← e2]; omega
theorem head_len (k : Pk) : k.head.length = 4 + k.rooms.length := by
  unfold Pk.head
  rw [List.length_append, List.length_map]
  rfl
theorem cells_head (k : Pk) : k.cells[0]? = some ((k.rooms.length : Nat) : Int) ∧ k.cells[1]? = some ((k.sayings.length : Nat) : Int) ∧ k.cells[2]? = some ((k.shapes.length : Nat) : Int) ∧ k.cells[3]? = some ((k.saying : Nat) : Int) := ⟨rfl, rfl, rfl, rfl⟩
theorem cells_rooms (k : Pk) : (k.cells.drop 4).take k.rooms.length = k.rooms.map roomCell := by
  unfold Pk.cells Pk.head
  show (((k.rooms.map roomCell ++ k.shapeL.flatMap block) ++ k.sayL.flatMap block)).take k.rooms.length = _
  rw [List.append_assoc, List.take_append_of_le_length (by rw [List.length_map]; exact Nat.le_refl _), List.take_of_length_le (by rw [List.length_map]; exact Nat.le_refl _)]
theorem cells_le (k : Pk) : 4 + k.rooms.length ≤ k.cells.length := by
  unfold Pk.cells
  rw [List.length_append, List.length_append, head_len]; omega
/-- the four parts, as they lie in B -/
structure PDat (k : Pk) (B : Hp) (v : V) (t : Addr) (vr vs vy : V) : Prop where
  e : v = .ref t
  tup : B t = some (.tup [.int (k.saying : Nat), vr, vs, vy])
  r : Dt B (iL (k.rooms.map roomCell)) vr
  s : Dt B (.list (k.shapeL.map iL)) vs
  y : Dt B (.list (k.sayL.map iL)) vy
theorem pd_of {k : Pk} {B : Hp} {v : V} (h : Dt B (PD k) v) : ∃ t vr vs vy, PDat k B v t vr vs vy := by
  obtain ⟨t, xs, e1, e2, y1, r1, e3, d1, y2, r2, e4, d2, y3, r3, e5, d3, y4, r4, e6, d4, e7⟩ := h
  rw [e7] at e6
  rw [e6] at e5
  rw [e5] at e4
  rw [e4] at e3
  rw [e3, show y1 = _ from d1] at e2
  exact ⟨t, y2, y3, y4, e1, e2, d2, d3, d4⟩
theorem pd_mk {k : Pk} {B : Hp} {t : Addr} {vr vs vy : V} (h : B t = some (.tup [.int (k.saying : Nat), vr, vs, vy])) (r : Dt B (iL (k.rooms.map roomCell)) vr) (s : Dt B (.list (k.shapeL.map iL)) vs) (y : Dt B (.list (k.sayL.map iL)) vy) : Dt B (PD k) (.ref t) :=
  ⟨t, _, rfl, h, _, _, rfl, rfl, _, _, rfl, r, _, _, rfl, s, _, _, rfl, y, rfl⟩
theorem dt_pair {B : Hp} {d1 d2 : PyData} {v : V} (h : Dt B (.tuple [d1, d2]) v) : ∃ t v1 v2, v = .ref t ∧ B t = some (.tup [v1, v2]) ∧ Dt B d1 v1 ∧ Dt B d2 v2 := by
  obtain ⟨t, xs, e1, e2, y1, r1, e3, h1, y2, r2, e4, h2, e5⟩ := h
  rw [e5] at e4
  rw [e4] at e3
  rw [e3] at e2
  exact ⟨t, y1, y2, e1, e2, h1, h2⟩
section
variable {P : Program} {w : World} {K : PySem.W.Frag} {mg : Str → Option Value} {base : Heap}

/-! ### parts_of -/
def spParts : Sp := fun vs H Q _ => ∃ (B : Hp) (ve vt vc : V) (evs txs : List PyData) (k : Pk), vs = [ve, vt, vc] ∧ Same B H ∧ Dt B (.list evs) ve ∧ Dt B (.list txs) vt ∧ Dt B (iL k.cells) vc ∧ k.Ok evs.length txs.length ∧
  ∀ v' B' H', Gr M0 B H B' H' → Dt B' (PD k) v' → Q v' H'
theorem scParts : FnScope ["events", "texts", "cells", "rooms", "shapes", "sayings", "shape", "said"] ["events", "texts", "cells"] (defScope sParts) := ⟨rfl, rfl, rfl, by decide +kernel, rfl, by decide +kernel, by decide +kernel⟩
theorem ok_parts {f fB fF : Addr} {fd fdB fdF : FuncData} (F : Fun K "parts_of" "parts_of" sParts f fd) (T : Blt mg) (AB : At K mg "blocks_from" ["cells", "at", "many"] sBlocks fB fdB) (AF : At K mg "shape_fits" ["shape", "events", "sayings", "rooms"] sFits fF fdF) :
    FnOk P w K mg base CX0 2 f fd ["events", "texts", "cells"] spParts := by
  have GB : FnOk P w K mg base CX0 1 fB fdB ["cells", "at", "many"] spBlocks := ok_blocks AB.fn T
  have GF : FnOk P w K mg base CX0 1 fF fdF ["shape", "events", "sayings", "rooms"] spFits := ok_fits AF.fn T
  refine F.ok scParts (fun vs H Q E h => ?_) (fun cdv A outer s H vs Q E hr h => ?_)
  · obtain ⟨B, ve, vt, vc, evs, txs, k, rfl, _⟩ := h
    rfl
  · obtain ⟨B, ve, vt, vc, evs, txs, k, rfl, sm, dve, dvt, dvc, ok, kk⟩ := h
    obtain ⟨c, rfl, hc0⟩ := dt_iL dvc
    obtain ⟨e, es, rfl, he0, hes⟩ := dve
    obtain ⟨t, ts, rfl, ht0, hts⟩ := dvt
    have hc := sm _ _ hc0
    have he := sm _ _ he0
    have ht := sm _ _ ht0
    obtain ⟨c0, c1, c2, c3⟩ := cells_head k
    have hlen := cells_le k
    have hml : (k.cells.map V.int).length = k.cells.length := List.length_map ..
    have r1 := ok.r1
    have r2 := ok.r2
    refine ⟨_, pss_cons (ps_if (PW.pt (pw_or (pt_cmpR op_lt (pe_callB call_len_seq (by rfl) T.len PySem.boot_len (pa_cons (pv 2) pa_nil)) pe_int (nomark _))
          (pw_or (pt_cmpR op_lt (pe_callB (cr_min rfl) (by rfl) T.min (by decide +kernel) (pa_cons (pv 2) pa_nil)) pe_int (nomark _))
          (pw_or (pt_cmpR op_lt (pe_ix ix_list (pv 2) pe_int (fun _ _ => rfl)) pe_int (nomark _))
          (pw_or (pt_cmpR op_gt (pe_ix ix_list (pv 2) pe_int (fun _ _ => rfl)) pe_int (nomark _))
          (pw_or1 (pt_cmpR op_ge (pe_ix ix_list (pv 2) pe_int (fun _ _ => rfl)) (pe_ix ix_list (pv 2) pe_int (fun _ _ => rfl)) (nomark _)))))))) (pss_one (ps_ret pe_non)) pss_nil)
      (pss_cons (ps_set (i := 3) scParts.nd rfl (Or.inl rfl) (pe_slice sl_list (pv 2) (po_some pe_int) (po_some (pe_op op_add pe_int (pe_ix ix_list (pv 2) pe_int (fun _ _ => rfl))))))
      (pss_cons (ps_set (i := 4) scParts.nd rfl (Or.inl rfl) (pe_call GB hr rfl AB.mgf AB.fn.kp AB.bd .nil pass0 (pa_cons (pv 2) (pa_cons (pe_op op_add pe_int (pe_ix ix_list (pv 2) pe_int (fun _ _ => rfl))) (pa_cons (pe_ix ix_list (pv 2) pe_int (fun _ _ => rfl)) pa_nil)))))
      (pss_cons (ps_if (PW.pt (pw_or (pt_cmpR op_lt (pe_callB call_len_seq (by rfl) T.len PySem.boot_len (pa_cons (pv 3) pa_nil)) (pe_ix ix_list (pv 2) pe_int (fun _ _ => rfl)) (nomark _)) (pw_or1 (pt_cmpR op_isN (pv 4) pe_non (nomark _))))) (pss_one (ps_ret pe_non)) pss_nil)
      (pss_cons (ps_set (i := 5) scParts.nd rfl (Or.inl rfl) (pe_call GB hr rfl AB.mgf AB.fn.kp AB.bd .nil pass0 (pa_cons (pv 2) (pa_cons (pe_ix ix_tup (pv 4) pe_int (fun _ _ => rfl)) (pa_cons (pe_ix ix_list (pv 2) pe_int (fun _ _ => rfl)) pa_nil)))))
      (pss_cons (ps_if (PW.pt (pw_or (pt_cmpR op_isN (pv 5) pe_non (nomark _)) (pw_or1 (pt_cmpR op_ne (pe_ix ix_tup (pv 5) pe_int (fun _ _ => rfl)) (pe_callB call_len_seq (by rfl) T.len PySem.boot_len (pa_cons (pv 2) pa_nil)) (nomark _))))) (pss_one (ps_ret pe_non)) pss_nil)
      (pss_cons (ps_for PassesOwn.never rfl (pi_list (pe_ix ix_tup (pv 4) pe_int (fun _ _ => rfl))) (pg_name (i := 6) scParts.nd rfl (Or.inl rfl))
        (pss_one (ps_if (pt_not (pt_val (pe_call GF hr rfl AF.mgf AF.fn.kp AF.bd .nil pass0 (pa_cons (pv 6) (pa_cons (pe_callB call_len_seq (by rfl) T.len PySem.boot_len (pa_cons (pv 0) pa_nil)) (pa_cons (pe_ix ix_list (pv 2) pe_int (fun _ _ => rfl)) (pa_cons (pe_ix ix_list (pv 2) pe_int (fun _ _ => rfl)) pa_nil))))))) (pss_one (ps_ret pe_non)) pss_nil)))
      (pss_cons (ps_for PassesOwn.never rfl (pi_list (pe_ix ix_tup (pv 5) pe_int (fun _ _ => rfl))) (pg_name (i := 7) scParts.nd rfl (Or.inl rfl))
        (pss_one (ps_if (pt_cmpR op_ge (pe_callBK (cr_maxD rfl) (by rfl) T.max (by decide +kernel) (pa_cons (pv 7) pa_nil) (pk_cons (pe_un un_neg pe_int) pk_nil)) (pe_callB call_len_seq (by rfl) T.len PySem.boot_len (pa_cons (pv 1) pa_nil)) (nomark _)) (pss_one (ps_ret pe_non)) pss_nil)))
      (pss_one (ps_ret (pe_tup (pa_cons (pe_ix ix_list (pv 2) pe_int (fun _ _ => rfl)) (pa_cons (pv 3) (pa_cons (pe_ix ix_tup (pv 4) pe_int (fun _ _ => rfl)) (pa_cons (pe_ix ix_tup (pv 5) pe_int (fun _ _ => rfl)) pa_nil)))))))))))))), ?_⟩
    -- the form's head
    refine ⟨_, rfl, c, _, rfl, .inl (SqL.of hc), _, _, rfl, rfl, _, rfl, ?_⟩
    refine ite2 (fun q => absurd (of_decide_eq_true q) (by omega)) (fun _ => ?_)
    refine ⟨_, rfl, c, _, rfl, SqL.of hc, by omega, fun m hm _ => ⟨_, _, rfl, rfl, _, rfl, ?_⟩⟩
    refine ite2 (fun q => absurd (of_decide_eq_true q) (by have := cells_nn k m hm; omega)) (fun _ => ?_)
    refine ⟨_, rfl, c, _, _, _, rfl, rfl, SqL.of hc, atI_i (j := 0) rfl (map_at c0), _, _, rfl, rfl, _, rfl, ?_⟩
    refine ite2 (fun q => absurd (of_decide_eq_true q) (by omega)) (fun _ => ?_)
    refine ⟨_, rfl, c, _, _, _, rfl, rfl, SqL.of hc, atI_i (j := 0) rfl (map_at c0), _, _, rfl, rfl, _, rfl, ?_⟩
    refine ite2 (fun q => absurd (of_decide_eq_true q) (by omega)) (fun _ => ?_)
    refine ⟨_, rfl, c, _, _, _, rfl, rfl, SqL.of hc, atI_i (j := 3) rfl (map_at c3), _, rfl, c, _, _, _, rfl, rfl, SqL.of hc, atI_i (j := 1) rfl (map_at c1), _, _, rfl, rfl, _, rfl, ?_⟩
    refine ite2 (fun q => absurd (of_decide_eq_true q) (by have := ok.s1; omega)) (fun _ => ?_)
    -- rooms
    refine ⟨_, rfl, _, rfl, _, rfl, c, _, _, _, rfl, rfl, SqL.of hc, atI_i (j := 0) rfl (map_at c0), _, _, rfl, rfl, _, rfl, c, _, rfl, SqL.of hc, fun r hr0 => ?_⟩
    have ecut : cutV (k.cells.map V.int) (some 4) (some (4 + ((k.rooms.length : Nat) : Int))) = (k.rooms.map roomCell).map V.int := by
      have e1 : (4 : Int) + ((k.rooms.length : Nat) : Int) = ((4 + k.rooms.length : Nat) : Int) := by omega
      rw [e1, show (4 : Int) = ((4 : Nat) : Int) from rfl, cutV_nat k.cells 4 k.rooms.length hlen, cells_rooms]
    refine upd_eqL (fun Hx => gName 3 (.ref r) _ Hx _) ecut ?_
    have G1 := (Gr.refl (M := M0) sm).nw (o := .lst ((k.rooms.map roomCell).map V.int)) hr0
    have hr1 : (upd B r (.lst ((k.rooms.map roomCell).map V.int))) r = some (.lst ((k.rooms.map roomCell).map V.int)) := upd_same
    generalize upd B r (.lst ((k.rooms.map roomCell).map V.int)) = B1 at G1 hr1
    generalize upd H r (.lst ((k.rooms.map roomCell).map V.int)) = H1 at G1
    have hc1 := G1.bh _ _ (G1.bb _ _ hc0)
    have ea : (4 : Int) + ((k.rooms.length : Nat) : Int) = ((k.head.length : Nat) : Int) := by rw [head_len]; omega
    have eb : ((k.shapes.length : Nat) : Int) = ((k.shapeL.length : Nat) : Int) := by unfold Pk.shapeL; rw [List.length_map]
    have ec : ((k.sayings.length : Nat) : Int) = ((k.sayL.length : Nat) : Int) := by unfold Pk.sayL; rw [List.length_map]
    -- shapes
    refine ⟨_, rfl, _, rfl, c, _, _, _, rfl, rfl, SqL.of hc1, atI_i (j := 0) rfl (map_at c0), _, _, rfl, rfl, _, rfl, c, _, _, _, rfl, rfl, SqL.of hc1, atI_i (j := 2) rfl (map_at c2), B1, .ref c, k.head, k.sayL.flatMap block, k.shapeL, (by rw [← ea, ← eb]; rfl), G1.bh, iL_of (G1.bb _ _ hc0), (by have := ok.h2; omega), fun v2 B2 H2 G2 D2 => ?_⟩
    obtain ⟨t1, s1, x1, rfl, ht1, ds1, dx1⟩ := dt_pair D2
    obtain rfl : x1 = V.int _ := dx1
    have G2' := G1.tr G2
    have hr2 := G2.bb _ _ hr1
    have hc2 := G2.bh _ _ (G2'.bb _ _ hc0)
    refine ⟨_, rfl, r, _, rfl, .inl (SqL.of (G2.bh _ _ hr2)), _, rfl, c, _, _, _, rfl, rfl, SqL.of hc2, atI_i (j := 0) rfl (map_at c0), _, _, rfl, rfl, _, rfl, ?_⟩
    refine ite2 (fun q => absurd (of_decide_eq_true q) (by rw [List.length_map, List.length_map]; omega)) (fun _ => ?_)
    refine ⟨_, rfl, rfl, _, rfl, ?_⟩
    refine ite2 (fun q => absurd (of_decide_eq_true q) (by intro z; cases z)) (fun _ => ?_)
    -- sayings
    have e5 : k.cells = (k.head ++ k.shapeL.flatMap block) ++ k.sayL.flatMap block ++ [] := by rw [List.append_nil]; rfl
    refine ⟨_, rfl, _, rfl, t1, _, _, _, rfl, rfl, SqT.of (G2.bh _ _ ht1), atI_i (j := 1) rfl rfl, _, rfl, c, _, _, _, rfl, rfl, SqL.of hc2, atI_i (j := 1) rfl (map_at c1), B2, .ref c, k.head ++ k.shapeL.flatMap block, [], k.sayL, (by rw [← ec, List.length_append]; rfl), G2.bh, (by rw [← e5]; exact iL_of (G2'.bb _ _ hc0)), (by have := ok.s2; omega), fun v3 B3 H3 G3 D3 => ?_⟩
    obtain ⟨t2, y1, x2, rfl, ht2, dy1, dx2⟩ := dt_pair D3
    obtain rfl : x2 = V.int _ := dx2
    have G3' := G2'.tr G3
    have hr3 := G3.bb _ _ hr2
    have ht13 := G3.bb _ _ ht1
    have hc3 := G3.bh _ _ (G3'.bb _ _ hc0)
    have he3 := G3.bh _ _ (G3'.bb _ _ he0)
    have htt3 := G3.bh _ _ (G3'.bb _ _ ht0)
    have ds3 := Dt.mono G3.bb _ _ ds1
    obtain ⟨sl, xs1, rfl, hsl, hxs1⟩ := id ds3
    obtain ⟨yl, ys1, rfl, hyl, hys1⟩ := id dy1
    refine ⟨_, rfl, rfl, _, rfl, ?_⟩
    refine ite2 (fun q => absurd (of_decide_eq_true q) (by intro z; cases z)) (fun _ => ?_)
    refine ⟨_, rfl, t2, _, _, _, rfl, rfl, SqT.of (G3.bh _ _ ht2), atI_i (j := 1) rfl rfl, _, rfl, c, _, rfl, .inl (SqL.of hc3), rfl, _, rfl, ?_⟩
    refine iteNS (congrArg V.int ?_) ?_
    · rw [List.length_map]
      show _ = ((k.cells.length : Nat) : Int)
      unfold Pk.cells
      rw [List.length_append (bs := k.sayL.flatMap block)]
    -- for shape in shapes[0]
    refine ⟨_, rfl, t1, _, _, _, rfl, rfl, SqT.of (G3.bh _ _ ht13), atI_i (j := 0) rfl rfl, sl, rfl, ⟨_, SqL.of (G3.bh _ _ hsl)⟩, for_list (K := K) (a := sl) (xs := xs1) (fun i σ H' => ∃ (x : Option V), σ = [some (.ref e), some (.ref t), some (.ref c), some (.ref r), some (.ref t1), some (.ref t2), x, none] ∧ H' = H3)
      ⟨none, rfl, rfl⟩ (fun i σ H' _ ⟨x, _, eH⟩ => by rw [eH]; exact SqL.of (G3.bh _ _ hsl)) ?_ ?_⟩
    · rintro i x σ H' hx ⟨x0, rfl, rfl⟩
      obtain ⟨d, hd, dx⟩ := hxs1.at hx
      rw [List.getElem?_map] at hd
      obtain ⟨sc, hsc, rfl⟩ := Option.map_eq_some_iff.mp hd
      unfold Pk.shapeL at hsc
      rw [List.getElem?_map] at hsc
      obtain ⟨sh, hsh, rfl⟩ := Option.map_eq_some_iff.mp hsc
      refine ⟨_, rfl, _, rfl, e, _, rfl, .inl (SqL.of he3), _, rfl, c, _, _, _, rfl, rfl, SqL.of hc3, atI_i (j := 1) rfl (map_at c1), _, rfl, c, _, _, _, rfl, rfl, SqL.of hc3, atI_i (j := 0) rfl (map_at c0), B3, x, sh, evs.length, k.sayings.length, k.rooms.length, (by rw [hes.len]; rfl), G3.bh, dx, ok.shape sh (List.mem_of_getElem? hsh), _, rfl, ?_⟩
      exact iteF ⟨_, rfl, rfl⟩
    · rintro σ H' ⟨x0, rfl, rfl⟩
      -- for said in sayings[0]
      refine ⟨_, rfl, t2, _, _, _, rfl, rfl, SqT.of (G3.bh _ _ ht2), atI_i (j := 0) rfl rfl, yl, rfl, ⟨_, SqL.of (G3.bh _ _ hyl)⟩, for_list (K := K) (a := yl) (xs := ys1) (fun i σ H2 => ∃ (x : Option V), σ = [some (.ref e), some (.ref t), some (.ref c), some (.ref r), some (.ref t1), some (.ref t2), x0, x] ∧ H2 = H')
        ⟨none, rfl, rfl⟩ (fun i σ H2 _ ⟨x, _, eH⟩ => by rw [eH]; exact SqL.of (G3.bh _ _ hyl)) ?_ ?_⟩
      · rintro i x σ H2 hx ⟨x9, rfl, rfl⟩
        obtain ⟨d, hd, dx⟩ := hys1.at hx
        rw [List.getElem?_map] at hd
        obtain ⟨sc, hsc, rfl⟩ := Option.map_eq_some_iff.mp hd
        unfold Pk.sayL at hsc
        rw [List.getElem?_map] at hsc
        obtain ⟨sy, hsy, rfl⟩ := Option.map_eq_some_iff.mp hsc
        obtain ⟨al, rfl, hal⟩ := dt_iL dx
        have hts' := hts.len
        refine ⟨_, rfl, 1, rfl, al, nats sy, -1, rfl, rfl, G3.bh _ _ hal, fun _ => ?_, fun m hm => ?_⟩
        · refine ⟨_, rfl, t, _, rfl, .inl (SqL.of htt3), _, _, rfl, rfl, _, rfl, ?_⟩
          refine ite2 (fun q => absurd (of_decide_eq_true q) (by omega)) (fun _ => ⟨_, rfl, rfl⟩)
        · refine ⟨_, rfl, t, _, rfl, .inl (SqL.of htt3), _, _, rfl, rfl, _, rfl, ?_⟩
          obtain ⟨n, hn, rfl⟩ := List.mem_map.mp hm
          have := (ok.texts sy (List.mem_of_getElem? hsy)).2 n hn
          refine ite2 (fun q => absurd (of_decide_eq_true q) (by omega)) (fun _ => ⟨_, rfl, rfl⟩)
      · rintro σ H2 ⟨x9, rfl, rfl⟩
        refine ⟨_, rfl, c, _, _, _, rfl, rfl, SqL.of hc3, atI_i (j := 3) rfl (map_at c3), _, rfl, _, rfl, t1, _, _, _, rfl, rfl, SqT.of (G3.bh _ _ ht13), atI_i (j := 0) rfl rfl, _, rfl, t2, _, _, _, rfl, rfl, SqT.of (G3.bh _ _ ht2), atI_i (j := 0) rfl rfl, (by show 4 ≤ sizeLine; decide), fun q hq => ?_⟩
        have N := Gr.new (M := M0) (o := .tup [.int ((k.saying : Nat) : Int), .ref r, .ref sl, .ref yl]) G3.bh hq
        exact kk _ _ _ (G3'.tr N) (pd_mk upd_same (Dt.mono N.bb _ _ (iL_of hr3)) (Dt.mono N.bb _ _ ds3) (Dt.mono N.bb _ _ dy1))
end
end Mill

namespace Mill
open PySem PySem.Spec PyProof.Rows L2
theorem Gr.fgt {M : Addr → Prop} {B H B1 H1 : Hp} (a : Gr M B H B1 H1) : Gr M B H B H1 := ⟨fun _ _ e => e, fun b o e => a.bh b o (a.bb b o e), a.hh, a.al, fun _ _ => rfl⟩
theorem roomCell_div (r : Nat × Bool) : roomCell r / 2 = (r.1 : Int) := by
  unfold roomCell
  split <;> omega
theorem roomCell_mod (r : Nat × Bool) : roomCell r % 2 = if r.2 then 1 else 0 := by
  unfold roomCell
  split <;> omega
theorem roomCell_odd (r : Nat × Bool) : decide (V.int (roomCell r % 2) = V.int 1) = r.2 := by
  rw [roomCell_mod]
  cases r.2 <;> rfl
section
variable {P : Program} {w : World} {K : PySem.W.Frag} {mg : Str → Option Value} {base : Heap}

/-! ### rests_there -/
def spRests : Sp := fun vs H Q _ => ∃ (B : Hp) (ve vh vy : V) (evs : List PyData) (sh : Sh) (k : Pk) (i : Nat), vs = [ve, vh, vy, .int (i : Nat)] ∧ Same B H ∧ Dt B (.list evs) ve ∧ Dt B (iL sh.cells) vh ∧ Dt B (.list (k.sayL.map iL)) vy ∧ evs.length ≤ 20 ∧
  sh.Ok evs.length k.sayings.length k.rooms.length ∧ (∀ p, p < evs.length → k.sayings[(sh.at p).1]? = some [] ∧ (sh.at p).2 = i) ∧ ∀ H', Gr M0 B H B H' → Q (.bl true) H'
theorem scRests : FnScope ["events", "shape", "sayings", "room", "place", "said", "goal"] ["events", "shape", "sayings", "room"] (defScope sRests) := ⟨rfl, rfl, rfl, by decide +kernel, rfl, by decide +kernel, by decide +kernel⟩
theorem ok_rests {f fP : Addr} {fd fdP : FuncData} (F : Fun K "rests_there" "rests_there" sRests f fd) (T : Blt mg) (AP : At K mg "pair_at" ["shape", "place"] sPairAt fP fdP) :
    FnOk P w K mg base CX0 2 f fd ["events", "shape", "sayings", "room"] spRests := by
  have GP : FnOk P w K mg base CX0 1 fP fdP ["shape", "place"] spPairAt := ok_pairAt AP.fn T
  refine F.ok scRests (fun vs H Q E h => ?_) (fun cdv A outer s H vs Q E hr h => ?_)
  · obtain ⟨B, ve, vh, vy, evs, sh, k, i, rfl, _⟩ := h
    rfl
  · obtain ⟨B, ve, vh, vy, evs, sh, k, i0, rfl, sm, dve, dvh, dvy, he20, ok, cond, kk⟩ := h
    obtain ⟨e, es, rfl, he0, hes⟩ := dve
    obtain ⟨yl, ys, rfl, hy0, hys⟩ := dvy
    have hel := hes.len
    refine ⟨_, pss_cons (ps_for PassesOwn.never rfl (pi_range1 rfl T.range (pa_cons (pe_callB call_len_seq (by rfl) T.len PySem.boot_len (pa_cons (pv 0) pa_nil)) pa_nil)) (pg_name (i := 4) scRests.nd rfl (Or.inl rfl))
        (pss_cons (ps_asg (pe_call GP hr rfl AP.mgf AP.fn.kp AP.bd .nil pass0 (pa_cons (pv 1) (pa_cons (pv 4) pa_nil))) (pg_tup rfl (pgs_cons (pg_name (i := 5) scRests.nd rfl (Or.inl rfl)) (pgs_cons (pg_name (i := 6) scRests.nd rfl (Or.inl rfl)) pgs_nil))))
        (pss_one (ps_if (PW.pt (pw_or (pt_cmpR (op_neD hr.units) (pe_ix ix_list (pv 2) (pv 5) (fun _ _ => rfl)) (pe_lst pa_nil) (nomark _)) (pw_or1 (pt_cmpR op_ne (pv 6) (pv 3) (nomark _))))) (pss_one (ps_ret pe_bl)) pss_nil))))
      (pss_one (ps_ret pe_bl)), ?_⟩
    refine ⟨_, rfl, e, _, rfl, .inl (SqL.of (sm _ _ he0)), _, rfl, by omega, by omega, for_range (lo := 0) (n := es.length) (fun i σ H' => ∃ (x y z : Option V), σ = [some (.ref e), some vh, some (.ref yl), some (.int (i0 : Nat)), x, y, z] ∧ Gr M0 B H B H')
      ⟨none, none, none, rfl, Gr.refl sm⟩ ?_ ?_⟩
    · rintro i σ H' hi ⟨x, y, z, rfl, G⟩
      obtain ⟨hs0, hg⟩ := cond i (by omega)
      refine ⟨_, rfl, _, rfl, B, vh, sh, i, evs.length, k.sayings.length, k.rooms.length, (by rw [Int.zero_add]; rfl), G.bh, dvh, ok, fun t ht => ?_⟩
      have G2 := G.nwM (o := .tup [.int ((sh.at i).1 : Nat), .int ((sh.at i).2 : Nat)]) ht
      refine ⟨t, _, rfl, SqT.of upd_same, rfl, _, _, rfl, _, _, rfl, rfl, ?_⟩
      generalize upd H' t (.tup [.int ((sh.at i).1 : Nat), .int ((sh.at i).2 : Nat)]) = H2 at G2
      have hsl : (k.sayL.map iL)[(sh.at i).1]? = some (iL (nats [])) := by
        unfold Pk.sayL
        rw [List.getElem?_map, List.getElem?_map, hs0]
        rfl
      obtain ⟨xv, hxv, dxv⟩ := hys.get hsl
      refine ⟨_, rfl, _, rfl, yl, _, _, _, rfl, rfl, SqL.of (G2.bh _ _ hy0), atI_nat hxv, Nat.zero_le _, fun q hq => ?_⟩
      have G3 := G2.nwM (o := .lst []) hq
      refine ⟨.list [], .list [], Dt.dp G3.bh _ _ dxv, .lst (SqL.of upd_same) .nil, rfl, rfl, _, rfl, ?_⟩
      refine ite2 (fun w => absurd w (by simp [PyData.eqv, PyData.eqvAll])) (fun _ => ?_)
      refine ⟨_, rfl, _, rfl, rfl, _, rfl, ?_⟩
      refine iteNS (by rw [hg]) ?_
      exact ⟨_, _, _, rfl, G3⟩
    · rintro σ H' ⟨x, y, z, rfl, G⟩
      exact kk _ G

/-! ### whole_pack -/
def spWhole : Sp := fun vs H Q _ => ∃ (B : Hp) (ve vt vc : V) (evs txs : List PyData) (k : Pk), vs = [ve, vt, vc] ∧ Same B H ∧ Dt B (.list evs) ve ∧ Dt B (.list txs) vt ∧ Dt B (iL k.cells) vc ∧ k.Ok evs.length txs.length ∧ ∀ H', Gr M0 B H B H' → Q (.bl true) H'
theorem scWhole : FnScope ["events", "texts", "cells", "parts", "saying", "rooms", "shapes", "sayings", "number", "room"] ["events", "texts", "cells"] (defScope sWhole) := ⟨rfl, rfl, rfl, by decide +kernel, rfl, by decide +kernel, by decide +kernel⟩
theorem ok_whole {f fQ fR fB fF fP : Addr} {fd fdQ fdR fdB fdF fdP : FuncData} (F : Fun K "whole_pack" "whole_pack" sWhole f fd) (T : Blt mg) (AQ : At K mg "parts_of" ["events", "texts", "cells"] sParts fQ fdQ) (AR : At K mg "rests_there" ["events", "shape", "sayings", "room"] sRests fR fdR)
    (AB : At K mg "blocks_from" ["cells", "at", "many"] sBlocks fB fdB) (AF : At K mg "shape_fits" ["shape", "events", "sayings", "rooms"] sFits fF fdF) (AP : At K mg "pair_at" ["shape", "place"] sPairAt fP fdP) :
    FnOk P w K mg base CX0 3 f fd ["events", "texts", "cells"] spWhole := by
  have GQ : FnOk P w K mg base CX0 2 fQ fdQ ["events", "texts", "cells"] spParts := ok_parts AQ.fn T AB AF
  have GR : FnOk P w K mg base CX0 2 fR fdR ["events", "shape", "sayings", "room"] spRests := ok_rests AR.fn T AP
  refine F.ok scWhole (fun vs H Q E h => ?_) (fun cdv A outer s H vs Q E hr h => ?_)
  · obtain ⟨B, ve, vt, vc, evs, txs, k, rfl, _⟩ := h
    rfl
  · obtain ⟨B, ve, vt, vc, evs, txs, k, rfl, sm, dve, dvt, dvc, ok, kk⟩ := h
    refine ⟨_, pss_cons (ps_set (i := 3) scWhole.nd rfl (Or.inl rfl) (pe_call GQ hr rfl AQ.mgf AQ.fn.kp AQ.bd .nil pass0 (pa_cons (pv 0) (pa_cons (pv 1) (pa_cons (pv 2) pa_nil)))))
      (pss_cons (ps_if (pt_cmpR op_isN (pv 3) pe_non (nomark _)) (pss_one (ps_ret pe_bl)) pss_nil)
      (pss_cons (ps_asg (pv 3) (pg_tup rfl (pgs_cons (pg_name (i := 4) scWhole.nd rfl (Or.inl rfl)) (pgs_cons (pg_name (i := 5) scWhole.nd rfl (Or.inl rfl)) (pgs_cons (pg_name (i := 6) scWhole.nd rfl (Or.inl rfl)) (pgs_cons (pg_name (i := 7) scWhole.nd rfl (Or.inl rfl)) pgs_nil))))))
      (pss_cons (ps_for PassesOwn.never rfl (pi_enum (by rfl) T.enum (pa_cons (pv 5) pa_nil)) (pg_tup rfl (pgs_cons (pg_name (i := 8) scWhole.nd rfl (Or.inl rfl)) (pgs_cons (pg_name (i := 9) scWhole.nd rfl (Or.inl rfl)) pgs_nil)))
        (pss_cons (ps_if (pt_cmpR op_ge (pe_op op_fdiv (pv 9) pe_int) (pe_callB call_len_seq (by rfl) T.len PySem.boot_len (pa_cons (pv 6) pa_nil)) (nomark _)) (pss_one (ps_ret pe_bl)) pss_nil)
        (pss_one (ps_if (PW.pt (pw_and (pt_cmpR op_eq (pe_op op_mod (pv 9) pe_int) pe_int (nomark _)) (pw_and1 (pt_not (pt_val (pe_call GR hr rfl AR.mgf AR.fn.kp AR.bd .nil pass0 (pa_cons (pv 0) (pa_cons (pe_ix ix_list (pv 6) (pe_op op_fdiv (pv 9) pe_int) (fun _ _ => rfl)) (pa_cons (pv 7) (pa_cons (pv 8) pa_nil)))))))))) (pss_one (ps_ret pe_bl)) pss_nil))))
      (pss_one (ps_ret pe_bl))))), ?_⟩
    refine ⟨_, rfl, _, rfl, _, rfl, B, ve, vt, vc, evs, txs, k, rfl, sm, dve, dvt, dvc, ok, fun v1 B1 H1 G1 D1 => ?_⟩
    obtain ⟨t, vr, vs, vy, pd⟩ := pd_of D1
    obtain ⟨rfl, htup, dr, ds, dy⟩ := pd
    refine ⟨_, rfl, rfl, _, rfl, ?_⟩
    refine ite2 (fun q => absurd (of_decide_eq_true q) (by intro z; cases z)) (fun _ => ?_)
    refine ⟨_, rfl, t, _, rfl, SqT.of (G1.bh _ _ htup), rfl, _, _, rfl, _, _, rfl, _, _, rfl, _, _, rfl, rfl, ?_⟩
    obtain ⟨rl, rfl, hrl⟩ := dt_iL dr
    obtain ⟨sl, ss, rfl, hsl, hss⟩ := id ds
    have hssl : (k.shapeL.map iL).length = ss.length := hss.len
    have hsn : ss.length = k.shapes.length := by rw [← hssl, List.length_map]; unfold Pk.shapeL; rw [List.length_map]
    refine ⟨_, rfl, rl, _, rfl, SqL.of (G1.bh _ _ hrl), for_it (walk_enum (K := K) (a := rl) (xs := (k.rooms.map roomCell).map V.int)) (fun i σ H' => ∃ (x y : Option V), σ = [some ve, some vt, some vc, some (.ref t), some (.int (k.saying : Nat)), some (.ref rl), some (.ref sl), some vy, x, y] ∧ Gr M0 B1 H1 B1 H')
      ⟨none, none, rfl, Gr.refl G1.bh⟩ (fun i σ H' _ ⟨x, y, _, G⟩ => SqL.of (G.bh _ _ hrl)) ?_ ?_⟩
    · rintro i v σ H' H'' hi ⟨x, y, rfl, G⟩ ⟨T', a1, a2, rfl, hT, rfl, e1, e2⟩
      cases e1
      have e2 : ((k.rooms.map roomCell).map V.int)[i]? = some a2 := e2
      rw [List.getElem?_map, List.getElem?_map] at e2
      obtain ⟨c2, hc2, rfl⟩ := Option.map_eq_some_iff.mp e2
      obtain ⟨r, hr2, rfl⟩ := Option.map_eq_some_iff.mp hc2
      have G2 := G.nwM (o := .tup [.int (i : Nat), .int (roomCell r)]) hT
      refine ⟨T', _, rfl, SqT.of upd_same, rfl, _, _, rfl, _, _, rfl, rfl, ?_⟩
      generalize upd H' T' (.tup [.int (i : Nat), .int (roomCell r)]) = H2 at G2
      have hrs := ok.room r (List.mem_of_getElem? hr2)
      refine ⟨_, rfl, _, _, rfl, rfl, ⟨by decide, by decide⟩, _, rfl, sl, _, rfl, .inl (SqL.of (G2.bh _ _ hsl)), _, _, rfl, rfl, _, rfl, ?_⟩
      refine ite2 (fun q => absurd (of_decide_eq_true q) (by rw [roomCell_div, hsn]; omega)) (fun _ => ?_)
      refine ⟨_, rfl, _, _, rfl, rfl, (by show (0 : Int) < 2; decide), rfl, _, rfl, ?_⟩
      have ht := roomCell_odd r
      refine ite2 (fun q => ?_) (fun q => ?_)
      · have ro : r.2 = true := by rw [← ht]; exact q
        have hsh : k.shapes[r.1]? = some k.shapes[r.1] := List.getElem?_eq_getElem hrs
        generalize k.shapes[r.1] = sh at hsh
        have hsl2 : (k.shapeL.map iL)[r.1]? = some (iL sh.cells) := by
          unfold Pk.shapeL
          rw [List.getElem?_map, List.getElem?_map, hsh]
          rfl
        obtain ⟨xv, hxv, dxv⟩ := hss.get hsl2
        refine ⟨_, rfl, _, rfl, _, rfl, _, _, rfl, rfl, ⟨by decide, by decide⟩, sl, _, _, _, rfl, rfl, SqL.of (G2.bh _ _ hsl), (by show atI ss (roomCell r / 2) = some xv; rw [roomCell_div]; exact atI_nat hxv), _, rfl, _, rfl,
          B1, ve, xv, vy, evs, sh, k, i, rfl, G2.bh, Dt.mono G1.bb _ _ dve, dxv, dy, ok.e2, ok.shape sh (List.mem_of_getElem? hsh), fun p hp => ok.over i r.1 (by rw [hr2, ← ro]) sh hsh p hp, fun H3 G3 => ⟨_, rfl, ?_⟩⟩
        exact iteF ⟨_, _, rfl, G2.tr G3⟩
      · exact iteF ⟨_, _, rfl, G2⟩
    · rintro σ H' ⟨x, y, rfl, G⟩
      exact kk _ (G1.tr G).fgt
end
end Mill

namespace Mill
open PySem PySem.Spec PyProof.Rows L2
/-! ### tables and packs as data -/
abbrev cellD (c : List Str × Nat) : PyData := .tuple [sL c.1, .int (c.2 : Nat)]
abbrev roomD (r : Bool × List (List Str × Nat)) : PyData := .tuple [.bool r.1, .list (r.2.map cellD)]
abbrev tableD (evs : List PyData) (t : Tb Str) : PyData := .tuple [.list evs, sL t.saying, .list (t.rooms.map roomD)]
abbrev packD (evs : List PyData) (ts : List Str) (cs : List Int) : PyData := .tuple [.list evs, sL ts, iL cs]
theorem dt_triple {B : Hp} {d1 d2 d3 : PyData} {v : V} (h : Dt B (.tuple [d1, d2, d3]) v) : ∃ t v1 v2 v3, v = .ref t ∧ B t = some (.tup [v1, v2, v3]) ∧ Dt B d1 v1 ∧ Dt B d2 v2 ∧ Dt B d3 v3 := by
  obtain ⟨t, xs, e1, e2, y1, r1, e3, h1, y2, r2, e4, h2, y3, r3, e5, h3, e6⟩ := h
  rw [e6] at e5
  rw [e5] at e4
  rw [e4] at e3
  rw [e3] at e2
  exact ⟨t, y1, y2, y3, e1, e2, h1, h2, h3⟩
theorem tup1 {B : Hp} {t : Addr} {d1 : PyData} {v1 : V} (h : B t = some (.tup [v1])) (h1 : Dt B d1 v1) : Dt B (.tuple [d1]) (.ref t) := ⟨t, _, rfl, h, _, _, rfl, h1, rfl⟩
theorem tup2 {B : Hp} {t : Addr} {d1 d2 : PyData} {v1 v2 : V} (h : B t = some (.tup [v1, v2])) (h1 : Dt B d1 v1) (h2 : Dt B d2 v2) : Dt B (.tuple [d1, d2]) (.ref t) := ⟨t, _, rfl, h, _, _, rfl, h1, _, _, rfl, h2, rfl⟩
theorem tup3 {B : Hp} {t : Addr} {d1 d2 d3 : PyData} {v1 v2 v3 : V} (h : B t = some (.tup [v1, v2, v3])) (h1 : Dt B d1 v1) (h2 : Dt B d2 v2) (h3 : Dt B d3 v3) : Dt B (.tuple [d1, d2, d3]) (.ref t) := ⟨t, _, rfl, h, _, _, rfl, h1, _, _, rfl, h2, _, _, rfl, h3, rfl⟩
theorem yesT {σ : L2.St} {H : Hp} {te : TE} {Q : VK} {R : Hp → Prop} (h : te σ H Q) : tYes σ H fun b H3 => if b = true then te σ H3 Q else R H3 := iteT (B := R H) h
theorem toCons {ta : TE} {tr : TA} {σ : L2.St} {H : Hp} {Q : List V → Hp → Prop} (h : ta σ H fun x H1 => tr σ H1 fun xs H2 => Q (x :: xs) H2) : tCons ta tr σ H Q := h
theorem toTup {t : TA} {σ : L2.St} {H : Hp} {Q : VK} (h : t σ H fun xs H1 => xs.length ≤ sizeLine ∧ ∀ p, H1 p = none → Q (.ref p) (upd H1 p (.tup xs))) : tTup t σ H Q := h
theorem Same.new {B : Hp} {p : Addr} {o : HO} (h : B p = none) : Same B (upd B p o) := fun b u e => by rw [upd_ne (ne_of_none e h)]; exact e
/-- a comprehension over a list that stands, which makes data -/
theorem lc_dt {K : PySem.W.Frag} {ti : TE} {g : TG} {te : TE} {vs : List Nat} {σ : L2.St} {H B : Hp} {Q : VK} {al : Addr} {xs : List V} {ds : List PyData} {M : Addr → Prop} (hi : ∀ R : VK, R (.ref al) H → ti σ H R) (hal : B al = some (.lst xs)) (sm : Same B H)
    (hM : ∀ b, M b → B b = none ∧ H b ≠ none) (hlen : ds.length = xs.length) (hl : xs.length ≤ 1000)
    (step : ∀ (i : Nat) (x : V) (d : PyData) (B1 H1 : Hp), xs[i]? = some x → ds[i]? = some d → Gr M B H B1 H1 → ∀ R : VK, (∀ v B2 H2, Gr M B1 H1 B2 H2 → Dt B2 d v → R v H2) → g x (wipe σ vs) H1 fun σ2 H2 => wipe σ2 vs = wipe σ vs ∧ te σ2 H2 R)
    (k : ∀ D B' H', Gr M B H B' H' → Dt B' (.list ds) (.ref D) → Q (.ref D) H') : tLc (iList K ti) g tYes te vs σ H Q := by
  refine hi _ ⟨al, rfl, ⟨_, SqL.of (sm _ _ hal)⟩, fun D hD => lc_list (K := K) (a := al) (xs := xs) (fun n H' => ∃ (B1 : Hp) (acc : List V), Gr M B H B1 H' ∧ B1 D = none ∧ H' D = some (.lst acc) ∧ DtAll B1 (ds.take n) acc) ⟨B, [], (Gr.refl sm).nwM hD, sm.free hD, upd_same, rfl⟩ (fun n H' _ ⟨B1, acc, G, _, _, _⟩ => SqL.of (G.bh _ _ (G.bb _ _ hal))) (fun n x H' hx ⟨B1, acc, G, hB, hDl, dd⟩ => ?_) (fun H' ⟨B1, acc, G, hB, hDl, dd⟩ => ?_)⟩
  · have hn : n < ds.length := by rw [hlen]; exact (List.getElem?_eq_some_iff.mp hx).1
    have hd : ds[n]? = some ds[n] := List.getElem?_eq_getElem hn
    generalize ds[n] = d at hd
    have nM : ¬ M D := fun z => (hM D z).2 hD
    have hacc : acc.length = n := by
      have := dd.len
      rw [List.length_take] at this
      omega
    have key := step n x d B1 H' hx hd G (fun y H4 => ∃ acc, H4 D = some (.lst acc) ∧ acc.length < sizeLine ∧ ∃ (B1 : Hp) (acc1 : List V), Gr M B H B1 (upd H4 D (.lst (acc ++ [y]))) ∧ B1 D = none ∧ (upd H4 D (.lst (acc ++ [y]))) D = some (.lst acc1) ∧ DtAll B1 (ds.take (n + 1)) acc1) (fun v B2 H2 G2 d2 => by
      have hD2 : H2 D = some (.lst acc) := G2.hh _ _ nM hDl
      have hB2 : B2 D = none := G2.bnone hB (nn hDl)
      refine ⟨acc, hD2, Nat.lt_of_le_of_lt (by omega : acc.length ≤ 1000) (by decide), B2, acc ++ [v], (G.tr G2).wr hB2 (.inr hD), hB2, upd_same, ?_⟩
      have e : ds.take (n + 1) = ds.take n ++ [d] := by rw [List.take_add_one, hd]; rfl
      rw [e]
      exact (DtAll.mono G2.bb _ _ dd).snoc d2)
    exact key
  · rw [← hlen, List.take_length] at dd
    exact k D _ _ (G.fz hD hB hDl) ⟨D, acc, rfl, upd_same, DtAll.mono (Same.new hB) _ _ dd⟩
/-- [texts[at] for at in a list of places] -/
theorem lc_txt {K : PySem.W.Frag} {i j : Nat} {ti : TE} {σ : L2.St} {H : Hp} {Q : VK} {al t : Addr} {ns : List Nat} {ts : List Str} (hi : ∀ R : VK, R (.ref al) H → ti σ H R) (hal : H al = some (.lst ((nats ns).map V.int))) (ht : H t = some (.lst (ts.map V.str)))
    (hσ : σ[i]? = some (some (.ref t))) (hij : i ≠ j) (hj : j < σ.length) (hn : ∀ n ∈ ns, n < ts.length) (hl : ns.length ≤ 1000) (k : ∀ D, H D = none → Q (.ref D) (upd H D (.lst ((textsOf ts ns).map V.str)))) :
    tLc (iList K ti) (gName j) tYes (tOp (rIxL K) (tVar i) (tVar j)) [j] σ H Q := by
  refine hi _ ⟨al, rfl, ⟨_, SqL.of hal⟩, fun D hD => lc_list (K := K) (a := al) (xs := (nats ns).map V.int) (fun n H' => H' = upd H D (.lst (((textsOf ts ns).take n).map V.str))) rfl (fun n H' _ e => ?_) (fun n x H' hx e => ?_) (fun H' e => ?_)⟩
  · rw [e]; exact SqL.of (by rw [upd_ne (ne_of_none hal hD)]; exact hal)
  · subst e
    rw [List.getElem?_map] at hx
    obtain ⟨z, hz, rfl⟩ := Option.map_eq_some_iff.mp hx
    unfold nats at hz
    rw [List.getElem?_map] at hz
    obtain ⟨m, hm, rfl⟩ := Option.map_eq_some_iff.mp hz
    have hm' := hn m (List.mem_of_getElem? hm)
    have hts : ts[m]? = some ts[m] := List.getElem?_eq_getElem hm'
    have hto : (textsOf ts ns)[n]? = some ts[m] := by
      unfold textsOf
      rw [List.getElem?_map, hm]
      show some (ts.getD m default) = _
      rw [List.getD_eq_getElem?_getD, hts]; rfl
    have w1 : wipe σ [j] = σ.set j none := rfl
    have w2 : (wipe σ [j]).set j (some (V.int (m : Nat))) = σ.set j (some (V.int (m : Nat))) := by rw [w1, List.set_set]
    show wipe ((wipe σ [j]).set j (some (V.int (m : Nat)))) [j] = wipe σ [j] ∧ _
    rw [w2]
    refine ⟨by show (σ.set j (some (V.int (m : Nat)))).set j none = σ.set j none; rw [List.set_set], ?_⟩
    refine yesT ?_
    have nt : t ≠ D := ne_of_none ht hD
    refine ⟨_, by rw [List.getElem?_set_ne (Ne.symm hij)]; exact hσ, _, List.getElem?_set_self hj, t, _, _, _, rfl, rfl, SqL.of (by rw [upd_ne nt]; exact ht), atI_nat (by rw [List.getElem?_map, hts]; rfl), _, upd_same, ?_, ?_⟩
    · rw [List.length_map]
      refine Nat.lt_of_le_of_lt (List.length_take_le' _ _) (Nat.lt_of_le_of_lt (?_ : _ ≤ 1000) (by decide))
      unfold textsOf
      rw [List.length_map]; exact hl
    · rw [upd_upd, map_take_succ V.str hto]
  · subst e
    have e1 : (textsOf ts ns).take ((nats ns).map V.int).length = textsOf ts ns := by
      refine List.take_of_length_le ?_
      unfold textsOf nats
      rw [List.length_map, List.length_map, List.length_map]
      exact Nat.le_refl _
    rw [e1]
    exact k D hD
section
variable {P : Program} {w : World} {K : PySem.W.Frag} {mg : Str → Option Value} {base : Heap}

/-! ### unpacked -/
def spUnp : Sp := fun vs H Q _ => ∃ (B : Hp) (v : V) (evs : List PyData) (ts : List Str) (k : Pk), vs = [v] ∧ Same B H ∧ Dt B (packD evs ts k.cells) v ∧ k.Ok evs.length ts.length ∧
  ∀ v' B' H', Gr M0 B H B' H' → Dt B' (tableD evs (k.tb ts evs.length)) v' → Q v' H'
theorem scUnp : FnScope ["told", "events", "texts", "cells", "saying", "rooms", "shapes", "sayings", "found", "room", "rows", "place", "said", "goal", "at"] ["told"] (defScope sUnp) := ⟨rfl, rfl, rfl, by decide +kernel, rfl, by decide +kernel, by decide +kernel⟩
theorem ok_unp {f fQ fB fF fP : Addr} {fd fdQ fdB fdF fdP : FuncData} (F : Fun K "unpacked" "unpacked" sUnp f fd) (T : Blt mg) (AQ : At K mg "parts_of" ["events", "texts", "cells"] sParts fQ fdQ)
    (AB : At K mg "blocks_from" ["cells", "at", "many"] sBlocks fB fdB) (AF : At K mg "shape_fits" ["shape", "events", "sayings", "rooms"] sFits fF fdF) (AP : At K mg "pair_at" ["shape", "place"] sPairAt fP fdP) :
    FnOk P w K mg base CX0 3 f fd ["told"] spUnp := by
  have GQ : FnOk P w K mg base CX0 2 fQ fdQ ["events", "texts", "cells"] spParts := ok_parts AQ.fn T AB AF
  have GP : FnOk P w K mg base CX0 1 fP fdP ["shape", "place"] spPairAt := ok_pairAt AP.fn T
  refine F.ok scUnp (fun vs H Q E h => ?_) (fun cdv A outer s H vs Q E hr h => ?_)
  · obtain ⟨B, v, evs, ts, k, rfl, _⟩ := h
    rfl
  · obtain ⟨B, v, evs, ts, k, rfl, sm, dv, ok, kk⟩ := h
    obtain ⟨tt, ve, vt, vc, rfl, htt, dve, dvt, dvc⟩ := dt_triple dv
    obtain ⟨e, es, rfl, he0, hes⟩ := id dve
    obtain ⟨t, rfl, ht0⟩ := dt_sL dvt
    have hel := hes.len
    have nd := scUnp.nd
    have hr1 : Room 1 _ := hr.mono (by decide)
    refine ⟨_, pss_cons (ps_asg (pv 0) (pg_tup rfl (pgs_cons (pg_name (i := 1) nd rfl (Or.inl rfl)) (pgs_cons (pg_name (i := 2) nd rfl (Or.inr rfl)) (pgs_cons (pg_name (i := 3) nd rfl (Or.inl rfl)) pgs_nil)))))
      (pss_cons (ps_asg (pe_call GQ hr rfl AQ.mgf AQ.fn.kp AQ.bd .nil pass0 (pa_cons (pv 1) (pa_cons (pv 2) (pa_cons (pv 3) pa_nil)))) (pg_tup rfl (pgs_cons (pg_name (i := 4) nd rfl (Or.inl rfl)) (pgs_cons (pg_name (i := 5) nd rfl (Or.inl rfl)) (pgs_cons (pg_name (i := 6) nd rfl (Or.inl rfl)) (pgs_cons (pg_name (i := 7) nd rfl (Or.inl rfl)) pgs_nil))))))
      (pss_cons (ps_set (i := 8) nd rfl (Or.inl rfl) (pe_lst pa_nil))
      (pss_cons (ps_for PassesOwn.never rfl (pi_list (pv 5)) (pg_name (i := 9) nd rfl (Or.inl rfl))
        (pss_cons (ps_set (i := 10) nd rfl (Or.inl rfl) (pe_lst pa_nil))
        (pss_cons (ps_for PassesOwn.never rfl (pi_range1 rfl T.range (pa_cons (pe_callB call_len_seq (by rfl) T.len PySem.boot_len (pa_cons (pv 1) pa_nil)) pa_nil)) (pg_name (i := 11) nd rfl (Or.inl rfl))
          (pss_cons (ps_asg (pe_call GP hr1 rfl AP.mgf AP.fn.kp AP.bd .nil pass0 (pa_cons (pe_ix ix_list (pv 6) (pe_op op_fdiv (pv 9) pe_int) (fun _ _ => rfl)) (pa_cons (pv 11) pa_nil))) (pg_tup rfl (pgs_cons (pg_name (i := 12) nd rfl (Or.inl rfl)) (pgs_cons (pg_name (i := 13) nd rfl (Or.inl rfl)) pgs_nil))))
          (pss_one (ps_expr (pe_bm PySem.F.plainAttrs_list PySem.F.slot_list_append PySem.F.type_list_append mt_append (pv 10) (pa_cons (pe_tup (pa_cons
            (pe_lc (own := [("at", 14)]) (g := gName 14) (tt := tYes) rfl nd (pi_list (pe_ix ix_list (pv 7) (pv 12) (fun _ _ => rfl))) (blkOk_by (own := [("at", 14)]) (N := ["told", "events", "texts", "cells", "saying", "rooms", "shapes", "sayings", "found", "room", "rows", "place", "said", "goal", "at"]) (sc := defScope sUnp) (by decide +kernel))
              (fun _ _ _ _ _ => pg_name (i := 14) nd rfl (Or.inl rfl)) (fun _ _ _ _ _ => pts_nil) (te := tOp (rIxL K) (tVar 2) (tVar 14)) (fun _ _ _ _ _ => pe_ix (r := rIxL K) ix_list (pv 2) (pv 14) (fun _ _ => rfl))) (pa_cons (pv 13) pa_nil))) pa_nil))))))
        (pss_one (ps_expr (pe_bm PySem.F.plainAttrs_list PySem.F.slot_list_append PySem.F.type_list_append mt_append (pv 8) (pa_cons (pe_tup (pa_cons (pe_cmpR op_eq (pe_op op_mod (pv 9) pe_int) pe_int (nomark _)) (pa_cons (pv 10) pa_nil))) pa_nil)))))))
      (pss_one (ps_ret (pe_tup (pa_cons (pe_callTy call_list_of (by rfl) T.list (by decide +kernel) (pa_cons (pv 1) pa_nil)) (pa_cons
        (pe_lc (own := [("at", 14)]) (g := gName 14) (tt := tYes) rfl nd (pi_list (pe_ix ix_list (pv 7) (pv 4) (fun _ _ => rfl))) (blkOk_by (own := [("at", 14)]) (N := ["told", "events", "texts", "cells", "saying", "rooms", "shapes", "sayings", "found", "room", "rows", "place", "said", "goal", "at"]) (sc := defScope sUnp) (by decide +kernel))
          (fun _ _ _ _ _ => pg_name (i := 14) nd rfl (Or.inl rfl)) (fun _ _ _ _ _ => pts_nil) (te := tOp (rIxL K) (tVar 2) (tVar 14)) (fun _ _ _ _ _ => pe_ix (r := rIxL K) ix_list (pv 2) (pv 14) (fun _ _ => rfl))) (pa_cons (pv 8) pa_nil))))))))), ?_⟩
    -- events, texts, cells = told
    refine ⟨_, rfl, tt, _, rfl, SqT.of (sm _ _ htt), rfl, _, _, rfl, _, _, rfl, _, _, rfl, rfl, ?_⟩
    have ok1 : k.Ok evs.length (ts.map PyData.str).length := by rw [List.length_map]; exact ok
    refine ⟨_, rfl, _, rfl, _, rfl, B, .ref e, .ref t, vc, evs, ts.map .str, k, rfl, sm, dve, dvt, dvc, ok1, fun v1 B0 H0 G0 D0 => ?_⟩
    obtain ⟨t4, vr, vs, vy, pd⟩ := pd_of D0
    obtain ⟨rfl, htup, dr, ds, dy⟩ := pd
    refine ⟨t4, _, rfl, SqT.of (G0.bh _ _ htup), rfl, _, _, rfl, _, _, rfl, _, _, rfl, _, _, rfl, rfl, ?_⟩
    obtain ⟨rl, rfl, hrl⟩ := dt_iL dr
    obtain ⟨sl, ss, rfl, hsl, hss⟩ := id ds
    obtain ⟨yl, ys, rfl, hyl, hys⟩ := id dy
    have hr20 := ok.r2
    have he20 := ok.e2
    have ht00 := G0.bb _ _ ht0
    have he00 := G0.bb _ _ he0
    refine ⟨Nat.zero_le _, fun l hl => ?_⟩
    refine ⟨_, rfl, rl, rfl, ⟨_, SqL.of ((Gr.refl (M := M0) G0.bh).nwM hl |>.bh _ _ hrl)⟩, for_list (K := K) (a := rl) (xs := (k.rooms.map roomCell).map V.int)
      (fun i σ H' => ∃ (B1 : Hp) (xs : List V) (x9 x10 x11 x12 x13 : Option V), σ = [some (.ref tt), some (.ref e), some (.ref t), some vc, some (.int (k.saying : Nat)), some (.ref rl), some (.ref sl), some (.ref yl), some (.ref l), x9, x10, x11, x12, x13, none] ∧ Gr M0 B0 H0 B1 H' ∧ B1 l = none ∧ H' l = some (.lst xs) ∧ DtAll B1 (((k.tb ts evs.length).rooms.take i).map roomD) xs)
      ⟨B0, [], none, none, none, none, none, rfl, (Gr.refl G0.bh).nwM hl, G0.bh.free hl, upd_same, rfl⟩ (fun i σ H' _ ⟨B1, xs, x9, x10, x11, x12, x13, _, G, _⟩ => SqL.of (G.bh _ _ (G.bb _ _ hrl))) ?_ ?_⟩
    · rintro i x σ H1 hx ⟨B1, xs, x9, x10, x11, x12, x13, rfl, G1, hB1, hL1, hD1⟩
      rw [List.getElem?_map, List.getElem?_map] at hx
      obtain ⟨c2, hc2, rfl⟩ := Option.map_eq_some_iff.mp hx
      obtain ⟨r, hr2, rfl⟩ := Option.map_eq_some_iff.mp hc2
      have hrs := ok.room r (List.mem_of_getElem? hr2)
      have hsh : k.shapes[r.1]? = some k.shapes[r.1] := List.getElem?_eq_getElem hrs
      have hgd : k.shapes.getD r.1 default = k.shapes[r.1] := by rw [List.getD_eq_getElem?_getD, hsh]; rfl
      generalize k.shapes[r.1] = sh at hsh hgd
      have hsl2 : (k.shapeL.map iL)[r.1]? = some (iL sh.cells) := by
        unfold Pk.shapeL
        rw [List.getElem?_map, List.getElem?_map, hsh]
        rfl
      obtain ⟨xv, hxv, dxv⟩ := hss.get hsl2
      have oksh := ok.shape sh (List.mem_of_getElem? hsh)
      have hatr : atI ss (roomCell r / 2) = some xv := by rw [roomCell_div]; exact atI_nat hxv
      have hrow : k.row ts evs.length r.1 = (List.range evs.length).map fun p => k.cell ts sh p := by unfold Pk.row; rw [hgd]
      refine ⟨Nat.zero_le _, fun m hm => ?_⟩
      have G1m := (Gr.refl (M := M0) G1.bh).nwM (o := .lst []) hm
      refine ⟨_, rfl, e, _, rfl, .inl (SqL.of (G1m.bh _ _ (G1.bb _ _ he00))), _, rfl, by omega, by omega, for_range (lo := 0) (n := es.length) (fun j σ H' => ∃ (B2 : Hp) (zs : List V) (x11 x12 x13 : Option V), σ = [some (.ref tt), some (.ref e), some (.ref t), some vc, some (.int (k.saying : Nat)), some (.ref rl), some (.ref sl), some (.ref yl), some (.ref l), some (.int (roomCell r)), some (.ref m), x11, x12, x13, none] ∧ Gr M0 B1 H1 B2 H' ∧ B2 m = none ∧ H' m = some (.lst zs) ∧ DtAll B2 (((List.range j).map fun p => k.cell ts sh p).map cellD) zs)
        ⟨B1, [], x11, x12, x13, rfl, G1m, G1.bh.free hm, upd_same, rfl⟩ ?_ ?_⟩
      · rintro j σ H2 hj ⟨B2, zs, y11, y12, y13, rfl, G2, hB2, hL2, hD2⟩
        have hlz := hD2.len
        rw [List.length_map, List.length_map, List.length_range] at hlz
        refine ⟨_, rfl, _, rfl, _, _, rfl, rfl, ⟨by decide, by decide⟩, sl, _, _, _, rfl, rfl, SqL.of (G2.bh _ _ (G2.bb _ _ (G1.bb _ _ hsl))), hatr, _, rfl, B2, xv, sh, j, evs.length, k.sayings.length, k.rooms.length, (by rw [Int.zero_add]; rfl), G2.bh, Dt.mono (G1.tr G2).bb _ _ dxv, oksh, fun u hu => ?_⟩
        have G3 := G2.nw (o := .tup [.int ((sh.at j).1 : Nat), .int ((sh.at j).2 : Nat)]) hu
        have hu3 : (upd B2 u (.tup [.int ((sh.at j).1 : Nat), .int ((sh.at j).2 : Nat)])) u = some (.tup [.int ((sh.at j).1 : Nat), .int ((sh.at j).2 : Nat)]) := upd_same
        have hB3 : (upd B2 u (.tup [.int ((sh.at j).1 : Nat), .int ((sh.at j).2 : Nat)])) m = none := by rw [upd_ne (ne_of_none hL2 hu)]; exact hB2
        have hL3 : (upd H2 u (.tup [.int ((sh.at j).1 : Nat), .int ((sh.at j).2 : Nat)])) m = some (.lst zs) := by rw [upd_ne (ne_of_none hL2 hu)]; exact hL2
        have hD3 := DtAll.mono (Gr.new (M := M0) (o := .tup [.int ((sh.at j).1 : Nat), .int ((sh.at j).2 : Nat)]) G2.bh hu).bb _ _ hD2
        generalize upd H2 u (.tup [.int ((sh.at j).1 : Nat), .int ((sh.at j).2 : Nat)]) = H3 at G3 hL3
        generalize upd B2 u (.tup [.int ((sh.at j).1 : Nat), .int ((sh.at j).2 : Nat)]) = B3 at G3 hu3 hB3 hD3
        refine ⟨u, _, rfl, SqT.of (G3.bh _ _ hu3), rfl, _, _, rfl, _, _, rfl, rfl, ?_⟩
        -- the saying's words
        have lt := sh.at_lt oksh j
        have hsay : k.sayings[(sh.at j).1]? = some k.sayings[(sh.at j).1] := List.getElem?_eq_getElem lt.1
        have hsgd : k.sayings.getD (sh.at j).1 [] = k.sayings[(sh.at j).1] := by rw [List.getD_eq_getElem?_getD, hsay]; rfl
        generalize k.sayings[(sh.at j).1] = sy at hsay hsgd
        obtain ⟨okl, okm⟩ := ok.texts sy (List.mem_of_getElem? hsay)
        have hyl2 : (k.sayL.map iL)[(sh.at j).1]? = some (iL (nats sy)) := by
          unfold Pk.sayL
          rw [List.getElem?_map, List.getElem?_map, hsay]
          rfl
        obtain ⟨yv, hyv, dyv⟩ := hys.get hyl2
        obtain ⟨al, rfl, hal⟩ := dt_iL dyv
        have G03 := G1.tr G3
        have hcell : cellD (k.cell ts sh j) = .tuple [sL (textsOf ts sy), .int ((sh.at j).2 : Nat)] := by
          unfold cellD Pk.cell Pk.sayT
          rw [hsgd]
        refine ⟨_, rfl, .inl ⟨rfl, _, SqL.of hL3⟩, ?_⟩
        refine toCons (toTup (toCons ?_))
        refine lc_txt (K := K) (i := 2) (j := 14) (ti := tOp (rIxL K) (tVar 7) (tVar 12)) (t := t) (ns := sy) (ts := ts) (al := al) ?_ ?_ ?_ ?_ (by decide) ?_ okm (by omega) (fun D hD => ?_)
        · exact fun R hR => ⟨_, rfl, _, rfl, yl, _, _, _, rfl, rfl, SqL.of (G3.bh _ _ (G03.bb _ _ hyl)), atI_nat hyv, hR⟩
        · exact G3.bh _ _ (G03.bb _ _ hal)
        · exact G3.bh _ _ (G03.bb _ _ ht00)
        · rfl
        · show 14 < 15
          decide
        have hL4 : (upd H3 D (.lst ((textsOf ts sy).map V.str))) m = some (.lst zs) := by rw [upd_ne (ne_of_none hL3 hD)]; exact hL3
        have hB4 : (upd B3 D (.lst ((textsOf ts sy).map V.str))) m = none := by rw [upd_ne (ne_of_none hL3 hD)]; exact hB3
        have N4 := Gr.new (M := M0) (o := .lst ((textsOf ts sy).map V.str)) G3.bh hD
        have dD : Dt (upd B3 D (.lst ((textsOf ts sy).map V.str))) (sL (textsOf ts sy)) (.ref D) := sL_of upd_same
        generalize upd B3 D (.lst ((textsOf ts sy).map V.str)) = B4 at N4 hB4 dD
        generalize upd H3 D (.lst ((textsOf ts sy).map V.str)) = H4 at N4 hL4
        refine ⟨_, rfl, (by show 2 ≤ sizeLine; decide), fun q hq => ?_⟩
        have hL5 : (upd H4 q (.tup [.ref D, .int ((sh.at j).2 : Nat)])) m = some (.lst zs) := by rw [upd_ne (ne_of_none hL4 hq)]; exact hL4
        have hB5 : (upd B4 q (.tup [.ref D, .int ((sh.at j).2 : Nat)])) m = none := by rw [upd_ne (ne_of_none hL4 hq)]; exact hB4
        have N5 := Gr.new (M := M0) (o := .tup [.ref D, .int ((sh.at j).2 : Nat)]) N4.bh hq
        have d5 : Dt (upd B4 q (.tup [.ref D, .int ((sh.at j).2 : Nat)])) (.tuple [sL (textsOf ts sy), .int ((sh.at j).2 : Nat)]) (.ref q) := tup2 upd_same (Dt.mono N5.bb _ _ dD) rfl
        refine ⟨m, zs, .ref q, rfl, rfl, hL5, Nat.lt_of_le_of_lt (by omega : zs.length ≤ 1000) (by decide), ?_⟩
        generalize upd B4 q (.tup [.ref D, .int ((sh.at j).2 : Nat)]) = B5 at N5 hB5 d5
        generalize upd H4 q (.tup [.ref D, .int ((sh.at j).2 : Nat)]) = H5 at N5 hL5
        refine ⟨B5, zs ++ [.ref q], _, _, _, rfl, ((G3.tr N4).tr N5).wr hB5 (.inr hm), hB5, upd_same, ?_⟩
        rw [List.range_succ, List.map_append, List.map_append]
        refine (DtAll.mono (N4.tr N5).bb _ _ hD3).snoc ?_
        rw [hcell]
        exact d5
      · rintro σ H2 ⟨B2, zs, y11, y12, y13, rfl, G2, hB2, hL2, hD2⟩
        rw [← hel, ← hrow] at hD2
        have hlx := hD1.len
        rw [List.length_map, List.length_take] at hlx
        have hi9 := (List.getElem?_eq_some_iff.mp hr2).1
        have F2 := G2.fz hm hB2 hL2
        have hm2 : (upd B2 m (.lst zs)) m = some (.lst zs) := upd_same
        have hD2' := DtAll.mono (Same.new (o := .lst zs) hB2) _ _ hD2
        generalize upd B2 m (.lst zs) = B3 at F2 hm2 hD2'
        have hL3 : H2 l = some (.lst xs) := F2.hh _ _ (fun z => z) hL1
        have hB3 : B3 l = none := F2.bnone hB1 (nn hL1)
        refine ⟨_, rfl, .inl ⟨rfl, _, SqL.of hL3⟩, _, rfl, _, _, rfl, rfl, (by show (0 : Int) < 2; decide), rfl, _, rfl, (by show 2 ≤ sizeLine; decide), fun q hq => ?_⟩
        rw [roomCell_odd r]
        have N4 := Gr.new (M := M0) (o := .tup [.bl r.2, .ref m]) F2.bh hq
        have hL4 : (upd H2 q (.tup [.bl r.2, .ref m])) l = some (.lst xs) := by rw [upd_ne (ne_of_none hL3 hq)]; exact hL3
        have hB4 : (upd B3 q (.tup [.bl r.2, .ref m])) l = none := by rw [upd_ne (ne_of_none hL3 hq)]; exact hB3
        have d4 : Dt (upd B3 q (.tup [.bl r.2, .ref m])) (roomD (r.2, k.row ts evs.length r.1)) (.ref q) := tup2 upd_same rfl ⟨m, zs, rfl, N4.bb _ _ hm2, DtAll.mono N4.bb _ _ hD2'⟩
        refine ⟨l, xs, .ref q, rfl, rfl, hL4, Nat.lt_of_le_of_lt (by omega : xs.length ≤ 2000) (by decide), ?_⟩
        generalize upd B3 q (.tup [.bl r.2, .ref m]) = B4 at N4 hB4 d4
        generalize upd H2 q (.tup [.bl r.2, .ref m]) = H4 at N4 hL4
        refine ⟨B4, xs ++ [.ref q], _, _, _, _, _, rfl, (G1.tr (F2.tr N4)).wr hB4 (.inr hl), hB4, upd_same, ?_⟩
        have hri : (k.tb ts evs.length).rooms[i]? = some (r.2, k.row ts evs.length r.1) := by
          unfold Pk.tb
          rw [List.getElem?_map, hr2]
          rfl
        rw [map_take_succ roomD hri]
        exact (DtAll.mono (F2.tr N4).bb _ _ hD1).snoc d4
    · rintro σ H1 ⟨B1, xs, x9, x10, x11, x12, x13, rfl, G1, hB1, hL1, hD1⟩
      have e1 : (k.rooms.map roomCell).length = (k.tb ts evs.length).rooms.length := by unfold Pk.tb; rw [List.length_map, List.length_map]
      rw [List.length_map, e1, List.take_length] at hD1
      have F1 := G1.fz hl hB1 hL1
      have hl2 : (upd B1 l (.lst xs)) l = some (.lst xs) := upd_same
      have hD2 := DtAll.mono (Same.new (o := .lst xs) hB1) _ _ hD1
      generalize upd B1 l (.lst xs) = B2 at F1 hl2 hD2
      refine ⟨_, rfl, e, _, rfl, .inl (SqL.of (F1.bh _ _ (F1.bb _ _ he00))), fun l1 hl1 => ?_⟩
      have N3 := Gr.new (M := M0) (o := .lst es) F1.bh hl1
      have hl3 : (upd B2 l1 (.lst es)) l1 = some (.lst es) := upd_same
      have hes0 := DtAll.mono (G0.bb) _ _ hes
      have hes3 := DtAll.mono (F1.tr N3).bb _ _ hes0
      generalize upd B2 l1 (.lst es) = B3 at N3 hl3 hes3
      generalize upd H1 l1 (.lst es) = H3 at N3
      have F3 := F1.tr N3
      have hs1 := ok.s1
      have hsay : k.sayings[k.saying]? = some k.sayings[k.saying] := List.getElem?_eq_getElem ok.s1
      have hsgd : k.sayings.getD k.saying [] = k.sayings[k.saying] := by rw [List.getD_eq_getElem?_getD, hsay]; rfl
      generalize k.sayings[k.saying] = sy at hsay hsgd
      obtain ⟨okl, okm⟩ := ok.texts sy (List.mem_of_getElem? hsay)
      have hyl2 : (k.sayL.map iL)[k.saying]? = some (iL (nats sy)) := by
        unfold Pk.sayL
        rw [List.getElem?_map, List.getElem?_map, hsay]
        rfl
      obtain ⟨yv, hyv, dyv⟩ := hys.get hyl2
      obtain ⟨al, rfl, hal⟩ := dt_iL dyv
      refine toCons ?_
      refine lc_txt (K := K) (i := 2) (j := 14) (ti := tOp (rIxL K) (tVar 7) (tVar 4)) (t := t) (ns := sy) (ts := ts) (al := al) ?_ ?_ ?_ ?_ (by decide) ?_ okm (by omega) (fun D hD => ?_)
      · exact fun R hR => ⟨_, rfl, _, rfl, yl, _, _, _, rfl, rfl, SqL.of (F3.bh _ _ (F3.bb _ _ hyl)), atI_nat hyv, hR⟩
      · exact F3.bh _ _ (F3.bb _ _ hal)
      · exact F3.bh _ _ (F3.bb _ _ ht00)
      · rfl
      · show 14 < 15
        decide
      have N4 := Gr.new (M := M0) (o := .lst ((textsOf ts sy).map V.str)) F3.bh hD
      have d4 : Dt (upd B3 D (.lst ((textsOf ts sy).map V.str))) (sL (textsOf ts sy)) (.ref D) := sL_of upd_same
      generalize upd B3 D (.lst ((textsOf ts sy).map V.str)) = B4 at N4 d4
      generalize upd H3 D (.lst ((textsOf ts sy).map V.str)) = H4 at N4
      refine ⟨_, rfl, (by show 3 ≤ sizeLine; decide), fun q hq => ?_⟩
      have N5 := Gr.new (M := M0) (o := .tup [.ref l1, .ref D, .ref l]) N4.bh hq
      have eS : (k.tb ts evs.length).saying = textsOf ts sy := by unfold Pk.tb Pk.sayT; rw [hsgd]
      refine kk _ _ _ (((G0.tr F3).tr N4).tr N5) ?_
      unfold tableD
      rw [eS]
      exact tup3 upd_same ⟨l1, es, rfl, N5.bb _ _ (N4.bb _ _ hl3), DtAll.mono (N4.tr N5).bb _ _ hes3⟩ (Dt.mono N5.bb _ _ d4) ⟨l, xs, rfl, N5.bb _ _ (N4.bb _ _ (N3.bb _ _ hl2)), DtAll.mono ((N3.tr N4).tr N5).bb _ _ hD2⟩
end
end Mill

namespace Mill
open PySem PySem.Spec PyProof.Rows L2
/-! ### a numbering -/
structure NumD (B : Hp) (us : List NestedKey) (ys : List (NestedKey × Addr × V)) : Prop where
  keys : ys.map (·.1) = us
  std : NdK B ys
  num : ∀ (i : Nat) p, ys[i]? = some p → p.2.2 = .int (i : Nat)
theorem valN_none {ys : List (NestedKey × Addr × V)} {k : NestedKey} (h : k ∉ ys.map (·.1)) : valN ys k = none := by
  unfold valN
  rw [Option.map_eq_none_iff, List.find?_eq_none]
  intro x hx e
  exact h (List.mem_map.mpr ⟨x, hx, of_decide_eq_true e⟩)
theorem valN_some {ys : List (NestedKey × Addr × V)} {k : NestedKey} (h : k ∈ ys.map (·.1)) : ∃ (i : Nat) (p : NestedKey × Addr × V), ys[i]? = some p ∧ p.1 = k ∧ valN ys k = some p.2.2 := by
  unfold valN
  cases e : ys.find? fun x => decide (x.1 = k) with
  | none =>
    obtain ⟨x, hx, ex⟩ := List.mem_map.mp h
    rw [List.find?_eq_none] at e
    exact absurd (decide_eq_true ex) (e x hx)
  | some p =>
    have m := List.mem_of_find?_eq_some e
    obtain ⟨i, hi, ei⟩ := List.getElem_of_mem m
    exact ⟨i, p, by rw [List.getElem?_eq_getElem hi, ei], by have q := List.find?_some e; exact of_decide_eq_true q, rfl⟩
theorem NumD.none {B : Hp} {us : List NestedKey} {ys : List (NestedKey × Addr × V)} {k : NestedKey} (n : NumD B us ys) (h : k ∉ us) : valN ys k = none := valN_none (by rw [n.keys]; exact h)
theorem NumD.get {B : Hp} {us : List NestedKey} {ys : List (NestedKey × Addr × V)} {k : NestedKey} (n : NumD B us ys) (nd : us.Nodup) (h : k ∈ us) : valN ys k = some (.int (ix us k : Nat)) := by
  obtain ⟨i, p, hp, ek, ev⟩ := valN_some (ys := ys) (k := k) (by rw [n.keys]; exact h)
  rw [ev, n.num i p hp]
  have e : us[i]? = some k := by rw [← n.keys, List.getElem?_map, hp]; exact congrArg some ek
  rw [idx_of_get nd e]
theorem NumD.mono {B B' : Hp} {us : List NestedKey} {ys : List (NestedKey × Addr × V)} (n : NumD B us ys) (s : Same B B') : NumD B' us ys := ⟨n.keys, n.std.mono s, n.num⟩
theorem NumD.put {B : Hp} {us : List NestedKey} {ys : List (NestedKey × Addr × V)} {k : NestedKey} {a : Addr} (n : NumD B us ys) (h : k ∉ us) (hk : Dt B k.data (.ref a)) (hd : k.depth ≤ 8) : NumD B (us ++ [k]) (putN ys k a (.int (ys.length : Nat))) := by
  have e := putN_new (a := a) (v := V.int (ys.length : Nat)) (n.none h)
  refine ⟨by rw [e, List.map_append, n.keys]; rfl, n.std.put (H' := B) hk hd, fun i p hp => ?_⟩
  rw [e] at hp
  by_cases hi : i < ys.length
  · rw [List.getElem?_append_left hi] at hp
    exact n.num i p hp
  · rw [List.getElem?_append_right (by omega)] at hp
    obtain ⟨hlt, ep⟩ := List.getElem?_eq_some_iff.mp hp
    have e0 : i = ys.length := by simp at hlt; omega
    subst e0
    simp at ep
    rw [← ep]
section
variable {P : Program} {w : World} {K : PySem.W.Frag} {mg : Str → Option Value} {base : Heap}

/-! ### numbered -/
def spNum (P : Program) (w : World) : Sp := fun vs H Q _ => ∃ (B : Hp) (a : Addr) (xs : List V) (ks : List NestedKey), vs = [.ref a] ∧ Same B H ∧ B a = some (.lst xs) ∧ DtAll B (ks.map NestedKey.data) xs ∧ (∀ k ∈ ks, k.depth ≤ 8 ∧ ∃ l, k = .tup l) ∧ ks.length ≤ 1000 ∧
  ∀ d od ys B' H', Gr M0 B H B' H' → B' d = some (ndO P w od d ys) → NumD B' (uq [] ks) ys → Q (.ref d) H'
theorem scNum : FnScope ["things", "found", "one"] ["things"] (defScope sNumbered) := ⟨rfl, rfl, rfl, by decide +kernel, rfl, by decide +kernel, by decide +kernel⟩
theorem ok_num {f : Addr} {fd : FuncData} (F : Fun K "numbered" "numbered" sNumbered f fd) (T : Blt mg) : FnOk P w K mg base CX0 1 f fd ["things"] (spNum P w) := by
  refine F.ok scNum (fun vs H Q E h => ?_) (fun cdv A outer s H vs Q E hr h => ?_)
  · obtain ⟨B, a, xs, ks, rfl, _⟩ := h
    rfl
  · obtain ⟨B, a, xs, ks, rfl, sm, ha, dd, hk, hl, kk⟩ := h
    refine ⟨_, pss_cons (ps_set (i := 1) scNum.nd rfl (Or.inl rfl) pe_ndNew)
      (pss_cons (ps_for PassesOwn.never rfl (pi_list (pv 0)) (pg_name (i := 2) scNum.nd rfl (Or.inl rfl))
        (pss_one (ps_if (pt_cmp (pc_ndNotIn hr.units (pv 2) (pv 1))) (pss_one (ps_ndPut hr.units (pv 1) (pv 2) (pe_callB call_lenN (by rfl) T.len PySem.boot_len (pa_cons (pv 1) pa_nil)) (by rfl))) pss_nil)))
      (pss_one (ps_ret (pv 1)))), ?_⟩
    refine fun d od0 hd => ?_
    have hlen := dd.len
    rw [List.length_map] at hlen
    refine ⟨_, rfl, a, rfl, ⟨_, SqL.of (((Gr.refl (M := M0) sm).nwM hd).bh _ _ ha)⟩, for_list (K := K) (a := a) (xs := xs) (fun i σ H' => ∃ (od : Obj) (ys : List (NestedKey × Addr × V)) (x2 : Option V), σ = [some (.ref a), some (.ref d), x2] ∧ Gr M0 B H B H' ∧ H' d = some (ndO P w od d ys) ∧ NumD B (uq [] (ks.take i)) ys)
      ⟨od0, [], none, rfl, (Gr.refl sm).nwM hd, upd_same, ⟨rfl, (fun x hx => by cases hx), (fun i p hp => by cases hp)⟩⟩ (fun i σ H' _ ⟨od, ys, x2, _, G, _⟩ => SqL.of (G.bh _ _ ha)) ?_ ?_⟩
    · rintro i x σ H1 hx ⟨od, ys, x2, rfl, G, hD, hN⟩
      obtain ⟨dk, hdk, dx⟩ := dd.at hx
      rw [List.getElem?_map] at hdk
      obtain ⟨k, hki, rfl⟩ := Option.map_eq_some_iff.mp hdk
      obtain ⟨dep, kl, rfl⟩ := hk k (List.mem_of_getElem? hki)
      obtain ⟨ka, kxs, rfl, hka, hkx⟩ := id dx
      have e1 : ks.take (i + 1) = ks.take i ++ [.tup kl] := by rw [List.take_add_one, hki]; rfl
      have eu := uq_snoc (ks.take i) [] (NestedKey.tup kl)
      rw [← e1] at eu
      have ask : NdAsk P w H1 (.ref d) (.ref ka) d ka od ys (.tup kl) := ⟨rfl, rfl, hD, hN.std.mono G.bh, Dt.mono G.bh _ _ dx, dep⟩
      refine ⟨_, rfl, _, rfl, d, ka, od, ys, .tup kl, ask, _, rfl, ?_⟩
      by_cases hm : NestedKey.tup kl ∈ uq [] (ks.take i)
      · rw [if_pos hm] at eu
        have hs : (!(valN ys (.tup kl)).isSome) = false := by
          obtain ⟨i', p', _, _, ev⟩ := valN_some (ys := ys) (k := .tup kl) (by rw [hN.keys]; exact hm)
          rw [ev]; rfl
        rw [hs]
        refine iteF ⟨od, ys, _, rfl, G, hD, ?_⟩
        rw [eu]; exact hN
      · rw [if_neg hm] at eu
        have hs : (!(valN ys (.tup kl)).isSome) = true := by rw [hN.none hm]; rfl
        rw [hs]
        have hyl : ys.length ≤ 1000 := by
          have q := uq_len (ks.take i) []
          have q2 := congrArg List.length hN.keys
          rw [List.length_map] at q2
          rw [q2]
          simp at q
          omega
        refine iteT ⟨_, rfl, d, od, ys, rfl, hD, _, rfl, _, rfl, d, ka, od, ys, .tup kl, ask, Nat.lt_of_le_of_lt hyl (by decide), fun od' => ?_⟩
        refine ⟨od', _, _, rfl, G.wr (sm.free hd) (.inr hd), upd_same, ?_⟩
        rw [eu]
        exact hN.put hm dx dep
    · rintro σ H1 ⟨od, ys, x2, rfl, G, hD, hN⟩
      have e1 : ks.take xs.length = ks := List.take_of_length_le (by omega)
      rw [e1] at hN
      exact ⟨_, rfl, kk d od ys _ _ (G.fz hd (sm.free hd) hD) upd_same (hN.mono (Same.new (sm.free hd)))⟩
end
end Mill

namespace Mill
open PySem PySem.Spec PyProof.Rows L2
/-! ### keys -/
def kS (s : List Str) : NestedKey := .tup (s.map .text)
def kR (r : List (List Str × Nat)) : NestedKey := .tup (r.map fun c => .tup [kS c.1, .num (c.2 : Nat)])
def kP (p : Nat × Nat) : NestedKey := .tup [.num (p.1 : Nat), .num (p.2 : Nat)]
theorem datas_map : ∀ ks : List NestedKey, NestedKey.datas ks = ks.map NestedKey.data
  | [] => rfl
  | k :: ks => by rw [NestedKey.datas, datas_map ks, List.map_cons]
theorem kS_data (s : List Str) : (kS s).data = .tuple (s.map .str) := by
  unfold kS
  rw [NestedKey.data, datas_map, List.map_map]
  rfl
theorem kR_data (r : List (List Str × Nat)) : (kR r).data = .tuple (r.map fun c => .tuple [(kS c.1).data, .int (c.2 : Nat)]) := by
  unfold kR
  rw [NestedKey.data, datas_map, List.map_map]
  rfl
theorem depthAll_le (n : Nat) : ∀ ks : List NestedKey, (∀ k ∈ ks, k.depth ≤ n) → NestedKey.depthAll ks ≤ n
  | [], _ => Nat.zero_le _
  | k :: ks, h => by
    rw [NestedKey.depthAll]
    exact Nat.max_le.mpr ⟨h k (List.mem_cons_self ..), depthAll_le n ks fun x hx => h x (List.mem_cons_of_mem _ hx)⟩
theorem kS_depth (s : List Str) : (kS s).depth ≤ 1 := by
  unfold kS
  rw [NestedKey.depth]
  have := depthAll_le 0 (s.map .text) fun k hk => by obtain ⟨x, _, rfl⟩ := List.mem_map.mp hk; exact Nat.le_refl _
  omega
theorem kR_depth (r : List (List Str × Nat)) : (kR r).depth ≤ 3 := by
  unfold kR
  rw [NestedKey.depth]
  have := depthAll_le 2 (r.map fun c => NestedKey.tup [kS c.1, .num (c.2 : Nat)]) fun k hk => by
    obtain ⟨x, _, rfl⟩ := List.mem_map.mp hk
    rw [NestedKey.depth]
    have q := depthAll_le 1 [kS x.1, .num (x.2 : Nat)] fun k hk => by
      rcases List.mem_cons.mp hk with rfl | hk
      · exact kS_depth _
      · rw [List.mem_singleton.mp hk]; exact Nat.zero_le _
    omega
  omega
theorem kP_depth (p : Nat × Nat) : (kP p).depth ≤ 1 := Nat.le_refl _
theorem text_inj : ∀ a b : List Str, a.map NestedKey.text = b.map NestedKey.text → a = b
  | [], [], _ => rfl
  | x :: a, y :: b, h => by
    rw [List.map_cons, List.map_cons] at h
    injection h with h1 h2
    injection h1 with h1
    rw [h1, text_inj a b h2]
  | [], _ :: _, h => by cases h
  | _ :: _, [], h => by cases h
theorem kS_inj (a b : List Str) (h : kS a = kS b) : a = b := by
  unfold kS at h
  injection h with h
  exact text_inj a b h
theorem nat_inj {a b : Nat} (h : NestedKey.num (a : Nat) = NestedKey.num (b : Nat)) : a = b := by
  injection h with h
  omega
theorem kR_inj (a b : List (List Str × Nat)) (h : kR a = kR b) : a = b := by
  unfold kR at h
  injection h with h
  induction a generalizing b with
  | nil => cases b with
    | nil => rfl
    | cons y b => cases h
  | cons x a ih => cases b with
    | nil => cases h
    | cons y b =>
      rw [List.map_cons, List.map_cons] at h
      injection h with h1 h2
      injection h1 with h1
      injection h1 with h1 h3
      injection h3 with h3 _
      rw [ih b h2]
      have e1 := kS_inj _ _ h1
      have e2 := nat_inj h3
      obtain ⟨x1, x2⟩ := x
      obtain ⟨y1, y2⟩ := y
      subst e1 e2
      rfl
theorem kP_inj (a b : Nat × Nat) (h : kP a = kP b) : a = b := by
  unfold kP at h
  injection h with h
  injection h with h1 h
  injection h with h2 _
  exact Prod.ext (nat_inj h1) (nat_inj h2)
abbrev rTupOf (K : PySem.W.Frag) : List V → Hp → VK → Prop := fun xs H Q => ∃ p ys, xs = [.ref p] ∧ ((SqL K H p ys ∧ ∀ l, H l = none → Q (.ref l) (upd H l (.tup ys))) ∨ (SqT K H p ys ∧ Q (.ref p) H))
abbrev rListOf (K : PySem.W.Frag) : List V → Hp → VK → Prop := fun xs H Q => ∃ p ys, xs = [.ref p] ∧ (SqL K H p ys ∨ SqT K H p ys) ∧ ∀ l, H l = none → Q (.ref l) (upd H l (.lst ys))
/-- a comprehension over a list that stands, which makes data -/
theorem lc_dt0 {K : PySem.W.Frag} {g : TG} {te : TE} {vs : List Nat} {σ : L2.St} {H B : Hp} {Qd : Addr → Hp → Prop} {al : Addr} {xs : List V} {M : Addr → Prop} (ds : List PyData) (hal : B al = some (.lst xs)) (sm : Same B H)
    (hM : ∀ b, M b → B b = none ∧ H b ≠ none) (hlen : ds.length = xs.length) (hl : xs.length ≤ 1000)
    (step : ∀ (i : Nat) (x : V) (d : PyData) (B1 H1 : Hp), xs[i]? = some x → ds[i]? = some d → Gr M B H B1 H1 → ∀ R : VK, (∀ v B2 H2, Gr M B1 H1 B2 H2 → Dt B2 d v → R v H2) → g x (wipe σ vs) H1 fun σ2 H2 => wipe σ2 vs = wipe σ vs ∧ te σ2 H2 R)
    (k : ∀ D B' H', Gr M B H B' H' → Dt B' (.list ds) (.ref D) → Qd D H') : ∀ D, H D = none → ∃ W : Nat → Nat → Hp → Prop, (∃ m, W 0 m (upd H D (.lst []))) ∧ ∀ i m H1, W i m H1 →
      ((Itl K al).stop i H1 ∧ Qd D H1) ∨ ((Itl K al).go i H1 ∧ ∃ Nx : Hp → Prop, (∀ H', Nx H' → ∃ m', m' < m ∧ W (i + 1) m' H') ∧ ∀ x H', (Itl K al).yld i H1 x H' → g x (wipe σ vs) H' fun σ2 H2 => wipe σ2 vs = wipe σ vs ∧ tYes σ2 H2 fun b H3 =>
        if b = true then te σ2 H3 fun y H4 => ∃ acc, H4 D = some (.lst acc) ∧ acc.length < sizeLine ∧ Nx (upd H4 D (.lst (acc ++ [y]))) else Nx H3) := by
  refine fun D hD => lc_list (K := K) (a := al) (xs := xs) (fun n H' => ∃ (B1 : Hp) (acc : List V), Gr M B H B1 H' ∧ B1 D = none ∧ H' D = some (.lst acc) ∧ DtAll B1 (ds.take n) acc) ⟨B, [], (Gr.refl sm).nwM hD, sm.free hD, upd_same, rfl⟩ (fun n H' _ ⟨B1, acc, G, _, _, _⟩ => SqL.of (G.bh _ _ (G.bb _ _ hal))) (fun n x H' hx ⟨B1, acc, G, hB, hDl, dd⟩ => ?_) (fun H' ⟨B1, acc, G, hB, hDl, dd⟩ => ?_)
  · have hn : n < ds.length := by rw [hlen]; exact (List.getElem?_eq_some_iff.mp hx).1
    have hd : ds[n]? = some ds[n] := List.getElem?_eq_getElem hn
    generalize ds[n] = d at hd
    have nM : ¬ M D := fun z => (hM D z).2 hD
    have hacc : acc.length = n := by
      have := dd.len
      rw [List.length_take] at this
      omega
    have key := step n x d B1 H' hx hd G (fun y H4 => ∃ acc, H4 D = some (.lst acc) ∧ acc.length < sizeLine ∧ ∃ (B1 : Hp) (acc1 : List V), Gr M B H B1 (upd H4 D (.lst (acc ++ [y]))) ∧ B1 D = none ∧ (upd H4 D (.lst (acc ++ [y]))) D = some (.lst acc1) ∧ DtAll B1 (ds.take (n + 1)) acc1) (fun v B2 H2 G2 d2 => by
      have hD2 : H2 D = some (.lst acc) := G2.hh _ _ nM hDl
      have hB2 : B2 D = none := G2.bnone hB (nn hDl)
      refine ⟨acc, hD2, Nat.lt_of_le_of_lt (by omega : acc.length ≤ 1000) (by decide), B2, acc ++ [v], (G.tr G2).wr hB2 (.inr hD), hB2, upd_same, ?_⟩
      have e : ds.take (n + 1) = ds.take n ++ [d] := by rw [List.take_add_one, hd]; rfl
      rw [e]
      exact (DtAll.mono G2.bb _ _ dd).snoc d2)
    exact key
  · rw [← hlen, List.take_length] at dd
    exact k D _ _ (G.fz hD hB hDl) ⟨D, acc, rfl, upd_same, DtAll.mono (Same.new hB) _ _ dd⟩
theorem noM {B H : Hp} : ∀ b, M0 b → B b = none ∧ H b ≠ none := fun _ z => z.elim
theorem map_get {α β : Type} {f : α → β} {l : List α} {i : Nat} {y : β} (h : (l.map f)[i]? = some y) : ∃ x, l[i]? = some x ∧ y = f x := by
  rw [List.getElem?_map] at h
  obtain ⟨x, hx, e⟩ := Option.map_eq_some_iff.mp h
  exact ⟨x, hx, e.symm⟩
/-! ### frozen_rows -/
abbrev frD (t : Tb Str) : PyData := .tuple [(kS t.saying).data, .list (t.rooms.map fun r => (kR r.2).data)]
section
variable {P : Program} {w : World} {K : PySem.W.Frag} {mg : Str → Option Value} {base : Heap}
def spFrozen : Sp := fun vs H Q _ => ∃ (B : Hp) (v : V) (evs : List PyData) (t : Tb Str) (E : Nat) (tx : List Str), vs = [v] ∧ Same B H ∧ Dt B (tableD evs t) v ∧ t.Ok E tx ∧ ∀ v' B' H', Gr M0 B H B' H' → Dt B' (frD t) v' → Q v' H'
theorem scFrozen : FnScope ["table", "saying", "rows", "over", "own", "said", "room"] ["table"] (defScope sFrozen) := ⟨rfl, rfl, rfl, by decide +kernel, rfl, by decide +kernel, by decide +kernel⟩
theorem ok_frozen {f : Addr} {fd : FuncData} (F : Fun K "frozen_rows" "frozen_rows" sFrozen f fd) (T : Blt mg) : FnOk P w K mg base CX0 1 f fd ["table"] spFrozen := by
  refine F.ok scFrozen (fun vs H Q E h => ?_) (fun cdv A outer s H vs Q E hr h => ?_)
  · obtain ⟨B, v, evs, t, E, tx, rfl, _⟩ := h
    rfl
  · obtain ⟨B, v, evs, t, E9, tx, rfl, sm, dv, ok, kk⟩ := h
    obtain ⟨tt, ve, vs, vr, rfl, htt, dve, dvs, dvr⟩ := dt_triple dv
    obtain ⟨s0, rfl, hs0⟩ := dt_sL dvs
    obtain ⟨rl, rs, rfl, hrl, hrs⟩ := id dvr
    have nd := scFrozen.nd
    refine ⟨_, pss_cons (ps_set (i := 1) nd rfl (Or.inl rfl) (pe_callTy (r := rTupOf K) call_tuple_of (by rfl) T.tuple (by decide +kernel) (pa_cons (pe_ix ix_tup (pv 0) pe_int (fun _ _ => rfl)) pa_nil)))
      (pss_cons (ps_setLc (i := 2) (own := [("over", 3), ("own", 4)]) (g := gTup K 2 (gCons (gName 3) (gCons (gName 4) gNil))) (tt := tYes)
          (te := tCB (rTupOf K) (tCons (tLc (iList K (tVar 4)) (gTup K 2 (gCons (gName 5) (gCons (gName 6) gNil))) tYes (tTup (tCons (tCB (rTupOf K) (tCons (tVar 5) tNil)) (tCons (tVar 6) tNil))) [5, 6]) tNil))
          (by rfl) nd rfl rfl (sw_true rfl rfl rfl (by decide +kernel)) (pi_list (pe_ix ix_tup (pv 0) pe_int (fun _ _ => rfl))) (blkOk_by (own := [("over", 3), ("own", 4)]) (N := ["table", "saying", "rows", "over", "own", "said", "room"]) (sc := defScope sFrozen) (by decide +kernel))
          (fun _ _ _ _ _ => pg_tup rfl (pgs_cons (pg_name (i := 3) nd rfl (Or.inl rfl)) (pgs_cons (pg_name (i := 4) nd rfl (Or.inl rfl)) pgs_nil))) (fun _ _ _ _ _ => pts_nil)
          (fun _ _ _ _ _ => pe_callTy (r := rTupOf K) call_tuple_of (by rfl) T.tuple (by decide +kernel) (pa_cons
            (pe_lc (own := [("said", 5), ("room", 6)]) (g := gTup K 2 (gCons (gName 5) (gCons (gName 6) gNil))) (tt := tYes) (te := tTup (tCons (tCB (rTupOf K) (tCons (tVar 5) tNil)) (tCons (tVar 6) tNil)))
              (by rfl) nd (pi_list (pv 4)) (blkOk_by (own := [("said", 5), ("room", 6)]) (N := ["table", "saying", "rows", "over", "own", "said", "room"]) (by kernel_rfl))
              (fun _ _ _ _ _ => pg_tup rfl (pgs_cons (pg_name (i := 5) nd rfl (Or.inl rfl)) (pgs_cons (pg_name (i := 6) nd rfl (Or.inl rfl)) pgs_nil))) (fun _ _ _ _ _ => pts_nil)
              (fun _ _ _ _ _ => pe_tup (pa_cons (pe_callTy (r := rTupOf K) call_tuple_of (by rfl) T.tuple (by decide +kernel) (pa_cons (pv 5) pa_nil)) (pa_cons (pv 6) pa_nil)))) pa_nil)))
      (pss_one (ps_ret (pe_tup (pa_cons (pv 1) (pa_cons (pv 2) pa_nil)))))), ?_⟩
    refine ⟨_, rfl, tt, _, _, _, rfl, rfl, SqT.of (sm _ _ htt), atI_i (j := 1) rfl rfl, s0, _, rfl, .inl ⟨SqL.of (sm _ _ hs0), fun q hq => ?_⟩⟩
    have N1 := Gr.new (M := M0) (o := .tup (t.saying.map V.str)) sm hq
    have d1 : Dt (upd B q (.tup (t.saying.map V.str))) (kS t.saying).data (.ref q) := by rw [kS_data]; exact ⟨q, _, rfl, upd_same, dts_strs _⟩
    generalize upd B q (.tup (t.saying.map V.str)) = B1 at N1 d1
    generalize upd H q (.tup (t.saying.map V.str)) = H1 at N1
    have hlr := hrs.len
    rw [List.length_map] at hlr
    have hr20 := ok.r2
    refine ⟨_, rfl, tt, _, _, _, rfl, rfl, SqT.of (N1.bh _ _ (N1.bb _ _ htt)), atI_i (j := 2) rfl rfl, rl, rfl, ⟨_, SqL.of (N1.bh _ _ (N1.bb _ _ hrl))⟩, lc_dt0 (K := K) (al := rl) (xs := rs) (B := B1) (M := M0) (t.rooms.map fun r => (kR r.2).data) (N1.bb _ _ hrl) N1.bh noM (by rw [List.length_map]; exact hlr) (by omega) (fun i x d B2 H2 hx hd G2 R hR => ?_) (fun D B2 H2 G2 dD => ?_)⟩
    · obtain ⟨r, hr1, rfl⟩ := map_get hd
      obtain ⟨dx0, hdx0, dx⟩ := hrs.at hx
      obtain ⟨r', hr2, rfl⟩ := map_get hdx0
      rw [hr1] at hr2
      injection hr2 with hr2
      subst hr2
      obtain ⟨rt, w1, w2, rfl, hrt, _, dw2⟩ := dt_pair dx
      obtain ⟨cl, cs, rfl, hcl, hcs⟩ := id dw2
      obtain ⟨hrE, hrc⟩ := ok.row r (List.mem_of_getElem? hr1)
      have he20 := ok.e2
      have hlc := hcs.len
      rw [List.length_map] at hlc
      have G02 := N1.tr G2
      refine ⟨rt, _, rfl, SqT.of (G2.bh _ _ (G02.bb _ _ hrt)), rfl, _, _, rfl, _, _, rfl, rfl, rfl, ?_⟩
      rw [kR_data] at hR
      refine ⟨_, rfl, cl, rfl, ⟨_, SqL.of (G2.bh _ _ (G02.bb _ _ hcl))⟩, lc_dt0 (K := K) (al := cl) (xs := cs) (B := B2) (M := M0) (r.2.map fun c => .tuple [(kS c.1).data, .int (c.2 : Nat)]) (G02.bb _ _ hcl) G2.bh noM (by rw [List.length_map]; exact hlc) (by omega) (fun j y d B3 H3 hy hd3 G3 R3 hR3 => ?_) (fun D B3 H3 G3 dD => ?_)⟩
      · obtain ⟨c, hc1, rfl⟩ := map_get hd3
        obtain ⟨dy0, hdy0, dy⟩ := hcs.at hy
        obtain ⟨c', hc2, rfl⟩ := map_get hdy0
        rw [hc1] at hc2
        injection hc2 with hc2
        subst hc2
        obtain ⟨ct, z1, z2, rfl, hct, dz1, dz2⟩ := dt_pair dy
        obtain rfl : z2 = V.int _ := dz2
        obtain ⟨sl, rfl, hsl⟩ := dt_sL dz1
        have G03 := G02.tr G3
        refine ⟨ct, _, rfl, SqT.of (G3.bh _ _ (G03.bb _ _ hct)), rfl, _, _, rfl, _, _, rfl, rfl, rfl, ?_⟩
        refine ⟨_, rfl, sl, _, rfl, .inl ⟨SqL.of (G3.bh _ _ (G03.bb _ _ hsl)), fun q hq => ?_⟩⟩
        have N4 := Gr.new (M := M0) (o := .tup (c.1.map V.str)) G3.bh hq
        have d4 : Dt (upd B3 q (.tup (c.1.map V.str))) (kS c.1).data (.ref q) := by rw [kS_data]; exact ⟨q, _, rfl, upd_same, dts_strs _⟩
        generalize upd B3 q (.tup (c.1.map V.str)) = B4 at N4 d4
        generalize upd H3 q (.tup (c.1.map V.str)) = H4 at N4
        refine ⟨_, rfl, (by show 2 ≤ sizeLine; decide), fun u hu => ?_⟩
        have N5 := Gr.new (M := M0) (o := .tup [.ref q, .int (c.2 : Nat)]) N4.bh hu
        exact hR3 _ _ _ (N4.tr N5) (tup2 upd_same (Dt.mono N5.bb _ _ d4) rfl)
      · obtain ⟨_, ls, eD, hD, hls⟩ := dD
        injection eD with eD
        subst eD
        refine ⟨_, _, rfl, .inl ⟨SqL.of (G3.bh _ _ hD), fun u hu => ?_⟩⟩
        have N4 := Gr.new (M := M0) (o := .tup ls) G3.bh hu
        exact hR _ _ _ (G3.tr N4) ⟨u, ls, rfl, upd_same, DtAll.mono N4.bb _ _ hls⟩
    · refine ⟨_, rfl, _, rfl, (by show 2 ≤ sizeLine; decide), fun u hu => ?_⟩
      have N4 := Gr.new (M := M0) (o := .tup [.ref q, .ref D]) G2.bh hu
      exact kk _ _ _ ((N1.tr G2).tr N4) (tup2 upd_same (Dt.mono (G2.tr N4).bb _ _ d1) (Dt.mono N4.bb _ _ dD))
end
end Mill

namespace Mill
open PySem PySem.Spec PyProof.Rows L2
/-- a comprehension over a walk, which makes data -/
theorem lc_dtW {J : It} {n : Nat} {G : Hp → Prop} {Y : Nat → Hp → V → Hp → Prop} (wk : Walk J n G Y) {g : TG} {te : TE} {vs : List Nat} {σ : L2.St} {H B : Hp} {Qd : Addr → Hp → Prop} {M : Addr → Prop} (ds : List PyData) (sm : Same B H)
    (hG : ∀ B1 H1, Gr M B H B1 H1 → G H1) (hM : ∀ b, M b → B b = none ∧ H b ≠ none) (hlen : ds.length = n) (hl : n ≤ 1000)
    (step : ∀ (i : Nat) (x : V) (d : PyData) (B1 H1 H1' : Hp), i < n → ds[i]? = some d → Gr M B H B1 H1 → Y i H1 x H1' → ∀ R : VK, (∀ v B2 H2, Gr M B1 H1 B2 H2 → Dt B2 d v → R v H2) → g x (wipe σ vs) H1' fun σ2 H2 => wipe σ2 vs = wipe σ vs ∧ te σ2 H2 R)
    (k : ∀ D B' H', Gr M B H B' H' → Dt B' (.list ds) (.ref D) → Qd D H') : ∀ D, H D = none → ∃ W : Nat → Nat → Hp → Prop, (∃ m, W 0 m (upd H D (.lst []))) ∧ ∀ i m H1, W i m H1 →
      (J.stop i H1 ∧ Qd D H1) ∨ (J.go i H1 ∧ ∃ Nx : Hp → Prop, (∀ H', Nx H' → ∃ m', m' < m ∧ W (i + 1) m' H') ∧ ∀ x H', J.yld i H1 x H' → g x (wipe σ vs) H' fun σ2 H2 => wipe σ2 vs = wipe σ vs ∧ tYes σ2 H2 fun b H3 =>
        if b = true then te σ2 H3 fun y H4 => ∃ acc, H4 D = some (.lst acc) ∧ acc.length < sizeLine ∧ Nx (upd H4 D (.lst (acc ++ [y]))) else Nx H3) := by
  refine fun D hD => lc_it wk (fun n H' => ∃ (B1 : Hp) (acc : List V), Gr M B H B1 H' ∧ B1 D = none ∧ H' D = some (.lst acc) ∧ DtAll B1 (ds.take n) acc) ⟨B, [], (Gr.refl sm).nwM hD, sm.free hD, upd_same, rfl⟩ (fun n H' _ ⟨B1, acc, G, _, _, _⟩ => hG _ _ G) (fun n x H' H'' hi ⟨B1, acc, G, hB, hDl, dd⟩ hy => ?_) (fun H' ⟨B1, acc, G, hB, hDl, dd⟩ => ?_)
  · have hn : n < ds.length := by rw [hlen]; exact hi
    have hd : ds[n]? = some ds[n] := List.getElem?_eq_getElem hn
    generalize ds[n] = d at hd
    have nM : ¬ M D := fun z => (hM D z).2 hD
    have hacc : acc.length = n := by
      have := dd.len
      rw [List.length_take] at this
      omega
    have key := step n x d B1 H' H'' hi hd G hy (fun y H4 => ∃ acc, H4 D = some (.lst acc) ∧ acc.length < sizeLine ∧ ∃ (B1 : Hp) (acc1 : List V), Gr M B H B1 (upd H4 D (.lst (acc ++ [y]))) ∧ B1 D = none ∧ (upd H4 D (.lst (acc ++ [y]))) D = some (.lst acc1) ∧ DtAll B1 (ds.take (n + 1)) acc1) (fun v B2 H2 G2 d2 => by
      have hD2 : H2 D = some (.lst acc) := G2.hh _ _ nM hDl
      have hB2 : B2 D = none := G2.bnone hB (nn hDl)
      refine ⟨acc, hD2, Nat.lt_of_le_of_lt (by omega : acc.length ≤ 1000) (by decide), B2, acc ++ [v], (G.tr G2).wr hB2 (.inr hD), hB2, upd_same, ?_⟩
      have e : ds.take (n + 1) = ds.take n ++ [d] := by rw [List.take_add_one, hd]; rfl
      rw [e]
      exact (DtAll.mono G2.bb _ _ dd).snoc d2)
    exact key
  · rw [← hlen, List.take_length] at dd
    exact k D _ _ (G.fz hD hB hDl) ⟨D, acc, rfl, upd_same, DtAll.mono (Same.new hB) _ _ dd⟩
section
variable {P : Program} {w : World} {K : PySem.W.Frag} {mg : Str → Option Value} {base : Heap}
/-! ### sayings_of -/
def spSayings (P : Program) (w : World) : Sp := fun vs H Q _ => ∃ (B : Hp) (v1 v2 : V) (t : Tb Str) (E : Nat) (tx : List Str), vs = [v1, v2] ∧ Same B H ∧ Dt B (kS t.saying).data v1 ∧ Dt B (.list (t.rooms.map fun r => (kR r.2).data)) v2 ∧ t.Ok E tx ∧
  ∀ d od ys B' H', Gr M0 B H B' H' → B' d = some (ndO P w od d ys) → NumD B' (t.says.map kS) ys → Q (.ref d) H'
theorem scSayings : FnScope ["saying", "rows", "found", "own", "said", "room"] ["saying", "rows"] (defScope sSayings) := ⟨rfl, rfl, rfl, by decide +kernel, rfl, by decide +kernel, by decide +kernel⟩
theorem ok_sayings {f fN : Addr} {fd fdN : FuncData} (F : Fun K "sayings_of" "sayings_of" sSayings f fd) (T : Blt mg) (AN : At K mg "numbered" ["things"] sNumbered fN fdN) : FnOk P w K mg base CX0 2 f fd ["saying", "rows"] (spSayings P w) := by
  have GN : FnOk P w K mg base CX0 1 fN fdN ["things"] (spNum P w) := ok_num AN.fn T
  refine F.ok scSayings (fun vs H Q E h => ?_) (fun cdv A outer s H vs Q E hr h => ?_)
  · obtain ⟨B, v1, v2, t, E, tx, rfl, _⟩ := h
    rfl
  · obtain ⟨B, v1, v2, t, E9, tx, rfl, sm, dv1, dv2, ok, kk⟩ := h
    obtain ⟨rl, rs, rfl, hrl, hrs⟩ := id dv2
    have nd := scSayings.nd
    refine ⟨_, pss_cons (ps_set (i := 2) nd rfl (Or.inl rfl) (pe_lst (pa_cons (pv 0) pa_nil)))
      (pss_cons (ps_for PassesOwn.never rfl (pi_list (pv 1)) (pg_name (i := 3) nd rfl (Or.inl rfl))
        (pss_one (ps_expr (pe_bm PySem.F.plainAttrs_list PySem.F.slot_list_extend PySem.F.type_list_extend mt_extend (pv 2) (pa_cons
          (pe_lc (own := [("said", 4), ("room", 5)]) (g := gTup K 2 (gCons (gName 4) (gCons (gName 5) gNil))) (tt := tYes) (te := tVar 4)
              (by rfl) nd (pi_tup (pv 3)) (blkOk_by (own := [("said", 4), ("room", 5)]) (N := ["saying", "rows", "found", "own", "said", "room"]) (sc := defScope sSayings) (by decide +kernel))
              (fun _ _ _ _ _ => pg_tup rfl (pgs_cons (pg_name (i := 4) nd rfl (Or.inl rfl)) (pgs_cons (pg_name (i := 5) nd rfl (Or.inl rfl)) pgs_nil))) (fun _ _ _ _ _ => pts_nil)
              (fun _ _ _ _ _ => pv 4)) pa_nil)))))
      (pss_one (ps_ret (pe_call GN hr rfl AN.mgf AN.fn.kp AN.bd .nil pass0 (pa_cons (pv 2) pa_nil))))), ?_⟩
    have hlr := hrs.len
    rw [List.length_map] at hlr
    have hr20 := ok.r2
    have he20 := ok.e2
    have hall : ∀ i, ((t.rooms.take i).flatMap fun r => r.2.map (·.1)).length ≤ 400 := fun i => by
      rw [flat_len (fun r : Bool × List (List Str × Nat) => r.2.map (·.1)) E9 _ (fun r hr => by rw [List.length_map]; exact (ok.row r (List.mem_of_mem_take hr)).1), List.length_take]
      calc min i t.rooms.length * E9 ≤ 20 * 20 := Nat.mul_le_mul (by omega) he20
        _ = 400 := rfl
    refine ⟨_, rfl, (by show 1 ≤ sizeLine; decide), fun l hl => ?_⟩
    have N0 := (Gr.refl (M := M0) sm).nwM (o := .lst [v1]) hl
    refine ⟨_, rfl, rl, rfl, ⟨_, SqL.of (N0.bh _ _ hrl)⟩, for_list (K := K) (a := rl) (xs := rs) (fun i σ H' => ∃ (B1 : Hp) (xs : List V) (x3 : Option V), σ = [some v1, some (.ref rl), some (.ref l), x3, none, none] ∧ Gr M0 B H B1 H' ∧ B1 l = none ∧ H' l = some (.lst xs) ∧ DtAll B1 (((t.saying :: (t.rooms.take i).flatMap fun r => r.2.map (·.1)).map kS).map NestedKey.data) xs)
      ⟨B, [v1], none, rfl, N0, sm.free hl, upd_same, v1, [], rfl, dv1, rfl⟩ (fun i σ H' _ ⟨B1, xs, x3, _, G, _⟩ => SqL.of (G.bh _ _ (G.bb _ _ hrl))) ?_ ?_⟩
    · rintro i x σ H1 hx ⟨B1, xs, x3, rfl, G1, hB1, hL1, hD1⟩
      obtain ⟨dx0, hdx0, dx⟩ := hrs.at hx
      obtain ⟨r, hr1, rfl⟩ := map_get hdx0
      rw [kR_data] at dx
      obtain ⟨ra, ra1, rfl, hra, hra1⟩ := dx
      obtain ⟨hrE, hrc⟩ := ok.row r (List.mem_of_getElem? hr1)
      have hlra := hra1.len
      rw [List.length_map] at hlra
      refine ⟨_, rfl, .inl ⟨rfl, _, SqL.of hL1⟩, _, rfl, ra, rfl, ⟨_, SqT.of (G1.bh _ _ (G1.bb _ _ hra))⟩, lc_dtW (walk_tup (K := K) (a := ra) (xs := ra1)) (B := B1) (M := M0) (r.2.map fun c => (kS c.1).data) G1.bh (fun B2 H2 G2 => SqT.of (G2.bh _ _ (G2.bb _ _ (G1.bb _ _ hra)))) noM (by rw [List.length_map]; exact hlra) (by omega) (fun j y d B2 H2 H2' hj hd2 G2 hY R hR => ?_) (fun D B2 H2 G2 dD => ?_)⟩
      · obtain ⟨rfl, hy⟩ := hY
        obtain ⟨c, hc1, rfl⟩ := map_get hd2
        obtain ⟨dy0, hdy0, dy⟩ := hra1.at hy
        obtain ⟨c', hc2, rfl⟩ := map_get hdy0
        rw [hc1] at hc2
        injection hc2 with hc2
        subst hc2
        obtain ⟨ct, z1, z2, rfl, hct, dz1, dz2⟩ := dt_pair dy
        refine ⟨ct, _, rfl, SqT.of (G2.bh _ _ (G2.bb _ _ (G1.bb _ _ hct))), rfl, _, _, rfl, _, _, rfl, rfl, rfl, _, rfl, ?_⟩
        exact hR _ _ _ (Gr.refl G2.bh) (Dt.mono (G1.tr G2).bb _ _ dz1)
      · obtain ⟨_, ls, eD, hD, hls⟩ := dD
        injection eD with eD
        subst eD
        have hL2 : H2 l = some (.lst xs) := G2.hh _ _ (fun z => z) hL1
        have hB2 : B2 l = none := G2.bnone hB1 (nn hL1)
        have hlx := hD1.len
        have hlls := hls.len
        rw [List.length_map] at hlls
        rw [List.length_map, List.length_map, List.length_cons] at hlx
        have := hall i
        refine ⟨l, D, xs, ls, rfl, rfl, hL2, G2.bh _ _ hD, Nat.le_of_lt (Nat.lt_of_le_of_lt (by omega : xs.length + ls.length ≤ 1000) (by decide)), ?_⟩
        refine ⟨B2, xs ++ ls, _, rfl, (G1.tr G2).wr hB2 (.inr hl), hB2, upd_same, ?_⟩
        have e : (t.saying :: (t.rooms.take (i + 1)).flatMap fun r => r.2.map (·.1)) = (t.saying :: (t.rooms.take i).flatMap fun r => r.2.map (·.1)) ++ r.2.map (·.1) := by
          rw [List.take_add_one, hr1, List.flatMap_append]
          simp
        rw [e, List.map_append, List.map_append]
        refine (DtAll.mono G2.bb _ _ hD1).app ?_
        rw [List.map_map, List.map_map]
        exact hls
    · rintro σ H1 ⟨B1, xs, x3, rfl, G1, hB1, hL1, hD1⟩
      have e1 : t.rooms.take rs.length = t.rooms := List.take_of_length_le (by omega)
      rw [e1] at hD1
      have F1 := G1.fz hl hB1 hL1
      have hl2 : (upd B1 l (.lst xs)) l = some (.lst xs) := upd_same
      have hD2 := DtAll.mono (Same.new (o := .lst xs) hB1) _ _ hD1
      generalize upd B1 l (.lst xs) = B2 at F1 hl2 hD2
      have ha := hall t.rooms.length
      rw [List.take_length] at ha
      refine ⟨_, rfl, B2, l, xs, t.all.map kS, rfl, F1.bh, hl2, hD2, fun k hk => ?_, by rw [List.length_map]; show _ + 1 ≤ 1000; omega, fun d od ys B3 H3 G3 hd hn => ?_⟩
      · obtain ⟨s, _, rfl⟩ := List.mem_map.mp hk
        exact ⟨Nat.le_trans (kS_depth s) (by decide), _, rfl⟩
      · refine kk d od ys _ _ (F1.tr G3) hd ?_
        have eu := uq_map kS kS_inj t.all []
        rw [List.map_nil] at eu
        rw [eu] at hn
        exact hn
end
end Mill

namespace Mill
open PySem PySem.Spec PyProof.Rows L2 LamX NdefX
theorem putN_mem {R : NestedKey × Addr × V → Prop} {xs : List (NestedKey × Addr × V)} {k : NestedKey} {a : Addr} {v : V} (h : ∀ x ∈ xs, R x) (h1 : ∀ x ∈ xs, x.1 = k → R (x.1, x.2.1, v)) (h2 : R (k, a, v)) : ∀ x ∈ putN xs k a v, R x := by
  intro x hx
  unfold putN at hx
  split at hx
  · obtain ⟨y, hy, rfl⟩ := List.mem_map.mp hx
    by_cases e : y.1 = k
    · rw [if_pos e]; exact h1 y hy e
    · rw [if_neg e]; exact h y hy
  · rcases List.mem_append.mp hx with hx | hx
    · exact h x hx
    · rw [List.mem_singleton.mp hx]; exact h2
theorem putN_ne {xs : List (NestedKey × Addr × V)} {k : NestedKey} {a : Addr} {v : V} : putN xs k a v ≠ [] := by
  unfold putN
  split
  · rename_i h
    intro e
    rw [List.map_eq_nil_iff] at e
    rw [e] at h
    cases h
  · simp
/-- a def whose code object is at c -/
structure FunC (K : PySem.W.Frag) (x qual : Str) (st : Stmt) (f : Addr) (fd : FuncData) (c : Addr) : Prop where
  ex : ∃ (oc : Value) (od : Option Addr) (kV doc pm : Value) (an : Option Addr) (ct : Value) (osl : Array (Option Value)),
    fd = PySem.W.fnOf x qual (defArgs st) (defBody st) (defScope st) .none kV doc pm an (.ref c) ct ∧ K.lookup f = some ⟨oc, od, .func fd, osl⟩ ∧ PySem.W.codeIn K (.ref c) qual = true
  kp : PySem.W.keepIn K (.ref f) = true
theorem FunC.fn {K : PySem.W.Frag} {x qual : Str} {st : Stmt} {f : Addr} {fd : FuncData} {c : Addr} (F : FunC K x qual st f fd c) : Fun K x qual st f fd := by
  obtain ⟨oc, od, kV, doc, pm, an, ct, osl, h⟩ := F.ex
  exact ⟨⟨oc, od, kV, doc, pm, an, .ref c, ct, osl, h⟩, F.kp⟩
theorem FunC.ok {P : Program} {w : World} {K : PySem.W.Frag} {mg : Str → Option Value} {base : Heap} {x qual : Str} {st : Stmt} {f : Addr} {fd : FuncData} {c : Addr} {N ps : List Str} {k : Nat} {sp : Sp} (F : FunC K x qual st f fd c) (S : FnScope N ps (defScope st)) (len : ∀ vs H Q E, sp vs H Q E → vs.length = ps.length)
    (hbody : ∀ (A : Around) (outer : List Env) (s : Shared) (H : Hp) (vs : List V) (Q : VK) (E : XK), Room k (A.deeper (envOfC qual (defScope st) s.heap.objs.size f (.ref c))) → sp vs H Q E →
      ∃ t, PSs (cxOf CX0 P w K mg base N qual (defScope st) f (.ref c) A outer s H E).nox (defBody st) t ∧ t { nx := fun _ H' => Q .non H', rt := Q } (start N vs) H) : FnOk P w K mg base CX0 (k + 1) f fd ps sp := by
  obtain ⟨oc, od, kV, doc, pm, an, ct, osl, rfl, lk, hcd⟩ := F.ex
  refine fn_of lk hcd S len fun A outer s H vs Q E hr hsp => ?_
  obtain ⟨t, h, q⟩ := hbody A outer s H vs Q E hr hsp
  exact ⟨t, h.nox, q⟩
theorem Gr.ofPt {Pt : Addr} {B H B1 H1 H2 : Hp} {M : Addr → Prop} (a : Gr M B H B1 H1) (h : PtN Pt H1 H2) (hb : B1 Pt = none) (hm : M Pt) : Gr M B H B1 H2 where
  bb := a.bb
  bh := fun b o e => h.1 b o (fun z => by rw [z, hb] at e; cases e) (a.bh b o e)
  hh := fun b o n e => h.1 b o (fun z => n (by rw [z]; exact hm)) (a.hh b o n e)
  al := fun b e => h.2 b (a.al b e)
  old := a.old
def lq : Str := "common_pair.<locals>.<lambda>"
section
variable {P : Program} {w : World} {K : PySem.W.Frag} {mg : Str → Option Value} {base : Heap}
/-! ### common_pair -/
def spCommon (P : Program) (w : World) (Pt : Addr) : Sp := fun vs H Q _ => ∃ (B : Hp) (a : Addr) (xs : List V) (ps : List (Nat × Nat)), vs = [.ref a] ∧ Same B H ∧ B Pt = none ∧ TabS H Pt lq ∧ B a = some (.lst xs) ∧ DtAll B (ps.map fun p => (kP p).data) xs ∧ ps ≠ [] ∧ ps.length ≤ 20 ∧
  ∀ c b H', c ∈ ps → Gr (fun b => b = Pt) B H B H' → TabS H' Pt lq → Dt B (kP c).data (.ref b) → Q (.ref b) H'
theorem scCommon : FnScope ["pairs", "counts", "pair"] ["pairs"] (defScope sCommon) := ⟨rfl, rfl, rfl, by decide +kernel, rfl, by decide +kernel, by decide +kernel⟩
def lamOf : Expr → Scope
  | .Call _ _ [⟨_, .Lambda _ _ sc _, _⟩] _ => sc
  | _ => defScope (top 1)
def retVal : Stmt → Expr
  | .Return (some e) _ => e
  | _ => .Name "x" ⟨0, 0, 0, 0⟩
theorem ok_common {f c Pt : Addr} {fd : FuncData} (F : FunC K "common_pair" "common_pair" sCommon f fd c) (TB : TabB base mg c Pt) (T : Blt mg) : FnOk P w K mg base CX0 3 f fd ["pairs"] (spCommon P w Pt) := by
  refine F.ok scCommon (fun vs H Q E h => ?_) (fun A outer s H vs Q E hr h => ?_)
  · obtain ⟨B, a, xs, ps, rfl, _⟩ := h
    rfl
  · obtain ⟨B, a, xs, ps, rfl, sm, hPt, hT, ha, dd, hne, hl, kk⟩ := h
    have nd := scCommon.nd
    refine ⟨_, pss_cons (ps_set (i := 1) nd rfl (Or.inr rfl) pe_ndNew)
      (pss_cons (ps_for PassesOwn.never rfl (pi_list (pv 0)) (pg_name (i := 2) nd rfl (Or.inl rfl))
        (pss_one (ps_ndPut hr.units (pv 1) (pv 2) (pe_op op_add (pe_ndGet2 hr.units (pv 1) (pv 2) pe_int ⟨rfl, rfl, rfl, rfl⟩) pe_int) (by rfl))))
      (pss_one (ps_ret (pe_maxLam (a := "pair") (y := "counts") (q := lq) (c := c) (P := Pt) (k := 0) (j := 1) (tb := tNdGet P w (tVar 1) (tVar 0)) rfl rfl (by rfl) T.max (by kernel_rfl) TB rfl rfl hr (nscope_by (by kernel_rfl)) (fun z hz e => by
          rcases List.mem_cons.mp hz with rfl | hz
          · cases e
          · rw [List.mem_singleton.mp hz]; exact .inl rfl) (List.mem_cons_of_mem _ (List.mem_cons_self ..)) rfl
        (fun _ _ _ _ _ _ => rfl) (pv 1) (fun _ _ _ _ _ _ _ _ hr2 => pe_ndGet hr2.units (pv 1) (pv 0) (fun _ _ => rfl)))))), ?_⟩
    refine fun d od0 hd => ?_
    have hlen := dd.len
    rw [List.length_map] at hlen
    have N0 := (Gr.refl (M := M0) sm).nwM (o := ndO P w od0 d []) hd
    have hPtH : H Pt ≠ none := by obtain ⟨q, e, _⟩ := hT; exact nn e
    have ndP : d ≠ Pt := fun z => hPtH (by rw [← z]; exact hd)
    refine ⟨_, rfl, a, rfl, ⟨_, SqL.of (N0.bh _ _ ha)⟩, for_list (K := K) (a := a) (xs := xs) (fun i σ H' => ∃ (od : Obj) (ys : List (NestedKey × Addr × V)) (x2 : Option V), σ = [some (.ref a), some (.ref d), x2] ∧ Gr M0 B H B H' ∧ H' d = some (ndO P w od d ys) ∧ ys.length ≤ i ∧ (0 < i → ys ≠ []) ∧
        ∀ x ∈ ys, (Dt B x.1.data (.ref x.2.1) ∧ x.1.depth ≤ 8) ∧ (∃ c ∈ ps, x.1 = kP c) ∧ ∃ n : Int, x.2.2 = .int n)
      ⟨od0, [], none, rfl, N0, upd_same, Nat.le_refl _, (fun z => absurd z (by decide)), (fun x hx => by cases hx)⟩ (fun i σ H' _ ⟨od, ys, x2, _, G, _⟩ => SqL.of (G.bh _ _ ha)) ?_ ?_⟩
    · rintro i x σ H1 hx ⟨od, ys, x2, rfl, G, hD, hyl, _, hys⟩
      obtain ⟨dk, hdk, dx⟩ := dd.at hx
      obtain ⟨pr, hpr, rfl⟩ := map_get hdk
      obtain ⟨ka, kxs, rfl, hka, hkx⟩ := id dx
      have hin : i < xs.length := (List.getElem?_eq_some_iff.mp hx).1
      have hstd : NdK H1 ys := fun x hx => ⟨Dt.mono G.bh _ _ (hys x hx).1.1, (hys x hx).1.2⟩
      have hdep : (kP pr).depth ≤ 8 := Nat.le_trans (kP_depth pr) (by decide)
      have ask : NdAsk P w H1 (.ref d) (.ref ka) d ka od ys (kP pr) := ⟨rfl, rfl, hD, hstd, Dt.mono G.bh _ _ dx, hdep⟩
      have hval : ∃ n : Int, (valN ys (kP pr)).getD (.int 0) = .int n := by
        cases e : valN ys (kP pr) with
        | none => exact ⟨0, rfl⟩
        | some v =>
          by_cases hm : kP pr ∈ ys.map (·.1)
          · obtain ⟨i', p', hp', _, ev⟩ := valN_some hm
            obtain ⟨n, hn⟩ := (hys p' (List.mem_of_getElem? hp')).2.2
            rw [e] at ev
            injection ev with ev
            exact ⟨n, by rw [ev]; exact hn⟩
          · rw [valN_none hm] at e
            cases e
      obtain ⟨n, hn⟩ := hval
      refine ⟨_, rfl, d, od, ys, rfl, hD, _, rfl, ka, od, ys, kP pr, ask, ?_⟩
      rw [hn]
      refine ⟨_, _, rfl, rfl, _, rfl, _, rfl, d, ka, od, ys, kP pr, ask, Nat.lt_of_le_of_lt (by omega : ys.length ≤ 1000) (by decide), fun od' => ?_⟩
      have nB : B d = none := sm.free hd
      refine ⟨od', _, _, rfl, G.wr nB (.inr hd), upd_same, Nat.le_trans (putN_len ..) (Nat.succ_le_succ hyl), fun _ => putN_ne, ?_⟩
      exact putN_mem hys (fun x hx e => ⟨(hys x hx).1, (hys x hx).2.1, _, rfl⟩) ⟨⟨dx, hdep⟩, ⟨pr, List.mem_of_getElem? hpr, rfl⟩, _, rfl⟩
    · rintro σ H1 ⟨od, ys, x2, rfl, G, hD, hyl, hne2, hys⟩
      have hpos : 0 < xs.length := by
        rw [← hlen]
        exact List.length_pos_iff.mpr hne
      have hT1 : TabS H1 Pt lq := hT.ext fun b o e => G.hh b o (fun z => z) e
      have G9 : Gr (fun b => b = Pt) B H B H1 := G.imp fun _ z => z.elim
      refine ⟨_, rfl, d, od, ys, .ref d, rfl, hD, hne2 hpos, rfl, hT1, fun H2 e2 p hp => ?_, fun H2 e2 hT2 p hp => ?_⟩
      · have hD2 : H2 d = some (ndO P w od d ys) := e2.1 _ _ ndP hD
        have G2 := G9.ofPt e2 hPt rfl
        obtain ⟨i', p', hp', ek, ev⟩ := valN_some (ys := ys) (k := p.1) (List.mem_map.mpr ⟨p, hp, rfl⟩)
        obtain ⟨n, hn⟩ := (hys p' (List.mem_of_getElem? hp')).2.2
        exact ⟨n, _, rfl, _, rfl, d, p.2.1, od, ys, p.1, _, ⟨rfl, rfl, hD2, fun x hx => ⟨Dt.mono G2.bh _ _ (hys x hx).1.1, (hys x hx).1.2⟩, Dt.mono G2.bh _ _ (hys p hp).1.1, (hys p hp).1.2⟩, ev, hn, rfl⟩
      · obtain ⟨cp, hcp, ekp⟩ := (hys p hp).2.1
        refine kk cp p.2.1 H2 hcp (G9.ofPt e2 hPt rfl) hT2 ?_
        rw [← ekp]
        exact (hys p hp).1.1
end
end Mill

namespace Mill
open PySem PySem.Spec PyProof.Rows L2 LamX NdefX
theorem kS_nodup {us : List (List Str)} (h : us.Nodup) : (us.map kS).Nodup := List.Pairwise.map kS (fun a b n e => n (kS_inj a b e)) h
theorem NumD.says {B : Hp} {us : List (List Str)} {ys : List (NestedKey × Addr × V)} {s : List Str} (n : NumD B (us.map kS) ys) (nd : us.Nodup) (h : s ∈ us) : valN ys (kS s) = some (.int (ix us s : Nat)) := by
  rw [n.get (kS_nodup nd) (List.mem_map.mpr ⟨s, h, rfl⟩)]
  have e : (us.map kS)[ix us s]? = some (kS s) := by rw [List.getElem?_map, idx_get h]; rfl
  rw [idx_of_get (kS_nodup nd) e]
theorem kP_eqv (p c : Nat × Nat) : PyData.eqv (kP p).data (kP c).data = decide (p = c) := by
  have e1 : PyData.eqv (kP p).data (kP c).data = (decide ((p.1 : Int) = (c.1 : Int)) && (decide ((p.2 : Int) = (c.2 : Int)) && true)) := rfl
  rw [e1, Bool.and_true, ← Bool.decide_and]
  refine decide_eq_decide.mpr ⟨fun h => Prod.ext (by omega) (by omega), fun h => by rw [h]; exact ⟨rfl, rfl⟩⟩
theorem kP_at {B : Hp} {p : Nat × Nat} {v : V} (h : Dt B (kP p).data v) : ∃ t, v = .ref t ∧ B t = some (.tup [.int (p.1 : Nat), .int (p.2 : Nat)]) := by
  obtain ⟨t, v1, v2, rfl, ht, e1, e2⟩ := dt_pair (d1 := .int (p.1 : Nat)) (d2 := .int (p.2 : Nat)) h
  obtain rfl : v1 = V.int _ := e1
  obtain rfl : v2 = V.int _ := e2
  exact ⟨t, rfl, ht⟩
abbrev MP (Pt : Addr) : Addr → Prop := fun b => b = Pt
theorem Gr.toP {B H B1 H1 : Hp} {Pt : Addr} (g : Gr M0 B H B1 H1) : Gr (MP Pt) B H B1 H1 := g.imp fun _ z => z.elim
theorem Gr.tab {B H B1 H1 : Hp} {Pt : Addr} (g : Gr M0 B H B1 H1) (t : TabS H Pt lq) : TabS H1 Pt lq := t.ext fun b o e => g.hh b o (fun z => z) e
theorem Gr.pn {M : Addr → Prop} {B H B1 H1 : Hp} {Pt : Addr} (g : Gr M B H B1 H1) (t : TabS H Pt lq) (h : B Pt = none) : B1 Pt = none := g.bnone h (by obtain ⟨q, e, _⟩ := t; exact nn e)
section
variable {P : Program} {w : World} {K : PySem.W.Frag} {mg : Str → Option Value} {base : Heap}
/-! ### shape_cells -/
def spShape (P : Program) (w : World) (Pt : Addr) : Sp := fun vs H Q _ => ∃ (B : Hp) (v : V) (d : Addr) (od : Obj) (ys : List (NestedKey × Addr × V)) (us : List (List Str)) (row : List (List Str × Nat)), vs = [v, .ref d] ∧ Same B H ∧ B Pt = none ∧ TabS H Pt lq ∧ Dt B (kR row).data v ∧ B d = some (ndO P w od d ys) ∧ NumD B (us.map kS) ys ∧ us.Nodup ∧
  (∀ x ∈ row, x.1 ∈ us) ∧ row ≠ [] ∧ row.length ≤ 20 ∧ ∀ c v' B' H', c ∈ pairs us row → Gr (MP Pt) B H B' H' → TabS H' Pt lq → Dt B' (iL (block (mkSh (pairs us row) c).cells)) v' → Q v' H'
theorem scShape : FnScope ["shape", "sayings", "pairs", "common", "cells", "place", "pair", "said", "room"] ["shape", "sayings"] (defScope sShape) := ⟨rfl, rfl, rfl, by decide +kernel, rfl, by decide +kernel, by decide +kernel⟩
theorem ok_shape {f fC c Pt : Addr} {fd fdC : FuncData} (F : Fun K "shape_cells" "shape_cells" sShape f fd) (T : Blt mg) (FC : FunC K "common_pair" "common_pair" sCommon fC fdC c) (AC : At K mg "common_pair" ["pairs"] sCommon fC fdC) (TB : TabB base mg c Pt) : FnOk P w K mg base CX0 4 f fd ["shape", "sayings"] (spShape P w Pt) := by
  have GC : FnOk P w K mg base CX0 3 fC fdC ["pairs"] (spCommon P w Pt) := ok_common FC TB T
  refine F.ok scShape (fun vs H Q E h => ?_) (fun cdv A outer s H vs Q E hr h => ?_)
  · obtain ⟨B, v, d, od, ys, us, row, rfl, _⟩ := h
    rfl
  · obtain ⟨B, v, d, od, ys, us, row, rfl, sm, hPt, hT, dv, hd, hN, und, hin, hne, hl, kk⟩ := h
    have nd := scShape.nd
    refine ⟨_, pss_cons (ps_setLc (i := 2) (own := [("said", 7), ("room", 8)]) (g := gTup K 2 (gCons (gName 7) (gCons (gName 8) gNil))) (tt := tYes) (te := tTup (tCons (tNdGet P w (tVar 1) (tVar 7)) (tCons (tVar 8) tNil)))
          (by rfl) nd rfl rfl (sw_true rfl rfl rfl (by decide +kernel)) (pi_tup (pv 0)) (blkOk_by (own := [("said", 7), ("room", 8)]) (N := ["shape", "sayings", "pairs", "common", "cells", "place", "pair", "said", "room"]) (sc := defScope sShape) (by decide +kernel))
          (fun _ _ _ _ _ => pg_tup rfl (pgs_cons (pg_name (i := 7) nd rfl (Or.inl rfl)) (pgs_cons (pg_name (i := 8) nd rfl (Or.inl rfl)) pgs_nil))) (fun _ _ _ _ _ => pts_nil)
          (fun _ _ _ _ _ => pe_tup (pa_cons (pe_ndGet hr.units (pv 1) (pv 7) (fun _ _ => rfl)) (pa_cons (pv 8) pa_nil))))
      (pss_cons (ps_set (i := 3) nd rfl (Or.inl rfl) (pe_call GC hr rfl AC.mgf AC.fn.kp AC.bd .nil pass0 (pa_cons (pv 2) pa_nil)))
      (pss_cons (ps_set (i := 4) nd rfl (Or.inl rfl) (pe_callTy (r := rListOf K) call_list_of (by rfl) T.list (by decide +kernel) (pa_cons (pv 3) pa_nil)))
      (pss_cons (ps_for PassesOwn.never rfl (pi_enum (by rfl) T.enum (pa_cons (pv 2) pa_nil)) (pg_tup rfl (pgs_cons (pg_name (i := 5) nd rfl (Or.inl rfl)) (pgs_cons (pg_name (i := 6) nd rfl (Or.inl rfl)) pgs_nil)))
        (pss_one (ps_if (pt_cmpR (op_neD hr.units) (pv 6) (pv 3) (nomark _)) (pss_one (ps_expr (pe_bm PySem.F.plainAttrs_list PySem.F.slot_list_extend PySem.F.type_list_extend mt_extend (pv 4) (pa_cons
          (pe_lst (pa_cons (pv 5) (pa_cons (pe_ix ix_tup (pv 6) pe_int (fun _ _ => rfl)) (pa_cons (pe_ix ix_tup (pv 6) pe_int (fun _ _ => rfl)) pa_nil)))) pa_nil)))) pss_nil)))
      (pss_one (ps_ret (pe_op op_cat (pe_lst (pa_cons (pe_callB call_len_seq (by rfl) T.len PySem.boot_len (pa_cons (pv 4) pa_nil)) pa_nil)) (pv 4))))))), ?_⟩
    rw [kR_data] at dv
    obtain ⟨a, rs, rfl, ha, hrs⟩ := dv
    have hlr := hrs.len
    rw [List.length_map] at hlr
    have hn9 : (pairs us row).length = row.length := by unfold pairs; rw [List.length_map]
    refine ⟨_, rfl, a, rfl, ⟨_, SqT.of (sm _ _ ha)⟩, lc_dtW (walk_tup (K := K) (a := a) (xs := rs)) (B := B) (M := M0) ((pairs us row).map fun p => (kP p).data) sm (fun B2 H2 G2 => SqT.of (G2.bh _ _ (G2.bb _ _ ha))) noM (by rw [List.length_map, hn9]; exact hlr) (by omega) (fun j y dd B2 H2 H2' hj hd2 G2 hY R hR => ?_) (fun D B1 H1 G1 dD => ?_)⟩
    · obtain ⟨rfl, hy⟩ := hY
      obtain ⟨p, hp1, rfl⟩ := map_get hd2
      obtain ⟨x, hx1, rfl⟩ := map_get hp1
      obtain ⟨dy0, hdy0, dy⟩ := hrs.at hy
      obtain ⟨x', hx2, rfl⟩ := map_get hdy0
      rw [hx1] at hx2
      injection hx2 with hx2
      subst hx2
      obtain ⟨ct, z1, z2, rfl, hct, dz1, dz2⟩ := dt_pair dy
      obtain rfl : z2 = V.int _ := dz2
      obtain ⟨ka, ks, rfl, hka, _⟩ := id (kS_data x.1 ▸ dz1)
      have hv := hN.says und (hin x (List.mem_of_getElem? hx1))
      refine ⟨ct, _, rfl, SqT.of (G2.bh _ _ (G2.bb _ _ hct)), rfl, _, _, rfl, _, _, rfl, rfl, rfl, _, rfl, _, rfl, d, ka, od, ys, kS x.1, _, ⟨rfl, rfl, G2.bh _ _ (G2.bb _ _ hd), fun x hx => ⟨Dt.mono G2.bh _ _ (Dt.mono G2.bb _ _ (hN.std x hx).1), (hN.std x hx).2⟩, Dt.mono G2.bh _ _ (Dt.mono G2.bb _ _ dz1), Nat.le_trans (kS_depth _) (by decide)⟩, hv, _, rfl, (by show 2 ≤ sizeLine; decide), fun q hq => ?_⟩
      have N3 := Gr.new (M := M0) (o := .tup [.int (ix us x.1 : Nat), .int (x.2 : Nat)]) G2.bh hq
      exact hR _ _ _ N3 (tup2 (d1 := .int (ix us x.1 : Nat)) (d2 := .int (x.2 : Nat)) upd_same rfl rfl)
    · obtain ⟨_, ps, eD, hD, hps⟩ := dD
      injection eD with eD
      subst eD
      have hlp := hps.len
      rw [List.length_map] at hlp
      have hne2 : pairs us row ≠ [] := fun z => hne (List.length_eq_zero_iff.mp (by rw [← hn9, z]; rfl))
      refine ⟨_, rfl, B1, D, ps, pairs us row, rfl, G1.bh, G1.pn hT hPt, G1.tab hT, hD, hps, hne2, by omega, fun c b H2 hc G2 hT2 dc => ?_⟩
      obtain ⟨_, eb, hb⟩ := kP_at dc
      injection eb with eb
      subst eb
      have G12 := G1.toP.tr G2
      have hPt1 := G1.pn hT hPt
      refine ⟨_, rfl, b, _, rfl, .inr (SqT.of (G2.bh _ _ hb)), fun l hl => ?_⟩
      have nlP : l ≠ Pt := fun z => by obtain ⟨q, e, _⟩ := hT2; rw [← z, hl] at e; cases e
      have N3 := (Gr.refl (M := M0) G2.bh).nwM (o := .lst [.int (c.1 : Nat), .int (c.2 : Nat)]) hl
      have mtl : ∀ i, (mkTs c 0 ((pairs us row).take i)).length ≤ 20 := fun i => by
        have := mkTs_len c ((pairs us row).take i) 0
        rw [List.length_take] at this
        omega
      refine ⟨_, rfl, D, _, rfl, SqL.of (N3.bh _ _ hD), for_it (walk_enum (K := K) (a := D) (xs := ps)) (fun i σ H' => ∃ (x y : Option V), σ = [some (.ref a), some (.ref d), some (.ref D), some (.ref b), some (.ref l), x, y, none, none] ∧ Gr M0 B1 H2 B1 H' ∧ H' l = some (.lst (((Sh.mk c (mkTs c 0 ((pairs us row).take i))).cells).map V.int)))
        ⟨none, none, rfl, N3, upd_same⟩ (fun i σ H' _ ⟨x, y, _, G, _⟩ => SqL.of (G.bh _ _ hD)) ?_ ?_⟩
      · rintro i v σ H3 H3' hi ⟨x, y, rfl, G, hL⟩ ⟨T', a1, a2, rfl, hT', rfl, e1, e2⟩
        cases e1
        have e2 : ps[i]? = some a2 := e2
        obtain ⟨dp, hdp, da2⟩ := hps.at e2
        obtain ⟨p, hp, rfl⟩ := map_get hdp
        obtain ⟨pt, rfl, hpt⟩ := kP_at da2
        have G3 := G.nwM (o := .tup [.int (i : Nat), .ref pt]) hT'
        have hL3 : (upd H3 T' (.tup [.int (i : Nat), .ref pt])) l = some (.lst (((Sh.mk c (mkTs c 0 ((pairs us row).take i))).cells).map V.int)) := by rw [upd_ne (ne_of_none hL hT')]; exact hL
        refine ⟨T', _, rfl, SqT.of upd_same, rfl, _, _, rfl, _, _, rfl, rfl, ?_⟩
        generalize upd H3 T' (.tup [.int (i : Nat), .ref pt]) = H4 at G3 hL3
        have e9 : (pairs us row).take (i + 1) = (pairs us row).take i ++ [p] := by rw [List.take_add_one, hp]; rfl
        have hil : i < (pairs us row).length := (List.getElem?_eq_some_iff.mp hp).1
        have es := mkTs_snoc c ((pairs us row).take i) 0 p
        rw [← e9, List.length_take, Nat.min_eq_left (by omega), Nat.zero_add] at es
        refine ⟨_, rfl, _, rfl, (kP p).data, (kP c).data, Dt.dp G3.bh _ _ da2, Dt.dp G3.bh _ _ dc, rfl, rfl, _, rfl, ?_⟩
        rw [kP_eqv]
        by_cases hpc : p = c
        · rw [if_pos hpc, List.append_nil] at es
          rw [decide_eq_true hpc]
          refine iteF ⟨_, _, rfl, G3, ?_⟩
          rw [es]
          exact hL3
        · rw [if_neg hpc] at es
          rw [decide_eq_false hpc]
          refine iteT ⟨_, rfl, .inl ⟨rfl, _, SqL.of hL3⟩, _, rfl, _, rfl, pt, _, _, _, rfl, rfl, SqT.of (G3.bh _ _ hpt), atI_i (j := 0) rfl rfl, _, rfl, pt, _, _, _, rfl, rfl, SqT.of (G3.bh _ _ hpt), atI_i (j := 1) rfl rfl, (by show 3 ≤ sizeLine; decide), fun q hq => ?_⟩
          have hL4 : (upd H4 q (.lst [.int (i : Nat), .int (p.1 : Nat), .int (p.2 : Nat)])) l = some (.lst (((Sh.mk c (mkTs c 0 ((pairs us row).take i))).cells).map V.int)) := by rw [upd_ne (ne_of_none hL3 hq)]; exact hL3
          have hlen : (((Sh.mk c (mkTs c 0 ((pairs us row).take i))).cells).map V.int).length ≤ 100 := by
            rw [List.length_map, Sh.len]
            have := mtl i
            show 2 + 3 * (mkTs c 0 ((pairs us row).take i)).length ≤ 100
            omega
          refine ⟨l, q, _, _, rfl, rfl, hL4, upd_same, Nat.le_trans (Nat.add_le_add_right hlen 3) (by decide), ?_⟩
          refine ⟨_, _, rfl, (G3.nwM hq).wr (G2.bh.free hl) (.inr hl), ?_⟩
          rw [upd_same, es]
          congr 2
          show _ = (List.map V.int (Sh.cells ⟨c, mkTs c 0 ((pairs us row).take i) ++ [(i, p.1, p.2)]⟩))
          unfold Sh.cells
          simp [tri]
      · rintro σ H3 ⟨x, y, rfl, G, hL⟩
        have e1 : (pairs us row).take ps.length = pairs us row := List.take_of_length_le (by omega)
        rw [e1] at hL
        refine ⟨_, rfl, l, _, rfl, .inl (SqL.of hL), (by show 1 ≤ sizeLine; decide), fun q hq => ?_⟩
        have N4 := G.nwM (o := .lst [.int ((((mkSh (pairs us row) c).cells).map V.int).length : Nat)]) hq
        have hL4 : (upd H3 q (.lst [.int ((((mkSh (pairs us row) c).cells).map V.int).length : Nat)])) l = some (.lst (((mkSh (pairs us row) c).cells).map V.int)) := by rw [upd_ne (ne_of_none hL hq)]; exact hL
        have hlen : (((mkSh (pairs us row) c).cells).map V.int).length ≤ 100 := by
          rw [List.length_map, Sh.len]
          have := mtl row.length
          rw [← hn9, List.take_length] at this
          show 2 + 3 * (mkTs c 0 (pairs us row)).length ≤ 100
          omega
        refine ⟨_, rfl, q, l, _, _, rfl, rfl, upd_same, hL4, Nat.le_trans (Nat.add_le_add_left hlen 1) (by decide), fun r hr9 => ?_⟩
        have N5 := N4.nw (p := r) (o := .lst ([V.int ((((mkSh (pairs us row) c).cells).map V.int).length : Nat)] ++ ((mkSh (pairs us row) c).cells).map V.int)) hr9
        refine kk c _ _ _ hc (G12.tr N5.toP) (N5.tab hT2) ⟨r, _, rfl, upd_same, ?_⟩
        have e7 : [V.int ((((mkSh (pairs us row) c).cells).map V.int).length : Nat)] ++ ((mkSh (pairs us row) c).cells).map V.int = (block (mkSh (pairs us row) c).cells).map V.int := by
          rw [List.length_map]; rfl
        rw [e7]
        exact dts_ints _
end
end Mill

namespace Mill
open PySem PySem.Spec PyProof.Rows L2 LamX NdefX
section
variable {t : Tb Str} {E : Nat} {tx : List Str}
theorem Tb.mem_says (s : List Str) : s ∈ t.says ↔ s ∈ t.all := by unfold Tb.says; rw [mem_uq]; simp
theorem Tb.mem_rows (r : List (List Str × Nat)) : r ∈ t.rows ↔ ∃ q ∈ t.rooms, q.2 = r := by unfold Tb.rows; rw [mem_uq]; simp
theorem Tb.says_nd : t.says.Nodup := uq_nodup _ _ List.nodup_nil
theorem Tb.rows_nd : t.rows.Nodup := uq_nodup _ _ List.nodup_nil
theorem Tb.say_in : t.saying ∈ t.says := (Tb.mem_says _).mpr List.mem_cons_self
theorem Tb.says_len (ok : t.Ok E tx) : t.says.length ≤ 401 := by
  have q := uq_len t.all []
  have e := flat_len (fun r : Bool × List (List Str × Nat) => r.2.map (·.1)) E t.rooms (fun r hr => by rw [List.length_map]; exact (ok.row r hr).1)
  have m : t.rooms.length * E ≤ 20 * 20 := Nat.mul_le_mul ok.r2 ok.e2
  have a : t.all.length = t.rooms.length * E + 1 := by show _ + 1 = _; rw [e]
  have z : ([] : List (List Str)).length = 0 := rfl
  show (uq [] t.all).length ≤ 401
  omega
theorem Tb.rows_len (ok : t.Ok E tx) : t.rows.length ≤ 20 := by
  have q := uq_len (t.rooms.map (·.2)) []
  rw [List.length_map] at q
  have := ok.r2
  have z : ([] : List (List (List Str × Nat))).length = 0 := rfl
  show (uq [] (t.rooms.map (·.2))).length ≤ 20
  omega
theorem Tb.says_good (ok : t.Ok E tx) {s : List Str} (h : s ∈ t.says) : s.length ≤ 20 ∧ ∀ y ∈ s, y ∈ tx := by
  rcases List.mem_cons.mp ((Tb.mem_says s).mp h) with e | hm
  · subst e; exact ok.say
  · obtain ⟨q, hq, hm⟩ := List.mem_flatMap.mp hm
    obtain ⟨x, hx, rfl⟩ := List.mem_map.mp hm
    exact ((ok.row q hq).2 x hx).1
theorem Tb.row_good (ok : t.Ok E tx) {r : List (List Str × Nat)} (h : r ∈ t.rows) : r.length = E ∧ r ≠ [] ∧ ∀ x ∈ r, x.1 ∈ t.says := by
  obtain ⟨q, hq, rfl⟩ := (Tb.mem_rows r).mp h
  refine ⟨(ok.row q hq).1, fun z => ?_, fun x hx => (Tb.mem_says _).mpr (List.mem_cons_of_mem _ (List.mem_flatMap.mpr ⟨q, hq, List.mem_map.mpr ⟨x, hx, rfl⟩⟩))⟩
  have := (ok.row q hq).1
  rw [z] at this
  have e1 := ok.e1
  simp at this
  omega
def Tb.hd (t : Tb Str) (i : Nat) : List Int := [(t.rooms.length : Int), (t.says.length : Int), (t.rows.length : Int), (ix t.says t.saying : Int)] ++ (t.rooms.take i).map fun r => roomCell (ix t.rows r.2, r.1)
theorem Tb.hd_len (ok : t.Ok E tx) (i : Nat) : (t.hd i).length ≤ 24 := by
  unfold Tb.hd
  rw [List.length_append, List.length_map, List.length_take]
  have := ok.r2
  show 4 + _ ≤ 24
  omega
theorem blk_len (m : Nat) : ∀ bs : List (List Int), (∀ b ∈ bs, b.length ≤ m) → (bs.flatMap block).length ≤ bs.length * (m + 1)
  | [], _ => by simp
  | b :: bs, h => by
    rw [List.flatMap_cons, List.length_append, List.length_cons]
    have h1 := h b List.mem_cons_self
    have h2 := blk_len m bs fun x hx => h x (List.mem_cons_of_mem _ hx)
    have h3 : (block b).length = b.length + 1 := rfl
    rw [h3, Nat.succ_mul]
    omega
theorem Tb.pk_cells (shs : List Sh) (ty : List Str) (h : shs.length = t.rows.length) : (t.pk shs ty).cells = t.hd t.rooms.length ++ (shs.map Sh.cells).flatMap block ++ (t.says.map fun s => nats (s.map (ix ty))).flatMap block := by
  unfold Pk.cells Pk.head Pk.shapeL Pk.sayL Tb.pk Tb.hd
  simp only [List.length_map, List.map_map, List.take_length, h]
  rfl
end
/-- one more text key -/
theorem putK_keys {kvs : List (Key × V)} {us : List Str} {y : Str} {v : V} (h : kvs.map (·.1) = us.map Sum.inr) : (putK kvs (Sum.inr y) v).map (·.1) = (if y ∈ us then us else us ++ [y]).map Sum.inr := by
  have hk : (kvs.any fun kv => decide (kv.1 = Sum.inr y)) = decide (y ∈ us) := by
    rw [Bool.eq_iff_iff, List.any_eq_true, decide_eq_true_eq]
    constructor
    · rintro ⟨x, hx, e⟩
      have m : x.1 ∈ us.map Sum.inr := by rw [← h]; exact List.mem_map.mpr ⟨x, hx, rfl⟩
      rw [of_decide_eq_true e] at m
      obtain ⟨z, hz, ez⟩ := List.mem_map.mp m
      injection ez with ez
      rw [← ez]; exact hz
    · intro hy
      have m : (Sum.inr y : Key) ∈ kvs.map (·.1) := by rw [h]; exact List.mem_map.mpr ⟨y, hy, rfl⟩
      obtain ⟨x, hx, e⟩ := List.mem_map.mp m
      exact ⟨x, hx, decide_eq_true e⟩
  unfold putK
  rw [hk]
  by_cases hy : y ∈ us
  · rw [if_pos (decide_eq_true hy), if_pos hy, List.map_map, ← h]
    refine List.map_congr_left fun x _ => ?_
    show (if x.1 = Sum.inr y then (x.1, v) else x).1 = x.1
    split <;> rfl
  · rw [if_neg (by rw [decide_eq_false hy]; exact Bool.false_ne_true), if_neg hy, List.map_append, List.map_append, h]
    rfl
theorem NumD.nth {α : Type} {f : α → NestedKey} {B : Hp} {us : List α} {ys : List (NestedKey × Addr × V)} {i : Nat} {p : NestedKey × Addr × V} (n : NumD B (us.map f) ys) (h : ys[i]? = some p) : ∃ s, us[i]? = some s ∧ Dt B (f s).data (.ref p.2.1) := by
  have e : (us.map f)[i]? = some p.1 := by rw [← n.keys, List.getElem?_map, h]; rfl
  obtain ⟨s, hs, es⟩ := map_get e
  have q := (n.std p (List.mem_of_getElem? h)).1
  rw [es] at q
  exact ⟨s, hs, q⟩
theorem NumD.size {α : Type} {f : α → NestedKey} {B : Hp} {us : List α} {ys : List (NestedKey × Addr × V)} (n : NumD B (us.map f) ys) : ys.length = us.length := by
  have e := congrArg List.length n.keys
  rw [List.length_map, List.length_map] at e
  exact e
theorem NumD.row {B : Hp} {us : List (List (List Str × Nat))} {ys : List (NestedKey × Addr × V)} {r : List (List Str × Nat)} (n : NumD B (us.map kR) ys) (nd : us.Nodup) (h : r ∈ us) : valN ys (kR r) = some (.int (ix us r : Nat)) := by
  have nd2 : (us.map kR).Nodup := List.Pairwise.map kR (fun a b m e => m (kR_inj a b e)) nd
  rw [n.get nd2 (List.mem_map.mpr ⟨r, h, rfl⟩)]
  have e : (us.map kR)[ix us r]? = some (kR r) := by rw [List.getElem?_map, idx_get h]; rfl
  rw [idx_of_get nd2 e]
theorem kS_at {B : Hp} {s : List Str} {a : Addr} (h : Dt B (kS s).data (.ref a)) : B a = some (.tup (s.map V.str)) := by
  rw [kS_data] at h
  obtain ⟨t, xs, e, ht, hx⟩ := h
  injection e with e
  subst e
  rw [ht, strs_of hx]
/-- the words so far -/
structure WK (t : Tb Str) (kvs : List (Key × V)) (us : List Str) : Prop where
  keys : kvs.map (·.1) = us.map Sum.inr
  nd : us.Nodup
  sub : ∀ y ∈ us, ∃ s ∈ t.says, y ∈ s
theorem WK.put {t : Tb Str} {kvs : List (Key × V)} {us : List Str} {y : Str} {v : V} (k : WK t kvs us) (h : ∃ s ∈ t.says, y ∈ s) : ∃ us', WK t (putK kvs (Sum.inr y) v) us' ∧ (∀ x ∈ us, x ∈ us') ∧ y ∈ us' := by
  by_cases hy : y ∈ us
  · exact ⟨us, ⟨by rw [putK_keys k.keys, if_pos hy], k.nd, k.sub⟩, fun _ h => h, hy⟩
  · refine ⟨us ++ [y], ⟨by rw [putK_keys k.keys, if_neg hy], List.nodup_append.mpr ⟨k.nd, by simp, fun a ha b hb => ?_⟩, fun x hx => ?_⟩, fun x hx => List.mem_append_left _ hx, List.mem_append_right _ (List.mem_singleton.mpr rfl)⟩
    · rw [List.mem_singleton.mp hb]; intro e; exact hy (e ▸ ha)
    · rcases List.mem_append.mp hx with hx | hx
      · exact k.sub x hx
      · rw [List.mem_singleton.mp hx]; exact h
theorem WK.len {t : Tb Str} {E : Nat} {tx : List Str} {kvs : List (Key × V)} {us : List Str} (k : WK t kvs us) (ok : t.Ok E tx) : kvs.length = us.length ∧ us.length ≤ 60 := by
  have e := congrArg List.length k.keys
  rw [List.length_map, List.length_map] at e
  have q := nodup_le us tx k.nd fun y hy => by
    obtain ⟨s, hs, hm⟩ := k.sub y hy
    exact (Tb.says_good ok hs).2 y hm
  have := ok.t2
  exact ⟨e, by omega⟩
abbrev pkN : List Str := ["table", "saying", "rows", "sayings", "shapes", "words", "said", "word", "texts", "cells", "room", "own", "shape"]
section
variable {P : Program} {w : World} {K : PySem.W.Frag} {mg : Str → Option Value} {base : Heap}
/-! ### pack -/
def spPack (Pt : Addr) : Sp := fun vs H Q _ => ∃ (B : Hp) (v : V) (evs : List PyData) (t : Tb Str) (tx : List Str), vs = [v] ∧ Same B H ∧ B Pt = none ∧ TabS H Pt lq ∧ Dt B (tableD evs t) v ∧ t.Ok evs.length tx ∧
  ∀ (k' : Pk) (ty : List Str) v' B' H', k'.Ok evs.length ty.length → k'.tb ty evs.length = t → Gr (MP Pt) B H B' H' → Dt B' (packD evs ty k'.cells) v' → Q v' H'
theorem scPack : FnScope pkN ["table"] (defScope sPack) := ⟨rfl, rfl, rfl, by decide +kernel, rfl, by decide +kernel, by decide +kernel⟩
theorem ok_pack {f fZ fS fN fH fC c Pt : Addr} {fd fdZ fdS fdN fdH fdC : FuncData} (F : Fun K "pack" "pack" sPack f fd) (T : Blt mg) (AZ : At K mg "frozen_rows" ["table"] sFrozen fZ fdZ) (AS : At K mg "sayings_of" ["saying", "rows"] sSayings fS fdS)
    (AN : At K mg "numbered" ["things"] sNumbered fN fdN) (AH : At K mg "shape_cells" ["shape", "sayings"] sShape fH fdH) (FC : FunC K "common_pair" "common_pair" sCommon fC fdC c) (AC : At K mg "common_pair" ["pairs"] sCommon fC fdC) (TB : TabB base mg c Pt) :
    FnOk P w K mg base CX0 5 f fd ["table"] (spPack Pt) := by
  have GZ : FnOk P w K mg base CX0 1 fZ fdZ ["table"] spFrozen := ok_frozen AZ.fn T
  have GS : FnOk P w K mg base CX0 2 fS fdS ["saying", "rows"] (spSayings P w) := ok_sayings AS.fn T AN
  have GN : FnOk P w K mg base CX0 1 fN fdN ["things"] (spNum P w) := ok_num AN.fn T
  have GH : FnOk P w K mg base CX0 4 fH fdH ["shape", "sayings"] (spShape P w Pt) := ok_shape AH.fn T FC AC TB
  refine F.ok scPack (fun vs H Q E h => ?_) (fun cdv A outer s H vs Q E hr h => ?_)
  · obtain ⟨B, v, evs, t, tx, rfl, _⟩ := h
    rfl
  · obtain ⟨B, v, evs, t, tx, rfl, sm, hPt, hT, dv, ok, kk⟩ := h
    have nd := scPack.nd
    have hr1 : Room 1 _ := hr.mono (by decide)
    have hr2 : Room 2 _ := hr.mono (by decide)
    have hu1 := Nat.lt_of_le_of_lt (Nat.add_le_add_left (by decide : 1 ≤ 64) _) hr.units
    refine ⟨_, pss_cons (ps_asg (pe_call GZ hr1 rfl AZ.mgf AZ.fn.kp AZ.bd .nil pass0 (pa_cons (pv 0) pa_nil)) (pg_tup rfl (pgs_cons (pg_name (i := 1) nd rfl (Or.inl rfl)) (pgs_cons (pg_name (i := 2) nd rfl (Or.inl rfl)) pgs_nil))))
      (pss_cons (ps_set (i := 3) nd rfl (Or.inl rfl) (pe_call GS hr2 rfl AS.mgf AS.fn.kp AS.bd .nil pass0 (pa_cons (pv 1) (pa_cons (pv 2) pa_nil))))
      (pss_cons (ps_set (i := 4) nd rfl (Or.inl rfl) (pe_call GN hr1 rfl AN.mgf AN.fn.kp AN.bd .nil pass0 (pa_cons (pv 2) pa_nil)))
      (pss_cons (ps_set (i := 5) nd rfl (Or.inl rfl) pe_dnewK)
      (pss_cons (ps_for PassesOwn.never rfl (pi_nd (pv 3)) (pg_name (i := 6) nd rfl (Or.inl rfl))
        (pss_one (ps_for PassesOwn.never rfl (pi_tup (pv 6)) (pg_name (i := 7) nd rfl (Or.inl rfl))
          (pss_one (ps_dput hu1 (pv 5) (pv 7) pe_bl (by rfl))))))
      (pss_cons (ps_set (i := 8) nd rfl (Or.inr rfl) (pe_callB (call_sortedD rfl) (by rfl) T.sorted (by decide +kernel) (pa_cons (pv 5) pa_nil)))
      (pss_cons (ps_set (i := 9) nd rfl (Or.inl rfl) (pe_lst (pa_cons (pe_callB call_len_seq (by rfl) T.len PySem.boot_len (pa_cons (pv 2) pa_nil)) (pa_cons (pe_callB call_lenN (by rfl) T.len PySem.boot_len (pa_cons (pv 3) pa_nil)) (pa_cons (pe_callB call_lenN (by rfl) T.len PySem.boot_len (pa_cons (pv 4) pa_nil)) (pa_cons (pe_ndGet hr.units (pv 3) (pv 1) (fun _ _ => rfl)) pa_nil))))))
      (pss_cons (ps_for PassesOwn.never rfl (pi_zip (by rfl) T.zip (pa_cons (pe_ix ix_tup (pv 0) pe_int (fun _ _ => rfl)) (pa_cons (pv 2) pa_nil))) (pg_tup rfl (pgs_cons (pg_name (i := 10) nd rfl (Or.inl rfl)) (pgs_cons (pg_name (i := 11) nd rfl (Or.inl rfl)) pgs_nil)))
        (pss_one (ps_expr (pe_bm PySem.F.plainAttrs_list PySem.F.slot_list_append PySem.F.type_list_append mt_append (pv 9) (pa_cons (pe_op op_add (pe_op op_mul pe_int (pe_ndGet hr.units (pv 4) (pv 11) (fun _ _ => rfl))) (pe_callTy call_int1 (by rfl) T.int (by decide +kernel) (pa_cons (pe_ix ix_tup (pv 10) pe_int (fun _ _ => rfl)) pa_nil))) pa_nil)))))
      (pss_cons (ps_for PassesOwn.never rfl (pi_nd (pv 4)) (pg_name (i := 12) nd rfl (Or.inl rfl))
        (pss_one (ps_expr (pe_bm PySem.F.plainAttrs_list PySem.F.slot_list_extend PySem.F.type_list_extend mt_extend (pv 9) (pa_cons (pe_call GH hr rfl AH.mgf AH.fn.kp AH.bd .nil pass0 (pa_cons (pv 12) (pa_cons (pv 3) pa_nil))) pa_nil)))))
      (pss_cons (ps_for PassesOwn.never rfl (pi_nd (pv 3)) (pg_name (i := 6) nd rfl (Or.inl rfl))
        (pss_one (ps_expr (pe_bm PySem.F.plainAttrs_list PySem.F.slot_list_extend PySem.F.type_list_extend mt_extend (pv 9) (pa_cons
          (pe_op op_cat (pe_lst (pa_cons (pe_callB call_len_seq (by rfl) T.len PySem.boot_len (pa_cons (pv 6) pa_nil)) pa_nil))
            (pe_lc (own := [("word", 7)]) (g := gName 7) (tt := tYes) (te := tBM K "list" (rIndex K) (tVar 8) (tCons (tVar 7) tNil)) (by rfl) nd (pi_tup (pv 6)) (blkOk_by (own := [("word", 7)]) (N := pkN) (sc := defScope sPack) (by decide +kernel))
              (fun _ _ _ _ _ => pg_name (i := 7) nd rfl (Or.inl rfl)) (fun _ _ _ _ _ => pts_nil) (fun _ _ _ _ _ => pe_bm (r := rIndex K) PySem.F.plainAttrs_list PySem.F.slot_list_index PySem.F.type_list_index mt_index (pv 8) (pa_cons (pv 7) pa_nil)))) pa_nil)))))
      (pss_one (ps_ret (pe_tup (pa_cons (pe_callTy (r := rListOf K) call_list_of (by rfl) T.list (by decide +kernel) (pa_cons (pe_ix ix_tup (pv 0) pe_int (fun _ _ => rfl)) pa_nil)) (pa_cons (pv 8) (pa_cons (pv 9) pa_nil))))))))))))))), ?_⟩
    obtain ⟨tt, ve, vs, vr, rfl, htt, dve, dvs, dvr⟩ := dt_triple dv
    obtain ⟨e, es, rfl, he0, hes⟩ := id dve
    obtain ⟨rl0, rs0, rfl, hrl0, hrs0⟩ := id dvr
    -- saying, rows = frozen_rows(table)
    refine ⟨_, rfl, B, .ref tt, evs, t, evs.length, tx, rfl, sm, dv, ok, fun v1 B1 H1 G1 D1 => ?_⟩
    obtain ⟨t1, vk, vl, rfl, ht1, dk, dl⟩ := dt_pair D1
    refine ⟨t1, _, rfl, SqT.of (G1.bh _ _ ht1), rfl, _, _, rfl, _, _, rfl, rfl, ?_⟩
    -- sayings
    refine ⟨_, rfl, _, rfl, B1, vk, vl, t, evs.length, tx, rfl, G1.bh, dk, dl, ok, fun d1 os yS B2 H2 G2 hd1 nS => ?_⟩
    -- shapes
    obtain ⟨rl, rs, rfl, hrl, hrs⟩ := id dl
    obtain ⟨ka, kxs, rfl, hka, _⟩ := id (kS_data t.saying ▸ dk)
    refine ⟨_, rfl, B2, rl, rs, t.rooms.map fun r => kR r.2, rfl, G2.bh, G2.bb _ _ hrl, by rw [List.map_map]; exact DtAll.mono G2.bb _ _ hrs, fun k hk => ?_, by rw [List.length_map]; have := ok.r2; omega, fun d2 oh yH B3 H3 G3 hd2 nH0 => ?_⟩
    · obtain ⟨r, _, rfl⟩ := List.mem_map.mp hk
      exact ⟨Nat.le_trans (kR_depth _) (by decide), _, rfl⟩
    have nH : NumD B3 (t.rows.map kR) yH := by
      have eu := uq_map kR kR_inj (t.rooms.map (·.2)) []
      rw [List.map_nil, List.map_map] at eu
      have e9 : (t.rooms.map fun r => kR r.2) = t.rooms.map (kR ∘ fun x => x.2) := rfl
      rw [e9, eu] at nH0
      exact nH0
    have GA := (G1.tr G2).tr G3
    have hPt3 := GA.pn hT hPt
    have hT3 := GA.tab hT
    have dk3 := Dt.mono (G2.tr G3).bb _ _ dk
    have hrl3 := (G2.tr G3).bb _ _ hrl
    have hrs3 := DtAll.mono (G2.tr G3).bb _ _ hrs
    have hd13 := G3.bb _ _ hd1
    have nS3 := nS.mono G3.bb
    have htt3 := GA.bb _ _ htt
    have he3 := GA.bb _ _ he0
    have hes3 := DtAll.mono GA.bb _ _ hes
    have hrl03 := GA.bb _ _ hrl0
    have hrs03 := DtAll.mono GA.bb _ _ hrs0
    clear dl dk hrl hrs hd1 nS nH0 hka hrl0 hrs0 dve dvr dv dvs he0 hes htt D1 ht1
    have lS := nS3.size
    have lH := nH.size
    have bS := Tb.says_len ok
    have bH := Tb.rows_len ok
    have bR := ok.r2
    have bE := ok.e2
    -- words
    refine fun dw hdw => ?_
    have nBw : B3 dw = none := GA.bh.free hdw
    refine ⟨_, rfl, d1, os, yS, rfl, ((Gr.refl (M := M0) GA.bh).nwM hdw).bh _ _ hd13, for_nd (fun i σ H' => ∃ (kvs : List (Key × V)) (us : List Str) (x6 x7 : Option V), σ = [some (.ref tt), some (.ref ka), some (.ref rl), some (.ref d1), some (.ref d2), some (.ref dw), x6, x7, none, none, none, none, none] ∧ Gr M0 B3 H3 B3 H' ∧ H' dw = some (.dK kvs) ∧ WK t kvs us ∧
        ∀ (j : Nat) s, j < i → t.says[j]? = some s → ∀ y ∈ s, y ∈ us)
      ⟨[], [], none, none, rfl, (Gr.refl GA.bh).nwM hdw, upd_same, ⟨rfl, List.nodup_nil, (fun y hy => by cases hy)⟩, (fun j s hj => absurd hj (Nat.not_lt_zero _))⟩ (fun i σ H' _ ⟨kvs, us, x6, x7, _, G, _⟩ => G.bh _ _ hd13) ?_ ?_⟩
    · rintro i p σ H4 hp ⟨kvs, us, x6, x7, rfl, G4, hW4, wk, pr⟩
      obtain ⟨s, hs, dps⟩ := nS3.nth hp
      have hps := kS_at dps
      have hsm := List.mem_of_getElem? hs
      refine ⟨_, rfl, p.2.1, rfl, ⟨_, SqT.of (G4.bh _ _ hps)⟩, for_it (walk_tup (K := K) (a := p.2.1) (xs := s.map V.str)) (fun j σ H' => ∃ (kvs : List (Key × V)) (us : List Str) (x7 : Option V), σ = [some (.ref tt), some (.ref ka), some (.ref rl), some (.ref d1), some (.ref d2), some (.ref dw), some (.ref p.2.1), x7, none, none, none, none, none] ∧ Gr M0 B3 H3 B3 H' ∧ H' dw = some (.dK kvs) ∧ WK t kvs us ∧
          (∀ (j : Nat) s, j < i → t.says[j]? = some s → ∀ y ∈ s, y ∈ us) ∧ ∀ y ∈ s.take j, y ∈ us)
        ⟨kvs, us, x7, rfl, G4, hW4, wk, pr, (fun y hy => by cases hy)⟩ (fun j σ H' _ ⟨kvs, us, x7, _, G, _⟩ => SqT.of (G.bh _ _ hps)) ?_ ?_⟩
      · rintro j x σ H5 H5' hj ⟨kvs, us, x7, rfl, G5, hW5, wk, pr, pr2⟩ ⟨rfl, hx⟩
        obtain ⟨y, hy, rfl⟩ := map_get hx
        obtain ⟨us', wk', m1, m2⟩ := wk.put (v := .bl true) ⟨s, hsm, List.mem_of_getElem? hy⟩
        have wl := wk.len ok
        refine ⟨_, rfl, _, rfl, dw, _, rfl, DPut.k (k := .inr y) hW5 (Nat.lt_of_le_of_lt (by omega : kvs.length ≤ 1000) (by decide)), _, us', _, rfl, G5.wr nBw (.inr hdw), upd_same, wk', (fun j s hj hs y hy => m1 y (pr j s hj hs y hy)), fun z hz => ?_⟩
        rw [List.take_add_one, hy] at hz
        rcases List.mem_append.mp hz with hz | hz
        · exact m1 z (pr2 z hz)
        · have e0 : z = y := by simpa using hz
          rw [e0]; exact m2
      · rintro σ H5 ⟨kvs, us, x7, rfl, G5, hW5, wk, pr, pr2⟩
        refine ⟨kvs, us, _, _, rfl, G5, hW5, wk, fun j s' hj hs' => ?_⟩
        by_cases hji : j = i
        · rw [hji, hs] at hs'
          injection hs' with hs'
          rw [← hs']
          rw [List.length_map, List.take_length] at pr2
          exact pr2
        · exact pr j s' (by omega) hs'
    · rintro σ H4 ⟨kvs, us, x6, x7, rfl, G4, hW4, wk, pr⟩
      have wl := wk.len ok
      refine ⟨_, rfl, dw, kvs, us, rfl, .inl hW4, wk.keys, by omega, fun ty lt perm srt hlt => ?_⟩
      have tynd : ty.Nodup := perm.nodup_iff.mpr wk.nd
      have tymem : ∀ y, y ∈ ty ↔ ∃ s ∈ t.says, y ∈ s := fun y => by
        rw [perm.mem_iff]
        refine ⟨wk.sub y, fun ⟨s, hs, hy⟩ => ?_⟩
        obtain ⟨j, hj, ej⟩ := List.getElem_of_mem hs
        exact pr j s (by rw [lS]; exact hj) (by rw [List.getElem?_eq_getElem hj, ej]) y hy
      have N4 := G4.nw (o := .lst (ty.map V.str)) hlt
      have hlt4 : (upd B3 lt (.lst (ty.map V.str))) lt = some (.lst (ty.map V.str)) := upd_same
      generalize upd B3 lt (.lst (ty.map V.str)) = B4 at N4 hlt4
      generalize upd H4 lt (.lst (ty.map V.str)) = H5 at N4
      have hd14 := N4.bb _ _ hd13
      have hd24 := N4.bb _ _ hd2
      have nS4 := nS3.mono N4.bb
      have nH4 := nH.mono N4.bb
      have hPt4 := N4.pn hT3 hPt3
      have hT5 := N4.tab hT3
      have htt4 := N4.bb _ _ htt3
      have he4 := N4.bb _ _ he3
      have hes4 := DtAll.mono N4.bb _ _ hes3
      have hrl4 := N4.bb _ _ hrl3
      have hrs4 := DtAll.mono N4.bb _ _ hrs3
      have hrl04 := N4.bb _ _ hrl03
      have hrs04 := DtAll.mono N4.bb _ _ hrs03
      have dk4 := Dt.mono N4.bb _ _ dk3
      have lrs := hrs4.len
      have lrs0 := hrs04.len
      rw [List.length_map] at lrs lrs0
      have askS : ∀ {B' H' : Hp} {b : Addr} {s : List Str}, Same B4 B' → Same B' H' → Dt B4 (kS s).data (.ref b) → NdAsk P w H' (.ref d1) (.ref b) d1 b os yS (kS s) := fun s1 s2 q => ⟨rfl, rfl, s2 _ _ (s1 _ _ hd14), nS4.std.mono (fun c o z => s2 c o (s1 c o z)), Dt.mono s2 _ _ (Dt.mono s1 _ _ q), Nat.le_trans (kS_depth _) (by decide)⟩
      have askH : ∀ {B' H' : Hp} {b : Addr} {r : List (List Str × Nat)}, Same B4 B' → Same B' H' → Dt B4 (kR r).data (.ref b) → NdAsk P w H' (.ref d2) (.ref b) d2 b oh yH (kR r) := fun s1 s2 q => ⟨rfl, rfl, s2 _ _ (s1 _ _ hd24), nH4.std.mono (fun c o z => s2 c o (s1 c o z)), Dt.mono s2 _ _ (Dt.mono s1 _ _ q), Nat.le_trans (kR_depth _) (by decide)⟩
      -- cells
      refine ⟨_, rfl, rl, _, rfl, .inl (SqL.of (N4.bh _ _ hrl4)), _, rfl, d1, os, yS, rfl, N4.bh _ _ hd14, _, rfl, d2, oh, yH, rfl, N4.bh _ _ hd24, _, rfl, _, rfl, d1, ka, os, yS, kS t.saying, _, askS (fun _ _ z => z) N4.bh dk4, nS4.says Tb.says_nd Tb.say_in, (by show 4 ≤ sizeLine; decide), fun l hl => ?_⟩
      have e0 : [V.int (rs.length : Nat), V.int (yS.length : Nat), V.int (yH.length : Nat), V.int (ix t.says t.saying : Nat)] = (t.hd 0).map V.int := by
        rw [← lrs, lS, lH]; rfl
      refine upd_eqL (fun Hx => gName 9 (.ref l) _ Hx _) e0 ?_
      have nBl : B4 l = none := N4.bh.free hl
      have nlP : l ≠ Pt := fun z => by obtain ⟨q, e, _⟩ := hT5; rw [← z, hl] at e; cases e
      -- for room, own in zip
      refine ⟨_, rfl, tt, _, _, _, rfl, rfl, SqT.of (((Gr.refl (M := M0) N4.bh).nwM hl).bh _ _ htt4), atI_i (j := 2) rfl rfl, _, rfl, rl0, rl, rs0, rs, rfl, SqL.of (((Gr.refl (M := M0) N4.bh).nwM hl).bh _ _ hrl04), SqL.of (((Gr.refl (M := M0) N4.bh).nwM hl).bh _ _ hrl4),
        for_it (walk_zip (K := K) (a := rl0) (b := rl) (xs := rs0) (ys := rs) (n := t.rooms.length) (by omega)) (fun i σ H' => ∃ (x10 x11 : Option V), σ = [some (.ref tt), some (.ref ka), some (.ref rl), some (.ref d1), some (.ref d2), some (.ref dw), x6, x7, some (.ref lt), some (.ref l), x10, x11, none] ∧ Gr M0 B4 H5 B4 H' ∧ H' l = some (.lst ((t.hd i).map V.int)))
        ⟨none, none, rfl, (Gr.refl N4.bh).nwM hl, upd_same⟩ (fun i σ H' _ ⟨x, y, _, G, _⟩ => ⟨SqL.of (G.bh _ _ hrl04), SqL.of (G.bh _ _ hrl4)⟩) ?_ ?_⟩
      · rintro i v σ H6 H6' hi ⟨x10, x11, rfl, G6, hL6⟩ ⟨T', a1, a2, rfl, hT', rfl, e1, e2⟩
        have e1 : rs0[i]? = some a1 := e1
        have e2 : rs[i]? = some a2 := e2
        have hr0 : t.rooms[i]? = some t.rooms[i] := List.getElem?_eq_getElem hi
        generalize t.rooms[i] = r at hr0
        obtain ⟨q1, hq1, dq1⟩ := hrs04.at e1
        obtain ⟨r1, hr1, rfl⟩ := map_get hq1
        rw [hr0] at hr1
        injection hr1 with hr1
        subst hr1
        obtain ⟨q2, hq2, dq2⟩ := hrs4.at e2
        obtain ⟨r1, hr1, rfl⟩ := map_get hq2
        rw [hr0] at hr1
        injection hr1 with hr1
        subst hr1
        obtain ⟨ra, z1, z2, rfl, hra, dz1, dz2⟩ := dt_pair dq1
        obtain rfl : z1 = V.bl _ := dz1
        obtain ⟨rb, rbx, rfl, hrb, _⟩ := id (kR_data r.2 ▸ dq2)
        have hrin : r.2 ∈ t.rows := (Tb.mem_rows _).mpr ⟨r, List.mem_of_getElem? hr0, rfl⟩
        have G7 := G6.nwM (o := .tup [.ref ra, .ref rb]) hT'
        have hL7 : (upd H6 T' (.tup [.ref ra, .ref rb])) l = some (.lst ((t.hd i).map V.int)) := by rw [upd_ne (ne_of_none hL6 hT')]; exact hL6
        refine ⟨T', _, rfl, SqT.of upd_same, rfl, _, _, rfl, _, _, rfl, rfl, ?_⟩
        generalize upd H6 T' (.tup [.ref ra, .ref rb]) = H7 at G7 hL7
        have bh := Tb.hd_len ok i
        refine ⟨_, rfl, .inl ⟨rfl, _, SqL.of hL7⟩, _, rfl, _, rfl, d2, rb, oh, yH, kR r.2, _, askH (fun _ _ z => z) G7.bh dq2, nH4.row Tb.rows_nd hrin, _, _, rfl, rfl, .inl ⟨by decide, by decide⟩, _, rfl, ra, _, _, _, rfl, rfl, SqT.of (G7.bh _ _ hra), atI_i (j := 0) rfl rfl, .inr ⟨_, rfl, _, _, rfl, rfl, l, _, _, rfl, rfl, hL7, Nat.lt_of_le_of_lt (by rw [List.length_map]; omega : _ ≤ 1000) (by decide), ?_⟩⟩
        refine ⟨_, _, rfl, G7.wr nBl (.inr hl), ?_⟩
        rw [upd_same]
        refine congrArg (fun z => some (HO.lst z)) ?_
        unfold Tb.hd
        rw [List.take_add_one, hr0]
        simp [roomCell]
      · rintro σ H6 ⟨x10, x11, rfl, G6, hL6⟩
        -- for shape in shapes
        refine ⟨_, rfl, d2, oh, yH, rfl, G6.bh _ _ hd24, for_nd (fun i σ H' => ∃ (B' : Hp) (shs : List Sh) (x12 : Option V), σ = [some (.ref tt), some (.ref ka), some (.ref rl), some (.ref d1), some (.ref d2), some (.ref dw), x6, x7, some (.ref lt), some (.ref l), x10, x11, x12] ∧ Gr (MP Pt) B4 H5 B' H' ∧ B' l = none ∧ TabS H' Pt lq ∧ shs.length = i ∧
            (∀ (j : Nat) row, j < i → t.rows[j]? = some row → ∃ c, c ∈ pairs t.says row ∧ shs[j]? = some (mkSh (pairs t.says row) c)) ∧ (∀ s ∈ shs, s.cells.length ≤ 62) ∧ H' l = some (.lst ((t.hd t.rooms.length ++ (shs.map Sh.cells).flatMap block).map V.int)))
          ⟨B4, [], none, rfl, G6.toP, nBl, G6.tab hT5, rfl, (fun j row hj => absurd hj (Nat.not_lt_zero _)), (fun s hs => by cases hs), (by rw [hL6]; simp)⟩ (fun i σ H' _ ⟨B', shs, x12, _, G, _⟩ => G.bh _ _ (G.bb _ _ hd24)) ?_ ?_⟩
        · rintro i p σ H7 hp ⟨B', shs, x12, rfl, G7, hB7, hT7, hsl, hsc, hsz, hL7⟩
          obtain ⟨row, hrow, dps⟩ := nH4.nth hp
          obtain ⟨rE, rne, rin⟩ := Tb.row_good ok (List.mem_of_getElem? hrow)
          have hil := (List.getElem?_eq_some_iff.mp hrow).1
          refine ⟨_, rfl, .inl ⟨rfl, _, SqL.of hL7⟩, _, rfl, _, rfl, B', .ref p.2.1, d1, os, yS, t.says, row, rfl, G7.bh, G7.pn hT5 hPt4, hT7, Dt.mono G7.bb _ _ dps, G7.bb _ _ hd14, nS4.mono G7.bb, Tb.says_nd, rin, rne, by omega, fun c v' B8 H8 hc G8 hT8 d8 => ?_⟩
          obtain ⟨q, rfl, hq⟩ := dt_iL d8
          have hL8 : H8 l = some (.lst ((t.hd t.rooms.length ++ (shs.map Sh.cells).flatMap block).map V.int)) := G8.hh _ _ nlP hL7
          have hB8 : B8 l = none := G8.bnone hB7 (nn hL7)
          have bc : (mkSh (pairs t.says row) c).cells.length ≤ 62 := by
            rw [Sh.len]
            have := mkTs_len c (pairs t.says row) 0
            have pl : (pairs t.says row).length = row.length := by unfold pairs; rw [List.length_map]
            show 2 + 3 * (mkTs c 0 (pairs t.says row)).length ≤ 62
            omega
          have bh := Tb.hd_len ok t.rooms.length
          have bb := blk_len 62 (shs.map Sh.cells) (fun b hb => by obtain ⟨s, hs, rfl⟩ := List.mem_map.mp hb; exact hsz s hs)
          rw [List.length_map, hsl] at bb
          have bz : ((t.hd t.rooms.length ++ (shs.map Sh.cells).flatMap block).map V.int).length + ((block (mkSh (pairs t.says row) c).cells).map V.int).length ≤ 2000 := by
            rw [List.length_map, List.length_map, List.length_append]
            have h3 : (block (mkSh (pairs t.says row) c).cells).length = (mkSh (pairs t.says row) c).cells.length + 1 := rfl
            omega
          refine ⟨l, q, _, _, rfl, rfl, hL8, G8.bh _ _ hq, Nat.le_trans bz (by decide), ?_⟩
          refine ⟨B8, shs ++ [mkSh (pairs t.says row) c], _, rfl, (G7.tr G8).wr hB8 (.inr hl), hB8, ?_, by rw [List.length_append, hsl]; rfl, fun j row' hj hrow' => ?_, fun s hs => ?_, ?_⟩
          · obtain ⟨q9, f1, f2, f3⟩ := hT8
            refine ⟨q9, by rw [upd_ne (Ne.symm nlP)]; exact f1, f2, fun pos cv hcv => ?_⟩
            obtain ⟨c0, g1, g2⟩ := f3 pos cv hcv
            refine ⟨c0, g1, ?_⟩
            by_cases hcl : c0 = l
            · rw [hcl, hL8] at g2
              exact absurd (Option.some.inj g2) (by unfold CodeO; intro z; cases z)
            · rw [upd_ne hcl]; exact g2
          · by_cases hji : j = i
            · rw [hji, hrow] at hrow'
              injection hrow' with hrow'
              subst hrow'
              exact ⟨c, hc, by rw [hji, List.getElem?_append_right (by omega), hsl]; simp⟩
            · obtain ⟨c', hc', hs'⟩ := hsc j row' (by omega) hrow'
              exact ⟨c', hc', by rw [List.getElem?_append_left (by omega)]; exact hs'⟩
          · rcases List.mem_append.mp hs with hs | hs
            · exact hsz s hs
            · rw [List.mem_singleton.mp hs]; exact bc
          · rw [upd_same]
            refine congrArg (fun z => some (HO.lst z)) ?_
            rw [← List.map_append, List.map_append (f := Sh.cells), List.flatMap_append]
            simp
        · rintro σ H7 ⟨B', shs, x12, rfl, G7, hB7, hT7, hsl, hsc, hsz, hL7⟩
          have hshl : shs.length = t.rows.length := by rw [hsl, lH]
          have bh := Tb.hd_len ok t.rooms.length
          have bb := blk_len 62 (shs.map Sh.cells) (fun b hb => by obtain ⟨s, hs, rfl⟩ := List.mem_map.mp hb; exact hsz s hs)
          rw [List.length_map, hshl] at bb
          -- for said in sayings
          refine ⟨_, rfl, d1, os, yS, rfl, G7.bh _ _ (G7.bb _ _ hd14), for_nd (fun i σ H' => ∃ (B' : Hp) (x6 : Option V), σ = [some (.ref tt), some (.ref ka), some (.ref rl), some (.ref d1), some (.ref d2), some (.ref dw), x6, x7, some (.ref lt), some (.ref l), x10, x11, x12] ∧ Gr (MP Pt) B4 H5 B' H' ∧ B' l = none ∧
              H' l = some (.lst ((t.hd t.rooms.length ++ (shs.map Sh.cells).flatMap block ++ ((t.says.take i).map fun s => nats (s.map (ix ty))).flatMap block).map V.int)))
            ⟨B', x6, rfl, G7, hB7, by rw [hL7]; simp⟩ (fun i σ H' _ ⟨B', x6, _, G, _⟩ => G.bh _ _ (G.bb _ _ hd14)) ?_ ?_⟩
          · rintro i p σ H8 hp ⟨B8, x6', rfl, G8, hB8, hL8⟩
            obtain ⟨s, hs, dps⟩ := nS4.nth hp
            have hps := kS_at dps
            have hsm := List.mem_of_getElem? hs
            have hil := (List.getElem?_eq_some_iff.mp hs).1
            obtain ⟨sl20, _⟩ := Tb.says_good ok hsm
            have hps8 := G8.bh _ _ (G8.bb _ _ hps)
            refine ⟨_, rfl, .inl ⟨rfl, _, SqL.of hL8⟩, _, rfl, p.2.1, _, rfl, .inr (SqT.of hps8), (by show 1 ≤ sizeLine; decide), fun q hq => ?_⟩
            have N9 := Gr.new (M := M0) (o := .lst [.int ((s.map V.str).length : Nat)]) G8.bh hq
            have hq9 : (upd B8 q (.lst [.int ((s.map V.str).length : Nat)])) q = some (.lst [.int ((s.map V.str).length : Nat)]) := upd_same
            generalize upd H8 q (.lst [.int ((s.map V.str).length : Nat)]) = H9 at N9
            generalize upd B8 q (.lst [.int ((s.map V.str).length : Nat)]) = B9 at N9 hq9
            have GB9 := G8.tr N9.toP
            refine ⟨_, rfl, p.2.1, rfl, ⟨_, SqT.of (N9.bh _ _ (GB9.bb _ _ hps))⟩, lc_dtW (walk_tup (K := K) (a := p.2.1) (xs := s.map V.str)) (B := B9) (M := M0) ((nats (s.map (ix ty))).map .int) N9.bh (fun B2 H2 G2 => SqT.of (G2.bh _ _ (G2.bb _ _ (GB9.bb _ _ hps)))) noM (by unfold nats; simp) (by rw [List.length_map]; omega) (fun j y dd B2 H2 H2' hj hd2' G2 hY R hR => ?_) (fun D B10 H10 G10 dD => ?_)⟩
            · obtain ⟨rfl, hy⟩ := hY
              obtain ⟨yy, hyy, rfl⟩ := map_get hy
              have hyin : yy ∈ ty := (tymem yy).mpr ⟨s, hsm, List.mem_of_getElem? hyy⟩
              obtain ⟨n9, hn9, rfl⟩ := map_get hd2'
              unfold nats at hn9
              obtain ⟨n8, hn8, rfl⟩ := map_get hn9
              obtain ⟨y8, hy8, rfl⟩ := map_get hn8
              rw [hyy] at hy8
              injection hy8 with hy8
              subst hy8
              have hltH : H2' lt = some (.lst (ty.map V.str)) := G2.bh _ _ (G2.bb _ _ (GB9.bb _ _ hlt4))
              refine ⟨rfl, _, rfl, .inl ⟨rfl, _, SqL.of hltH⟩, _, rfl, lt, ty.map V.str, .str yy, ix ty yy, .str yy, rfl, rfl, SqL.of hltH, rfl, by simp [List.all_map, flatV], by rw [List.getElem?_map, idx_get hyin]; rfl, by simp [eqV], fun m z' hm hz' => ?_, hR _ _ _ (Gr.refl G2.bh) rfl⟩
              obtain ⟨z9, hz9, rfl⟩ := map_get hz'
              have hne : z9 ≠ yy := fun q => by
                rw [q] at hz9
                have := idx_of_get tynd hz9
                omega
              simp [eqV, hne]
            · obtain ⟨_, eD, hD⟩ := dt_iL dD
              injection eD with eD
              subst eD
              refine ⟨q, D, _, _, rfl, rfl, G10.bh _ _ (G10.bb _ _ hq9), G10.bh _ _ hD, ?_, fun u hu => ?_⟩
              · have hln : ((nats (s.map (ix ty))).map V.int).length = s.length := by unfold nats; rw [List.length_map, List.length_map, List.length_map]
                rw [hln]
                exact Nat.le_trans (by show 1 + s.length ≤ 1000; omega) (by decide : 1000 ≤ sizeLine)
              have N11 := (GB9.tr G10.toP).nwM (o := .lst ([V.int ((s.map V.str).length : Nat)] ++ (nats (s.map (ix ty))).map V.int)) hu
              have hL10 : H10 l = some (.lst ((t.hd t.rooms.length ++ (shs.map Sh.cells).flatMap block ++ ((t.says.take i).map fun s => nats (s.map (ix ty))).flatMap block).map V.int)) := G10.hh _ _ (fun z => z) (N9.hh _ _ (fun z => z) hL8)
              have hL11 : (upd H10 u (.lst ([V.int ((s.map V.str).length : Nat)] ++ (nats (s.map (ix ty))).map V.int))) l = some (.lst ((t.hd t.rooms.length ++ (shs.map Sh.cells).flatMap block ++ ((t.says.take i).map fun s => nats (s.map (ix ty))).flatMap block).map V.int)) := by rw [upd_ne (ne_of_none hL10 hu)]; exact hL10
              have hB10 : B10 l = none := (N9.tr G10).bnone hB8 (nn hL8)
              have b9 := blk_len 20 ((t.says.take i).map fun s => nats (s.map (ix ty))) (fun b hb => by
                obtain ⟨s', hs', rfl⟩ := List.mem_map.mp hb
                unfold nats
                rw [List.length_map, List.length_map]
                exact (Tb.says_good ok (List.mem_of_mem_take hs')).1)
              rw [List.length_map, List.length_take] at b9
              refine ⟨l, u, _, _, rfl, rfl, hL11, upd_same, ?_, ?_⟩
              · have hln : ((nats (s.map (ix ty))).map V.int).length = s.length := by unfold nats; rw [List.length_map, List.length_map, List.length_map]
                rw [List.length_map, List.length_append, List.length_append, List.length_append, hln]
                refine Nat.le_trans (?_ : _ ≤ 20000) (by decide)
                show _ + (1 + _) ≤ 20000
                omega
              · refine ⟨B10, _, rfl, N11.wr hB10 (.inr hl), hB10, ?_⟩
                rw [upd_same]
                refine congrArg (fun z => some (HO.lst z)) ?_
                rw [List.take_add_one, hs, List.map_append (f := fun s : List Str => nats (s.map (ix ty))), List.flatMap_append]
                simp [block, nats]
          · rintro σ H8 ⟨B8, x6', rfl, G8, hB8, hL8⟩
            rw [lS, List.take_length, ← Tb.pk_cells shs ty hshl] at hL8
            have F8 := G8.fz hl hB8 hL8
            have S8 := Same.new (o := .lst ((t.pk shs ty).cells.map V.int)) hB8
            have hl8 : (upd B8 l (.lst ((t.pk shs ty).cells.map V.int))) l = some (.lst ((t.pk shs ty).cells.map V.int)) := upd_same
            generalize upd B8 l (.lst ((t.pk shs ty).cells.map V.int)) = B9 at F8 S8 hl8
            refine ⟨_, rfl, tt, _, _, _, rfl, rfl, SqT.of (F8.bh _ _ (F8.bb _ _ htt4)), atI_i (j := 0) rfl rfl, e, _, rfl, .inl (SqL.of (F8.bh _ _ (F8.bb _ _ he4))), fun l1 hl1 => ?_⟩
            have N9 := Gr.new (M := M0) (o := .lst es) F8.bh hl1
            have hl19 : (upd B9 l1 (.lst es)) l1 = some (.lst es) := upd_same
            generalize upd B9 l1 (.lst es) = B10 at N9 hl19
            generalize upd H8 l1 (.lst es) = H9 at N9
            refine ⟨_, rfl, _, rfl, (by show 3 ≤ sizeLine; decide), fun q hq => ?_⟩
            have N10 := Gr.new (M := M0) (o := .tup [.ref l1, .ref lt, .ref l]) N9.bh hq
            have fin := Tb.pk_ok ok hshl (fun i row hrow => hsc i row (by rw [lH]; exact (List.getElem?_eq_some_iff.mp hrow).1) hrow) tymem tynd
            have GG := F8.tr (N9.tr N10).toP
            refine kk (t.pk shs ty) ty _ _ _ fin.1 fin.2 (((GA.tr N4).toP.tr GG)) (tup3 upd_same ⟨l1, es, rfl, N10.bb _ _ hl19, DtAll.mono GG.bb _ _ hes4⟩ (sL_of (GG.bb _ _ hlt4)) (iL_of (N10.bb _ _ (N9.bb _ _ hl8))))
end
end Mill

namespace Mill
open PySem PySem.Spec PyProof.Rows L2 LamX NdefX
theorem Rd.keep {H H' : Hp} {a : Addr} {u : HO} (r : Rd H a u) (h : ∀ o, H a = some o → H' a = some o) : Rd H' a u := r.elim (fun q => .inl (h _ q)) fun ⟨o, q⟩ => .inr ⟨o, h _ q⟩
theorem SqL.keep {K : PySem.W.Frag} {H H' : Hp} {a : Addr} {xs : List V} (r : SqL K H a xs) (h : ∀ o, H a = some o → H' a = some o) : SqL K H' a xs := r.elim (fun q => .inl (Rd.keep q h)) .inr
theorem Gr.sq {K : PySem.W.Frag} {M : Addr → Prop} {B H B1 H1 : Hp} {a : Addr} {xs : List V} (g : Gr M B H B1 H1) (r : SqL K H a xs) (n : ¬ M a) : SqL K H1 a xs := SqL.keep r fun o e => g.hh _ _ n e
theorem Gr.put1 {B H : Hp} {p : Addr} {o : HO} (s : Same B H) (h : B p = none) : Gr (fun b => b = p) B H B (upd H p o) := Gr.put s h
theorem dp_ints {K : PySem.W.Frag} {H : Hp} : ∀ ns : List Int, DpAll K H (ns.map V.int) (ns.map PyData.int)
  | [] => .nil
  | n :: ns => .cons (.int n) (dp_ints ns)
section
variable {P : Program} {w : World} {K : PySem.W.Frag} {mg : Str → Option Value} {base : Heap}
/-! ### _law_cell -/
def spCell (K : PySem.W.Frag) : Sp := fun vs H Q _ => ∃ (a : Addr) (ns : List Int) (k m : Int), vs = [.ref a, .int k, .int m] ∧ SqL K H a (ns.map V.int) ∧ 0 ≤ k ∧ k ≤ 1000 ∧ 0 ≤ m ∧ m ≤ 1 ∧ ∀ r H', Same H H' → Q (.int r) H'
theorem scCell : FnScope ["script", "k", "mixed"] ["script", "k", "mixed"] (defScope lCell) := ⟨rfl, rfl, rfl, by decide +kernel, rfl, by decide +kernel, by decide +kernel⟩
theorem ok_cell {f : Addr} {fd : FuncData} (F : Fun K "_law_cell" "_law_cell" lCell f fd) (T : Blt mg) (hmin : mg "min" = none) : FnOk P w K mg base CX0 1 f fd ["script", "k", "mixed"] (spCell K) := by
  refine F.ok scCell (fun vs H Q E h => ?_) (fun cdv A outer s H vs Q E hr h => ?_)
  · obtain ⟨a, ns, k, m, rfl, _⟩ := h
    rfl
  · obtain ⟨a, ns, k, m, rfl, hs, k0, k1, m0, m1, kk⟩ := h
    refine ⟨_, pss_cons (ps_if (pt_cmpR (op_eqD hr.units) (pv 0) (pe_lst pa_nil) (nomark _)) (pss_one (ps_ret (pe_op op_mul (pv 2) (pv 1)))) pss_nil)
      (pss_one (ps_ret (pe_op op_add (pe_ix ix_list (pv 0) (pe_op op_mod (pv 1) (pe_callB (call_min2 rfl) (by rfl) T.min (by decide +kernel) (pa_cons pe_int (pa_cons (pe_callB call_len_seq (by rfl) T.len PySem.boot_len (pa_cons (pv 0) pa_nil)) pa_nil)))) (fun _ _ => rfl)) (pe_op op_mul (pv 2) (pv 1))))), ?_⟩
    refine ⟨_, rfl, Nat.zero_le _, fun q hq => ?_⟩
    have e1 : Same H (upd H q (.lst [])) := fun b o e => by rw [upd_ne (ne_of_none e hq)]; exact e
    have hs1 : SqL K (upd H q (.lst [])) a (ns.map V.int) := SqL.keep hs fun o e => e1 _ _ e
    refine ⟨.list (ns.map .int), .list [], .lst hs1 (dp_ints ns), .lst (SqL.of upd_same) .nil, PySem.W.shaped_ints ns, rfl, _, rfl, ?_⟩
    refine ite2 (fun _ => ?_) (fun hne => ?_)
    · exact ⟨_, rfl, _, rfl, _, _, rfl, rfl, .inl ⟨by omega, by omega⟩, kk _ _ e1⟩
    · have hpos : 0 < ns.length := by
        cases ns with
        | nil => exact absurd rfl hne
        | cons x r => exact Nat.succ_pos _
      have hlm : (ns.map V.int).length = ns.length := List.length_map ..
      refine ⟨_, rfl, _, rfl, _, rfl, a, _, rfl, .inl hs1, _, _, rfl, ?_⟩
      have hmn : ∃ mn : Int, (if ((ns.map V.int).length : Int) < 63 then ((ns.map V.int).length : Int) else 63) = mn ∧ 0 < mn ∧ mn ≤ ns.length := by
        refine ⟨_, rfl, ?_, ?_⟩ <;> split <;> omega
      obtain ⟨mn, emn, mn0, mn1⟩ := hmn
      rw [emn]
      have b1 := Int.emod_nonneg k (show mn ≠ 0 by omega)
      have b2 := Int.emod_lt_of_pos k mn0
      have b3 : (k % mn).toNat < ns.length := by omega
      refine ⟨_, _, rfl, rfl, mn0, a, _, _, .int ns[(k % mn).toNat], rfl, rfl, hs1, atI_i (j := (k % mn).toNat) (by omega) (map_at (List.getElem?_eq_getElem b3)), _, rfl, _, rfl, _, _, rfl, rfl, .inl ⟨by omega, by omega⟩, _, _, rfl, rfl, kk _ _ e1⟩
/-! ### _law_events -/
def EvOk (e : PyData) : Prop := e.canLay0 = true ∧ e.depth ≤ 8
def spEvents : Sp := fun vs H Q _ => ∃ (B : Hp) (st : Addr) (a m : Int), vs = [.ref st] ∧ Same B H ∧ B st = none ∧ H st = some (.lst [.int a, .int m]) ∧
  ∀ (evs : List PyData) v' B' H' (a' : Int), 1 ≤ evs.length → evs.length ≤ 20 → (∀ e ∈ evs, EvOk e) → Gr (fun b => b = st) B H B' H' → H' st = some (.lst [.int a', .int m]) → Dt B' (.list evs) v' → Q v' H'
theorem scEvents : FnScope ["state", "keys", "words", "key", "word"] ["state"] (defScope lEvents) := ⟨rfl, rfl, rfl, by decide +kernel, rfl, by decide +kernel, by decide +kernel⟩
theorem ok_events {f fT : Addr} {fd fdT : FuncData} (F : Fun K "_law_events" "_law_events" lEvents f fd) (T : Blt mg) (AT : At K mg "_law_take" ["state", "many"] lTake fT fdT) : FnOk P w K mg base CX0 2 f fd ["state"] spEvents := by
  have GT : FnOk P w K mg base CX0 1 fT fdT ["state", "many"] spTake := ok_take AT.fn
  refine F.ok scEvents (fun vs H Q E h => ?_) (fun cdv A outer s H vs Q E hr h => ?_)
  · obtain ⟨B, st, a, m, rfl, _⟩ := h
    rfl
  · obtain ⟨B, st, a, m, rfl, sm, hB, hst, kk⟩ := h
    have nd := scEvents.nd
    refine ⟨_, pss_cons (ps_set (i := 1) nd rfl (Or.inl rfl) (pe_ix ix_list (pe_lst (pa_cons (pe_lst pa_nil) (pa_cons (pe_lst (pa_cons pe_int pa_nil)) (pa_cons (pe_lst (pa_cons pe_int (pa_cons pe_int pa_nil))) (pa_cons (pe_lst (pa_cons pe_int (pa_cons pe_int (pa_cons pe_int pa_nil)))) pa_nil)))))
          (pe_call GT hr rfl AT.mgf AT.fn.kp AT.bd .nil pass0 (pa_cons (pv 0) (pa_cons pe_int pa_nil))) (fun _ _ => rfl)))
      (pss_cons (ps_set (i := 2) nd rfl (Or.inl rfl) (pe_ix ix_list (pe_lst (pa_cons (pe_lst pa_nil) (pa_cons (pe_lst (pa_cons pe_str pa_nil)) (pa_cons (pe_lst (pa_cons pe_str (pa_cons pe_str pa_nil))) (pa_cons (pe_lst (pa_cons pe_str (pa_cons pe_str (pa_cons pe_str pa_nil)))) pa_nil)))))
          (pe_call GT hr rfl AT.mgf AT.fn.kp AT.bd .nil pass0 (pa_cons (pv 0) (pa_cons pe_int pa_nil))) (fun _ _ => rfl)))
      (pss_one (ps_ret (pe_op op_cat (pe_op op_cat (pe_lst (pa_cons (pe_tup (pa_cons pe_str pa_nil)) pa_nil))
        (pe_lc (own := [("key", 3)]) (g := gName 3) (tt := tYes) (te := tTup (tCons (tC (.str "key")) (tCons (tVar 3) tNil))) (by rfl) nd (pi_list (pv 1)) (blkOk_by (own := [("key", 3)]) (N := ["state", "keys", "words", "key", "word"]) (sc := defScope lEvents) (by decide +kernel))
          (fun _ _ _ _ _ => pg_name (i := 3) nd rfl (Or.inl rfl)) (fun _ _ _ _ _ => pts_nil) (fun _ _ _ _ _ => pe_tup (pa_cons pe_str (pa_cons (pv 3) pa_nil)))))
        (pe_lc (own := [("word", 4)]) (g := gName 4) (tt := tYes) (te := tTup (tCons (tC (.str "word")) (tCons (tVar 4) tNil))) (by rfl) nd (pi_list (pv 2)) (blkOk_by (own := [("word", 4)]) (N := ["state", "keys", "words", "key", "word"]) (sc := defScope lEvents) (by decide +kernel))
          (fun _ _ _ _ _ => pg_name (i := 4) nd rfl (Or.inl rfl)) (fun _ _ _ _ _ => pts_nil) (fun _ _ _ _ _ => pe_tup (pa_cons pe_str (pa_cons (pv 4) pa_nil)))))))), ?_⟩
    have G0 := Gr.refl (M := M0) sm
    refine ⟨Nat.zero_le _, fun qk0 hqk0 => ?_⟩
    have Gk0 := G0.nw (o := .lst []) hqk0
    have Sk0 := (Gr.new (M := M0) (o := .lst []) G0.bh hqk0).bb
    have fk0 : (upd B qk0 (.lst [])) qk0 = some (.lst []) := upd_same
    generalize upd B qk0 (.lst []) = Bk0 at Gk0 fk0
    generalize upd H qk0 (.lst []) = Hk0 at Gk0 ⊢
    refine ⟨(by show 1 ≤ sizeLine; decide), fun qk1 hqk1 => ?_⟩
    have Gk1 := Gk0.nw (o := .lst [.int 3]) hqk1
    have Sk1 := (Gr.new (M := M0) (o := .lst [.int 3]) Gk0.bh hqk1).bb
    have fk1 : (upd Bk0 qk1 (.lst [.int 3])) qk1 = some (.lst [.int 3]) := upd_same
    have fk0 := Sk1 _ _ fk0
    generalize upd Bk0 qk1 (.lst [.int 3]) = Bk1 at Gk1 fk0 fk1
    generalize upd Hk0 qk1 (.lst [.int 3]) = Hk1 at Gk1 ⊢
    refine ⟨(by show 2 ≤ sizeLine; decide), fun qk2 hqk2 => ?_⟩
    have Gk2 := Gk1.nw (o := .lst [.int 0, .int 9]) hqk2
    have Sk2 := (Gr.new (M := M0) (o := .lst [.int 0, .int 9]) Gk1.bh hqk2).bb
    have fk2 : (upd Bk1 qk2 (.lst [.int 0, .int 9])) qk2 = some (.lst [.int 0, .int 9]) := upd_same
    have fk0 := Sk2 _ _ fk0
    have fk1 := Sk2 _ _ fk1
    generalize upd Bk1 qk2 (.lst [.int 0, .int 9]) = Bk2 at Gk2 fk0 fk1 fk2
    generalize upd Hk1 qk2 (.lst [.int 0, .int 9]) = Hk2 at Gk2 ⊢
    refine ⟨(by show 3 ≤ sizeLine; decide), fun qk3 hqk3 => ?_⟩
    have Gk3 := Gk2.nw (o := .lst [.int 1, .int 2, .int 7]) hqk3
    have Sk3 := (Gr.new (M := M0) (o := .lst [.int 1, .int 2, .int 7]) Gk2.bh hqk3).bb
    have fk3 : (upd Bk2 qk3 (.lst [.int 1, .int 2, .int 7])) qk3 = some (.lst [.int 1, .int 2, .int 7]) := upd_same
    have fk0 := Sk3 _ _ fk0
    have fk1 := Sk3 _ _ fk1
    have fk2 := Sk3 _ _ fk2
    generalize upd Bk2 qk3 (.lst [.int 1, .int 2, .int 7]) = Bk3 at Gk3 fk0 fk1 fk2 fk3
    generalize upd Hk2 qk3 (.lst [.int 1, .int 2, .int 7]) = Hk3 at Gk3 ⊢
    refine ⟨(by show 4 ≤ sizeLine; decide), fun lk hlk => ?_⟩
    have GkL := Gk3.nw (o := .lst [.ref qk0, .ref qk1, .ref qk2, .ref qk3]) hlk
    have SkL := (Gr.new (M := M0) (o := .lst [.ref qk0, .ref qk1, .ref qk2, .ref qk3]) Gk3.bh hlk).bb
    have fkL : (upd Bk3 lk (.lst [.ref qk0, .ref qk1, .ref qk2, .ref qk3])) lk = some (.lst [.ref qk0, .ref qk1, .ref qk2, .ref qk3]) := upd_same
    have dk : DtAll (upd Bk3 lk (.lst [.ref qk0, .ref qk1, .ref qk2, .ref qk3])) (([[], [3], [0, 9], [1, 2, 7]] : List (List Int)).map iL) [.ref qk0, .ref qk1, .ref qk2, .ref qk3] :=
      ⟨_, _, rfl, iL_of (ns := []) (SkL _ _ fk0), _, _, rfl, iL_of (ns := [3]) (SkL _ _ fk1), _, _, rfl, iL_of (ns := [0, 9]) (SkL _ _ fk2), _, _, rfl, iL_of (ns := [1, 2, 7]) (SkL _ _ fk3), rfl⟩
    generalize upd Bk3 lk (.lst [.ref qk0, .ref qk1, .ref qk2, .ref qk3]) = BkL at GkL fkL dk 
    generalize upd Hk3 lk (.lst [.ref qk0, .ref qk1, .ref qk2, .ref qk3]) = HkL at GkL ⊢
    have hst1 : HkL st = some (.lst [.int a, .int m]) := GkL.hh _ _ (fun z => z) hst
    have hB1 : BkL st = none := GkL.bnone hB (nn hst)
    refine ⟨_, rfl, st, a, m, 4, rfl, hst1, by decide, by decide, fun a1 r r0 r4 => ?_⟩
    have PT1 := Gr.put1 (o := .lst [.int a1, .int m]) GkL.bh hB1
    have hst2 : (upd HkL st (.lst [.int a1, .int m])) st = some (.lst [.int a1, .int m]) := upd_same
    generalize upd HkL st (.lst [.int a1, .int m]) = H1 at PT1 hst2 ⊢
    have lkn : r.toNat < ([[], [3], [0, 9], [1, 2, 7]] : List (List Int)).length := by show r.toNat < 4; omega
    have hks : ([[], [3], [0, 9], [1, 2, 7]] : List (List Int))[r.toNat]? = some ([[], [3], [0, 9], [1, 2, 7]] : List (List Int))[r.toNat] := List.getElem?_eq_getElem lkn
    have gks : ∀ ks ∈ ([[], [3], [0, 9], [1, 2, 7]] : List (List Int)), ks.length ≤ 3 := by decide
    have gk := gks _ (List.getElem_mem lkn)
    generalize ([[], [3], [0, 9], [1, 2, 7]] : List (List Int))[r.toNat] = ks at hks gk
    obtain ⟨xv, hxv, dxv⟩ := dk.get (ints_at hks)
    refine ⟨lk, _, _, xv, rfl, rfl, SqL.of (PT1.bh _ _ fkL), atI_i (j := r.toNat) (by omega) hxv, ?_⟩
    have G0w := Gr.refl (M := M0) PT1.bh
    refine ⟨Nat.zero_le _, fun qw0 hqw0 => ?_⟩
    have Gw0 := G0w.nw (o := .lst []) hqw0
    have Sw0 := (Gr.new (M := M0) (o := .lst []) G0w.bh hqw0).bb
    have fw0 : (upd BkL qw0 (.lst [])) qw0 = some (.lst []) := upd_same
    have dxv := Dt.mono Sw0 _ _ dxv
    generalize upd BkL qw0 (.lst []) = Bw0 at Gw0 dxv fw0
    generalize upd H1 qw0 (.lst []) = Hw0 at Gw0 ⊢
    refine ⟨(by show 1 ≤ sizeLine; decide), fun qw1 hqw1 => ?_⟩
    have Gw1 := Gw0.nw (o := .lst [.str "a"]) hqw1
    have Sw1 := (Gr.new (M := M0) (o := .lst [.str "a"]) Gw0.bh hqw1).bb
    have fw1 : (upd Bw0 qw1 (.lst [.str "a"])) qw1 = some (.lst [.str "a"]) := upd_same
    have dxv := Dt.mono Sw1 _ _ dxv
    have fw0 := Sw1 _ _ fw0
    generalize upd Bw0 qw1 (.lst [.str "a"]) = Bw1 at Gw1 dxv fw0 fw1
    generalize upd Hw0 qw1 (.lst [.str "a"]) = Hw1 at Gw1 ⊢
    refine ⟨(by show 2 ≤ sizeLine; decide), fun qw2 hqw2 => ?_⟩
    have Gw2 := Gw1.nw (o := .lst [.str "no", .str "yes"]) hqw2
    have Sw2 := (Gr.new (M := M0) (o := .lst [.str "no", .str "yes"]) Gw1.bh hqw2).bb
    have fw2 : (upd Bw1 qw2 (.lst [.str "no", .str "yes"])) qw2 = some (.lst [.str "no", .str "yes"]) := upd_same
    have dxv := Dt.mono Sw2 _ _ dxv
    have fw0 := Sw2 _ _ fw0
    have fw1 := Sw2 _ _ fw1
    generalize upd Bw1 qw2 (.lst [.str "no", .str "yes"]) = Bw2 at Gw2 dxv fw0 fw1 fw2
    generalize upd Hw1 qw2 (.lst [.str "no", .str "yes"]) = Hw2 at Gw2 ⊢
    refine ⟨(by show 3 ≤ sizeLine; decide), fun qw3 hqw3 => ?_⟩
    have Gw3 := Gw2.nw (o := .lst [.str "z", .str "b", .str "abcdefgh"]) hqw3
    have Sw3 := (Gr.new (M := M0) (o := .lst [.str "z", .str "b", .str "abcdefgh"]) Gw2.bh hqw3).bb
    have fw3 : (upd Bw2 qw3 (.lst [.str "z", .str "b", .str "abcdefgh"])) qw3 = some (.lst [.str "z", .str "b", .str "abcdefgh"]) := upd_same
    have dxv := Dt.mono Sw3 _ _ dxv
    have fw0 := Sw3 _ _ fw0
    have fw1 := Sw3 _ _ fw1
    have fw2 := Sw3 _ _ fw2
    generalize upd Bw2 qw3 (.lst [.str "z", .str "b", .str "abcdefgh"]) = Bw3 at Gw3 dxv fw0 fw1 fw2 fw3
    generalize upd Hw2 qw3 (.lst [.str "z", .str "b", .str "abcdefgh"]) = Hw3 at Gw3 ⊢
    refine ⟨(by show 4 ≤ sizeLine; decide), fun lw hlw => ?_⟩
    have GwL := Gw3.nw (o := .lst [.ref qw0, .ref qw1, .ref qw2, .ref qw3]) hlw
    have SwL := (Gr.new (M := M0) (o := .lst [.ref qw0, .ref qw1, .ref qw2, .ref qw3]) Gw3.bh hlw).bb
    have fwL : (upd Bw3 lw (.lst [.ref qw0, .ref qw1, .ref qw2, .ref qw3])) lw = some (.lst [.ref qw0, .ref qw1, .ref qw2, .ref qw3]) := upd_same
    have dxv := Dt.mono SwL _ _ dxv
    have dw : DtAll (upd Bw3 lw (.lst [.ref qw0, .ref qw1, .ref qw2, .ref qw3])) (([[], ["a"], ["no", "yes"], ["z", "b", "abcdefgh"]] : List (List Str)).map sL) [.ref qw0, .ref qw1, .ref qw2, .ref qw3] :=
      ⟨_, _, rfl, sL_of (ns := []) (SwL _ _ fw0), _, _, rfl, sL_of (ns := ["a"]) (SwL _ _ fw1), _, _, rfl, sL_of (ns := ["no", "yes"]) (SwL _ _ fw2), _, _, rfl, sL_of (ns := ["z", "b", "abcdefgh"]) (SwL _ _ fw3), rfl⟩
    generalize upd Bw3 lw (.lst [.ref qw0, .ref qw1, .ref qw2, .ref qw3]) = BwL at GwL fwL dw dxv
    generalize upd Hw3 lw (.lst [.ref qw0, .ref qw1, .ref qw2, .ref qw3]) = HwL at GwL ⊢
    have hst3 : HwL st = some (.lst [.int a1, .int m]) := GwL.hh _ _ (fun z => z) hst2
    have hB3 : BwL st = none := GwL.bnone hB1 (nn hst2)
    refine ⟨_, rfl, st, a1, m, 4, rfl, hst3, by decide, by decide, fun a2 r' r0' r4' => ?_⟩
    have PT2 := Gr.put1 (o := .lst [.int a2, .int m]) GwL.bh hB3
    have hst4 : (upd HwL st (.lst [.int a2, .int m])) st = some (.lst [.int a2, .int m]) := upd_same
    generalize upd HwL st (.lst [.int a2, .int m]) = H2 at PT2 hst4 ⊢
    have lwn : r'.toNat < ([[], ["a"], ["no", "yes"], ["z", "b", "abcdefgh"]] : List (List Str)).length := by show r'.toNat < 4; omega
    have hws : ([[], ["a"], ["no", "yes"], ["z", "b", "abcdefgh"]] : List (List Str))[r'.toNat]? = some ([[], ["a"], ["no", "yes"], ["z", "b", "abcdefgh"]] : List (List Str))[r'.toNat] := List.getElem?_eq_getElem lwn
    have gws : ∀ ws ∈ ([[], ["a"], ["no", "yes"], ["z", "b", "abcdefgh"]] : List (List Str)), ws.length ≤ 3 ∧ ∀ z ∈ ws, PyData.strOk z = true := by decide +kernel
    have gw := gws _ (List.getElem_mem lwn)
    generalize ([[], ["a"], ["no", "yes"], ["z", "b", "abcdefgh"]] : List (List Str))[r'.toNat] = ws at hws gw
    obtain ⟨yv, hyv, dyv⟩ := dw.get (d := sL ws) (by rw [List.getElem?_map, hws]; rfl)
    refine ⟨lw, _, _, yv, rfl, rfl, SqL.of (PT2.bh _ _ fwL), atI_i (j := r'.toNat) (by omega) hyv, ?_⟩
    have GG : Gr (fun b => b = st) B H BwL H2 := (((GkL.imp fun _ z => z.elim).tr PT1).tr (GwL.imp fun _ z => z.elim)).tr PT2
    obtain ⟨ka, rfl, hka⟩ := dt_iL dxv
    obtain ⟨wa, rfl, hwa⟩ := dt_sL dyv
    -- the answer
    refine ⟨(by show 1 ≤ sizeLine; decide), fun u hu => ?_⟩
    have N1 := Gr.new (M := M0) (o := .tup [.str "quiet"]) PT2.bh hu
    have fu : (upd BwL u (.tup [.str "quiet"])) u = some (.tup [.str "quiet"]) := upd_same
    generalize upd BwL u (.tup [.str "quiet"]) = B5 at N1 fu
    generalize upd H2 u (.tup [.str "quiet"]) = H5 at N1 ⊢
    refine ⟨(by show 1 ≤ sizeLine; decide), fun l0 hl0 => ?_⟩
    have N2 := N1.nw (o := .lst [.ref u]) hl0
    have fu := (Gr.new (M := M0) (o := .lst [.ref u]) N1.bh hl0).bb _ _ fu
    have fl0 : (upd B5 l0 (.lst [.ref u])) l0 = some (.lst [.ref u]) := upd_same
    generalize upd B5 l0 (.lst [.ref u]) = B6 at N2 fu fl0
    generalize upd H5 l0 (.lst [.ref u]) = H6 at N2 ⊢
    have hka6 := N2.bb _ _ hka
    have hwa6 := N2.bb _ _ hwa
    refine ⟨_, rfl, ka, rfl, ⟨_, SqL.of (N2.bh _ _ hka6)⟩, lc_dt0 (K := K) (al := ka) (xs := ks.map V.int) (B := B6) (M := M0) (ks.map fun z => .tuple [.str "key", .int z]) hka6 N2.bh noM (by rw [List.length_map, List.length_map]) (by rw [List.length_map]; omega) (fun i x d B7 H7 hx hd G7 R hR => ?_) (fun D B7 H7 G7 dD => ?_)⟩
    · obtain ⟨z, hz, rfl⟩ := map_get hd
      rw [List.getElem?_map, hz] at hx
      injection hx with hx
      subst hx
      refine ⟨rfl, _, rfl, (by show 2 ≤ sizeLine; decide), fun v hv => ?_⟩
      exact hR _ _ _ (Gr.new (M := M0) G7.bh hv) (tup2 (d1 := .str "key") (d2 := .int z) upd_same rfl rfl)
    · obtain ⟨_, x1, eD, hD, hx1⟩ := dD
      injection eD with eD
      subst eD
      have l1 := hx1.len
      rw [List.length_map] at l1
      have N7 := N2.tr G7
      refine ⟨l0, D, _, _, rfl, rfl, G7.bh _ _ (G7.bb _ _ fl0), G7.bh _ _ hD, Nat.le_trans (by show 1 + x1.length ≤ 1000; omega) (by decide : 1000 ≤ sizeLine), fun c1 hc1 => ?_⟩
      have N8 := N7.nw (o := .lst ([.ref u] ++ x1)) hc1
      have S8 := (Gr.new (M := M0) (o := .lst ([.ref u] ++ x1)) G7.bh hc1).bb
      have fc1 : (upd B7 c1 (.lst ([.ref u] ++ x1))) c1 = some (.lst ([.ref u] ++ x1)) := upd_same
      have fu := S8 _ _ (G7.bb _ _ fu)
      have hx1 := DtAll.mono S8 _ _ hx1
      have hwa8 := S8 _ _ (G7.bb _ _ hwa6)
      generalize upd B7 c1 (.lst ([.ref u] ++ x1)) = B8 at N8 fc1 fu hx1 hwa8
      generalize upd H7 c1 (.lst ([.ref u] ++ x1)) = H8 at N8 ⊢
      refine ⟨_, rfl, wa, rfl, ⟨_, SqL.of (N8.bh _ _ hwa8)⟩, lc_dt0 (K := K) (al := wa) (xs := ws.map V.str) (B := B8) (M := M0) (ws.map fun z => .tuple [.str "word", .str z]) hwa8 N8.bh noM (by rw [List.length_map, List.length_map]) (by rw [List.length_map]; omega) (fun i x d B9 H9 hx hd G9 R hR => ?_) (fun D2 B9 H9 G9 dD2 => ?_)⟩
      · obtain ⟨z, hz, rfl⟩ := map_get hd
        rw [List.getElem?_map, hz] at hx
        injection hx with hx
        subst hx
        refine ⟨rfl, _, rfl, (by show 2 ≤ sizeLine; decide), fun v hv => ?_⟩
        exact hR _ _ _ (Gr.new (M := M0) G9.bh hv) (tup2 (d1 := .str "word") (d2 := .str z) upd_same rfl rfl)
      · obtain ⟨_, x2, eD, hD2, hx2⟩ := dD2
        injection eD with eD
        subst eD
        have l2 := hx2.len
        rw [List.length_map] at l2
        have gw1 := gw.1
        refine ⟨c1, D2, _, _, rfl, rfl, G9.bh _ _ (G9.bb _ _ fc1), G9.bh _ _ hD2, Nat.le_trans (by rw [List.length_append]; show 1 + x1.length + x2.length ≤ 1000; omega) (by decide : 1000 ≤ sizeLine), fun c2 hc2 => ?_⟩
        have NA := Gr.new (M := M0) (o := .lst ([.ref u] ++ x1 ++ x2)) G9.bh hc2
        have GE : Gr (fun b => b = st) B H _ _ := GG.tr0 ((N8.tr G9).tr NA)
        refine kk ([.tuple [.str "quiet"]] ++ ks.map (fun z => .tuple [.str "key", .int z]) ++ ws.map (fun z => .tuple [.str "word", .str z])) _ _ _ a2 ?_ ?_ ?_ GE (((N8.tr G9).tr NA).hh _ _ (fun z => z) hst4) ⟨c2, _, rfl, upd_same, ((DtAll.app (ds := [.tuple [.str "quiet"]]) (xs := [.ref u]) ⟨_, [], rfl, tup1 (d1 := .str "quiet") (NA.bb _ _ (G9.bb _ _ fu)) rfl, rfl⟩ (DtAll.mono (G9.tr NA).bb _ _ hx1)).app (DtAll.mono NA.bb _ _ hx2))⟩
        · simp
        · simp; omega
        · intro e9 he9
          rcases List.mem_append.mp he9 with he9 | he9
          · rcases List.mem_append.mp he9 with he9 | he9
            · rw [List.mem_singleton.mp he9]
              exact ⟨by decide +kernel, by decide +kernel⟩
            · obtain ⟨z, _, rfl⟩ := List.mem_map.mp he9
              exact ⟨by rw [show PyData.canLay0 (.tuple [.str "key", .int z]) = (PyData.canLay0 (.str "key") && true) from rfl]; decide +kernel, by rw [show PyData.depth (.tuple [.str "key", .int z]) = PyData.depth (.tuple [.str "key", .int 0]) from rfl]; decide +kernel⟩
          · obtain ⟨z, hz, rfl⟩ := List.mem_map.mp he9
            exact ⟨by rw [show PyData.canLay0 (.tuple [.str "word", .str z]) = (PyData.canLay0 (.str "word") && (PyData.strOk z && true)) from rfl, gw.2 z hz]; decide +kernel, by rw [show PyData.depth (.tuple [.str "word", .str z]) = PyData.depth (.tuple [.str "word", .int 0]) from rfl]; decide +kernel⟩
end
end Mill

namespace Mill
open PySem PySem.Spec PyProof.Rows L2 LamX NdefX
/-- a shape in the making -/
structure ShW (sh : Sh) (i S R : Nat) : Prop where
  c1 : sh.c.1 < S
  c2 : sh.c.2 < R
  up : sh.ts.Pairwise fun a b => a.1 < b.1
  tb : ∀ t ∈ sh.ts, t.1 < i ∧ t.2.1 < S ∧ t.2.2 < R
  ln : sh.ts.length ≤ i
theorem ShW.ok {sh : Sh} {i S R : Nat} (h : ShW sh i S R) (hi : i ≤ 20) : sh.Ok i S R := ⟨h.c1, h.c2, h.up, h.tb, Nat.le_trans h.ln hi⟩
theorem ShW.next {sh : Sh} {i S R : Nat} (h : ShW sh i S R) : ShW sh (i + 1) S R := ⟨h.c1, h.c2, h.up, fun t ht => ⟨by have := (h.tb t ht).1; omega, (h.tb t ht).2⟩, by have := h.ln; omega⟩
theorem ShW.snoc {sh : Sh} {i S R : Nat} (h : ShW sh i S R) {s r : Nat} (hs : s < S) (hr : r < R) : ShW ⟨sh.c, sh.ts ++ [(i, s, r)]⟩ (i + 1) S R := by
  refine ⟨h.c1, h.c2, List.pairwise_append.mpr ⟨h.up, List.pairwise_singleton _ _, fun a ha b hb => ?_⟩, fun t ht => ?_, by rw [List.length_append]; exact Nat.succ_le_succ h.ln⟩
  · rw [List.mem_singleton.mp hb]; exact (h.tb a ha).1
  · rcases List.mem_append.mp ht with ht | ht
    · exact ⟨by have := (h.tb t ht).1; omega, (h.tb t ht).2⟩
    · rw [List.mem_singleton.mp ht]; exact ⟨Nat.lt_succ_self _, hs, hr⟩
theorem Sh.cells_snoc (sh : Sh) (t : Nat × Nat × Nat) : (Sh.mk sh.c (sh.ts ++ [t])).cells = sh.cells ++ tri t := by
  unfold Sh.cells
  simp
theorem ShW.bound {sh : Sh} {i S R : Nat} (h : ShW sh i S R) (hi : i ≤ 20) : (sh.cells.map V.int).length ≤ 62 := by
  rw [List.length_map, Sh.len]
  have := h.ln
  omega
section
variable {P : Program} {w : World} {K : PySem.W.Frag} {mg : Str → Option Value} {base : Heap}
/-! ### _law_shape -/
def spLShape : Sp := fun vs H Q _ => ∃ (B : Hp) (st : Addr) (a m : Int) (n E S R : Nat), vs = [.ref st, .int (n : Nat), .int (E : Nat), .int (S : Nat), .int (R : Nat)] ∧ Same B H ∧ B st = none ∧ H st = some (.lst [.int a, .int m]) ∧ E ≤ 20 ∧ 0 < S ∧ S < 1000 ∧ 0 < R ∧ R < 1000 ∧
  ∀ (sh : Sh) v' B' H' (a' : Int), sh.Ok E S R → Gr (fun b => b = st) B H B' H' → H' st = some (.lst [.int a', .int m]) → Dt B' (iL sh.cells) v' → Q v' H'
theorem scLShape : FnScope ["state", "many", "events", "says", "rooms", "common", "shape", "place", "way"] ["state", "many", "events", "says", "rooms"] (defScope lShape) := ⟨rfl, rfl, rfl, by decide +kernel, rfl, by decide +kernel, by decide +kernel⟩
theorem ok_lshape {f fT : Addr} {fd fdT : FuncData} (F : Fun K "_law_shape" "_law_shape" lShape f fd) (T : Blt mg) (AT : At K mg "_law_take" ["state", "many"] lTake fT fdT) : FnOk P w K mg base CX0 2 f fd ["state", "many", "events", "says", "rooms"] spLShape := by
  have GT : FnOk P w K mg base CX0 1 fT fdT ["state", "many"] spTake := ok_take AT.fn
  refine F.ok scLShape (fun vs H Q E h => ?_) (fun cdv A outer s H vs Q E hr h => ?_)
  · obtain ⟨B, st, a, m, n, E, S, R, rfl, _⟩ := h
    rfl
  · obtain ⟨B, st, a, m, n, E9, S, R, rfl, sm, hB, hst, hE, S0, S1, R0, R1, kk⟩ := h
    have nd := scLShape.nd
    refine ⟨_, pss_cons (ps_set (i := 5) nd rfl (Or.inl rfl) (pe_lst (pa_cons (pe_call GT hr rfl AT.mgf AT.fn.kp AT.bd .nil pass0 (pa_cons (pv 0) (pa_cons (pv 3) pa_nil))) (pa_cons (pe_call GT hr rfl AT.mgf AT.fn.kp AT.bd .nil pass0 (pa_cons (pv 0) (pa_cons (pv 4) pa_nil))) pa_nil))))
      (pss_cons (ps_set (i := 6) nd rfl (Or.inl rfl) (pe_callTy (r := rListOf K) call_list_of (by rfl) T.list (by decide +kernel) (pa_cons (pv 5) pa_nil)))
      (pss_cons (ps_for PassesOwn.never rfl (pi_range1 rfl T.range (pa_cons (pv 2) pa_nil)) (pg_name (i := 7) nd rfl (Or.inl rfl))
        (pss_cons (ps_set (i := 8) nd rfl (Or.inl rfl) (pe_call GT hr rfl AT.mgf AT.fn.kp AT.bd .nil pass0 (pa_cons (pv 0) (pa_cons pe_int pa_nil))))
        (pss_one (ps_if (pt_cmpR op_eq (pv 8) pe_int (nomark _))
          (pss_one (ps_set (i := 6) nd rfl (Or.inl rfl) (pe_op op_cat (pv 6) (pe_lst (pa_cons (pv 7) (pa_cons (pe_call GT hr rfl AT.mgf AT.fn.kp AT.bd .nil pass0 (pa_cons (pv 0) (pa_cons (pv 3) pa_nil))) (pa_cons (pe_call GT hr rfl AT.mgf AT.fn.kp AT.bd .nil pass0 (pa_cons (pv 0) (pa_cons (pv 4) pa_nil))) pa_nil)))))))
          (pss_one (ps_if (PW.pt (pw_and (pt_cmpR op_eq (pv 8) pe_int (nomark _)) (pw_and1 (pt_cmpR op_gt (pv 1) pe_int (nomark _)))))
            (pss_one (ps_set (i := 6) nd rfl (Or.inl rfl) (pe_op op_cat (pe_op op_cat (pv 6) (pe_lst (pa_cons (pv 7) pa_nil))) (pv 5)))) pss_nil))))))
      (pss_one (ps_ret (pv 6))))), ?_⟩
    -- common
    refine ⟨_, rfl, _, rfl, st, a, m, (S : Int), rfl, hst, by omega, by omega, fun a1 r1 r10 r11 => ?_⟩
    have P1 := Gr.put1 (o := .lst [.int a1, .int m]) sm hB
    have hst1 : (upd H st (.lst [.int a1, .int m])) st = some (.lst [.int a1, .int m]) := upd_same
    generalize upd H st (.lst [.int a1, .int m]) = H1 at P1 hst1 ⊢
    refine ⟨_, rfl, _, rfl, st, a1, m, (R : Int), rfl, hst1, by omega, by omega, fun a2 r2 r20 r21 => ?_⟩
    have P2 := P1.tr (Gr.put1 (o := .lst [.int a2, .int m]) P1.bh hB)
    have hst2 : (upd H1 st (.lst [.int a2, .int m])) st = some (.lst [.int a2, .int m]) := upd_same
    generalize upd H1 st (.lst [.int a2, .int m]) = H2 at P2 hst2 ⊢
    obtain ⟨c1, rfl⟩ := Int.eq_ofNat_of_zero_le r10
    obtain ⟨c2, rfl⟩ := Int.eq_ofNat_of_zero_le r20
    refine ⟨(by show 2 ≤ sizeLine; decide), fun cl hcl => ?_⟩
    have N3 := Gr.new (M := M0) (o := .lst [.int (c1 : Nat), .int (c2 : Nat)]) P2.bh hcl
    have fcl : (upd B cl (.lst [.int (c1 : Nat), .int (c2 : Nat)])) cl = some (.lst [.int (c1 : Nat), .int (c2 : Nat)]) := upd_same
    generalize upd B cl (.lst [.int (c1 : Nat), .int (c2 : Nat)]) = B3 at N3 fcl
    generalize upd H2 cl (.lst [.int (c1 : Nat), .int (c2 : Nat)]) = H3 at N3 ⊢
    refine ⟨_, rfl, cl, _, rfl, .inl (SqL.of (N3.bh _ _ fcl)), fun sl hsl => ?_⟩
    have N4 := N3.nw (o := .lst [.int (c1 : Nat), .int (c2 : Nat)]) hsl
    have fcl4 := (Gr.new (M := M0) (o := .lst [.int (c1 : Nat), .int (c2 : Nat)]) N3.bh hsl).bb _ _ fcl
    have fsl : (upd B3 sl (.lst [.int (c1 : Nat), .int (c2 : Nat)])) sl = some (.lst [.int (c1 : Nat), .int (c2 : Nat)]) := upd_same
    generalize upd B3 sl (.lst [.int (c1 : Nat), .int (c2 : Nat)]) = B4 at N4 fcl4 fsl
    generalize upd H3 sl (.lst [.int (c1 : Nat), .int (c2 : Nat)]) = H4 at N4 ⊢
    have hst4 := N4.hh _ _ (fun z => z) hst2
    have P4 := P2.tr0 N4
    refine ⟨_, rfl, _, rfl, by omega, by omega, for_range (lo := 0) (n := E9) (fun i σ H' => ∃ (B1 : Hp) (sh : Sh) (a' : Int) (sl : Addr) (x7 x8 : Option V), σ = [some (.ref st), some (.int (n : Nat)), some (.int (E9 : Nat)), some (.int (S : Nat)), some (.int (R : Nat)), some (.ref cl), some (.ref sl), x7, x8] ∧ Gr (fun b => b = st) B H B1 H' ∧ H' st = some (.lst [.int a', .int m]) ∧
        B1 cl = some (.lst [.int (c1 : Nat), .int (c2 : Nat)]) ∧ B1 sl = some (.lst (sh.cells.map V.int)) ∧ sh.c = (c1, c2) ∧ ShW sh i S R)
      ⟨B4, ⟨(c1, c2), []⟩, a2, sl, none, none, rfl, P4, hst4, fcl4, fsl, rfl, ⟨Int.ofNat_lt.mp r11, Int.ofNat_lt.mp r21, .nil, (fun t ht => by cases ht), Nat.zero_le _⟩⟩ ?_ ?_⟩
    · rintro i σ H5 hi ⟨B5, sh, a5, sl, x7, x8, rfl, P5, hst5, fcl5, fsl5, hc, sw⟩
      have hB5 : B5 st = none := P5.bnone hB (nn hst)
      refine ⟨_, rfl, st, a5, m, 3, rfl, hst5, by decide, by decide, fun a6 r r0 r3 => ?_⟩
      have P6 := P5.tr (Gr.put1 (o := .lst [.int a6, .int m]) P5.bh hB5)
      have hst6 : (upd H5 st (.lst [.int a6, .int m])) st = some (.lst [.int a6, .int m]) := upd_same
      generalize upd H5 st (.lst [.int a6, .int m]) = H6 at P6 hst6 ⊢
      refine ⟨_, rfl, rfl, _, rfl, ?_⟩
      refine ite2 (fun _ => ?_) (fun _ => ?_)
      · refine ⟨_, rfl, _, rfl, _, rfl, _, rfl, st, a6, m, (S : Int), rfl, hst6, by omega, by omega, fun a7 s7 s70 s71 => ?_⟩
        have P7 := P6.tr (Gr.put1 (o := .lst [.int a7, .int m]) P6.bh hB5)
        have hst7 : (upd H6 st (.lst [.int a7, .int m])) st = some (.lst [.int a7, .int m]) := upd_same
        generalize upd H6 st (.lst [.int a7, .int m]) = H7 at P7 hst7 ⊢
        refine ⟨_, rfl, _, rfl, st, a7, m, (R : Int), rfl, hst7, by omega, by omega, fun a8 r8 r80 r81 => ?_⟩
        have P8 := P7.tr (Gr.put1 (o := .lst [.int a8, .int m]) P7.bh hB5)
        have hst8 : (upd H7 st (.lst [.int a8, .int m])) st = some (.lst [.int a8, .int m]) := upd_same
        generalize upd H7 st (.lst [.int a8, .int m]) = H8 at P8 hst8 ⊢
        obtain ⟨s, rfl⟩ := Int.eq_ofNat_of_zero_le s70
        obtain ⟨r', rfl⟩ := Int.eq_ofNat_of_zero_le r80
        refine ⟨(by show 3 ≤ sizeLine; decide), fun q hq => ?_⟩
        have N9 := Gr.new (M := M0) (o := .lst [.int (0 + (i : Int)), .int (s : Nat), .int (r' : Nat)]) P8.bh hq
        have fq : (upd B5 q (.lst [.int (0 + (i : Int)), .int (s : Nat), .int (r' : Nat)])) q = some (.lst [.int (0 + (i : Int)), .int (s : Nat), .int (r' : Nat)]) := upd_same
        generalize upd B5 q (.lst [.int (0 + (i : Int)), .int (s : Nat), .int (r' : Nat)]) = B9 at N9 fq
        generalize upd H8 q (.lst [.int (0 + (i : Int)), .int (s : Nat), .int (r' : Nat)]) = H9 at N9 ⊢
        have bd := sw.bound (by omega)
        refine ⟨sl, q, _, _, rfl, rfl, N9.bh _ _ (N9.bb _ _ fsl5), N9.bh _ _ fq, Nat.le_trans (Nat.add_le_add_right bd 3) (by decide), fun u hu => ?_⟩
        have N10 := N9.nw (o := .lst (sh.cells.map V.int ++ [.int (0 + (i : Int)), .int (s : Nat), .int (r' : Nat)])) hu
        refine ⟨_, ⟨sh.c, sh.ts ++ [(i, s, r')]⟩, a8, u, _, _, rfl, P8.tr0 N10, N10.hh _ _ (fun z => z) hst8, N10.bb _ _ fcl5, ?_, hc, sw.snoc (by omega) (by omega)⟩
        rw [upd_same, Sh.cells_snoc, List.map_append]
        simp [tri]
      · refine ⟨_, rfl, rfl, _, rfl, ?_⟩
        refine ite2 (fun _ => ?_) (fun _ => ?_)
        · refine ⟨_, rfl, _, _, rfl, rfl, _, rfl, ?_⟩
          refine ite2 (fun _ => ?_) (fun _ => ?_)
          · refine ⟨_, rfl, _, rfl, (by show 1 ≤ sizeLine; decide), fun q hq => ?_⟩
            have N9 := Gr.new (M := M0) (o := .lst [.int (0 + (i : Int))]) P6.bh hq
            have fq : (upd B5 q (.lst [.int (0 + (i : Int))])) q = some (.lst [.int (0 + (i : Int))]) := upd_same
            generalize upd B5 q (.lst [.int (0 + (i : Int))]) = B9 at N9 fq
            generalize upd H6 q (.lst [.int (0 + (i : Int))]) = H9 at N9 ⊢
            have bd := sw.bound (by omega)
            refine ⟨sl, q, _, _, rfl, rfl, N9.bh _ _ (N9.bb _ _ fsl5), N9.bh _ _ fq, Nat.le_trans (Nat.add_le_add_right bd 1) (by decide), fun u hu => ?_⟩
            have N10 := N9.nw (o := .lst (sh.cells.map V.int ++ [.int (0 + (i : Int))])) hu
            have fu : (upd B9 u (.lst (sh.cells.map V.int ++ [.int (0 + (i : Int))]))) u = some (.lst (sh.cells.map V.int ++ [.int (0 + (i : Int))])) := upd_same
            generalize upd B9 u (.lst (sh.cells.map V.int ++ [.int (0 + (i : Int))])) = B10 at N10 fu
            generalize upd H9 u (.lst (sh.cells.map V.int ++ [.int (0 + (i : Int))])) = H10 at N10 ⊢
            refine ⟨_, rfl, u, cl, _, _, rfl, rfl, N10.bh _ _ fu, N10.bh _ _ (N10.bb _ _ fcl5), Nat.le_trans (Nat.add_le_add_right (by rw [List.length_append]; exact Nat.add_le_add_right bd 1) 2) (by decide), fun v hv => ?_⟩
            have N11 := N10.nw (o := .lst (sh.cells.map V.int ++ [.int (0 + (i : Int))] ++ [.int (c1 : Nat), .int (c2 : Nat)])) hv
            refine ⟨_, ⟨sh.c, sh.ts ++ [(i, c1, c2)]⟩, a6, v, _, _, rfl, P6.tr0 N11, N11.hh _ _ (fun z => z) hst6, N11.bb _ _ fcl5, ?_, hc, sw.snoc (by have := sw.c1; rw [hc] at this; exact this) (by have := sw.c2; rw [hc] at this; exact this)⟩
            rw [upd_same, Sh.cells_snoc, List.map_append]
            simp [tri]
          · exact ⟨B5, sh, a6, sl, _, _, rfl, P6, hst6, fcl5, fsl5, hc, sw.next⟩
        · exact iteF ⟨B5, sh, a6, sl, _, _, rfl, P6, hst6, fcl5, fsl5, hc, sw.next⟩
    · rintro σ H5 ⟨B5, sh, a5, sl, x7, x8, rfl, P5, hst5, fcl5, fsl5, hc, sw⟩
      exact ⟨_, rfl, kk sh _ _ _ a5 (sw.ok hE) P5 hst5 (iL_of fsl5)⟩
/-! ### _law_still_shape -/
def spLStill : Sp := fun vs H Q _ => ∃ (B : Hp) (st : Addr) (a m : Int) (E em rm : Nat), vs = [.ref st, .int (E : Nat), .int (em : Nat), .int (rm : Nat)] ∧ Same B H ∧ B st = none ∧ H st = some (.lst [.int a, .int m]) ∧ E ≤ 20 ∧
  ∀ (sh : Sh) v' B' H', ShW sh E (em + 1) (rm + 1) → (∀ p, sh.at p = (em, rm)) → Gr (fun b => b = st) B H B' H' → Dt B' (iL sh.cells) v' → Q v' H'
theorem scLStill : FnScope ["state", "events", "empty", "room", "shape", "place"] ["state", "events", "empty", "room"] (defScope lStill) := ⟨rfl, rfl, rfl, by decide +kernel, rfl, by decide +kernel, by decide +kernel⟩
theorem ok_lstill {f fT : Addr} {fd fdT : FuncData} (F : Fun K "_law_still_shape" "_law_still_shape" lStill f fd) (T : Blt mg) (AT : At K mg "_law_take" ["state", "many"] lTake fT fdT) : FnOk P w K mg base CX0 2 f fd ["state", "events", "empty", "room"] spLStill := by
  have GT : FnOk P w K mg base CX0 1 fT fdT ["state", "many"] spTake := ok_take AT.fn
  refine F.ok scLStill (fun vs H Q E h => ?_) (fun cdv A outer s H vs Q E hr h => ?_)
  · obtain ⟨B, st, a, m, E, em, rm, rfl, _⟩ := h
    rfl
  · obtain ⟨B, st, a, m, E9, em, rm, rfl, sm, hB, hst, hE, kk⟩ := h
    have nd := scLStill.nd
    refine ⟨_, pss_cons (ps_set (i := 4) nd rfl (Or.inl rfl) (pe_lst (pa_cons (pv 2) (pa_cons (pv 3) pa_nil))))
      (pss_cons (ps_for PassesOwn.never rfl (pi_range1 rfl T.range (pa_cons (pv 1) pa_nil)) (pg_name (i := 5) nd rfl (Or.inl rfl))
        (pss_one (ps_if (pt_cmpR op_eq (pe_call GT hr rfl AT.mgf AT.fn.kp AT.bd .nil pass0 (pa_cons (pv 0) (pa_cons pe_int pa_nil))) pe_int (nomark _))
          (pss_one (ps_set (i := 4) nd rfl (Or.inl rfl) (pe_op op_cat (pv 4) (pe_lst (pa_cons (pv 5) (pa_cons (pv 2) (pa_cons (pv 3) pa_nil))))))) pss_nil)))
      (pss_one (ps_ret (pv 4)))), ?_⟩
    refine ⟨_, rfl, _, rfl, (by show 2 ≤ sizeLine; decide), fun sl hsl => ?_⟩
    have N4 := Gr.new (M := M0) (o := .lst [.int (em : Nat), .int (rm : Nat)]) sm hsl
    have fsl : (upd B sl (.lst [.int (em : Nat), .int (rm : Nat)])) sl = some (.lst [.int (em : Nat), .int (rm : Nat)]) := upd_same
    generalize upd B sl (.lst [.int (em : Nat), .int (rm : Nat)]) = B4 at N4 fsl
    generalize upd H sl (.lst [.int (em : Nat), .int (rm : Nat)]) = H4 at N4 ⊢
    have hst4 := N4.hh _ _ (fun z => z) hst
    have P4 : Gr (fun b => b = st) B H B4 H4 := N4.imp fun _ z => z.elim
    refine ⟨_, rfl, _, rfl, by omega, by omega, for_range (lo := 0) (n := E9) (fun i σ H' => ∃ (B1 : Hp) (sh : Sh) (a' : Int) (sl : Addr) (x5 : Option V), σ = [some (.ref st), some (.int (E9 : Nat)), some (.int (em : Nat)), some (.int (rm : Nat)), some (.ref sl), x5] ∧ Gr (fun b => b = st) B H B1 H' ∧ H' st = some (.lst [.int a', .int m]) ∧
        B1 sl = some (.lst (sh.cells.map V.int)) ∧ sh.c = (em, rm) ∧ (∀ t ∈ sh.ts, t.2 = (em, rm)) ∧ ShW sh i (em + 1) (rm + 1))
      ⟨B4, ⟨(em, rm), []⟩, a, sl, none, rfl, P4, hst4, fsl, rfl, (fun t ht => by cases ht), ⟨Nat.lt_succ_self _, Nat.lt_succ_self _, .nil, (fun t ht => by cases ht), Nat.zero_le _⟩⟩ ?_ ?_⟩
    · rintro i σ H5 hi ⟨B5, sh, a5, sl, x5, rfl, P5, hst5, fsl5, hc, hts, sw⟩
      have hB5 : B5 st = none := P5.bnone hB (nn hst)
      refine ⟨_, rfl, st, a5, m, 4, rfl, hst5, by decide, by decide, fun a6 r r0 r3 => ?_⟩
      have P6 := P5.tr (Gr.put1 (o := .lst [.int a6, .int m]) P5.bh hB5)
      have hst6 : (upd H5 st (.lst [.int a6, .int m])) st = some (.lst [.int a6, .int m]) := upd_same
      generalize upd H5 st (.lst [.int a6, .int m]) = H6 at P6 hst6 ⊢
      refine ⟨rfl, _, rfl, ?_⟩
      refine ite2 (fun _ => ?_) (fun _ => ?_)
      · refine ⟨_, rfl, _, rfl, _, rfl, _, rfl, (by show 3 ≤ sizeLine; decide), fun q hq => ?_⟩
        have N9 := Gr.new (M := M0) (o := .lst [.int (0 + (i : Int)), .int (em : Nat), .int (rm : Nat)]) P6.bh hq
        have fq : (upd B5 q (.lst [.int (0 + (i : Int)), .int (em : Nat), .int (rm : Nat)])) q = some (.lst [.int (0 + (i : Int)), .int (em : Nat), .int (rm : Nat)]) := upd_same
        generalize upd B5 q (.lst [.int (0 + (i : Int)), .int (em : Nat), .int (rm : Nat)]) = B9 at N9 fq
        generalize upd H6 q (.lst [.int (0 + (i : Int)), .int (em : Nat), .int (rm : Nat)]) = H9 at N9 ⊢
        have bd := sw.bound (by omega)
        refine ⟨sl, q, _, _, rfl, rfl, N9.bh _ _ (N9.bb _ _ fsl5), N9.bh _ _ fq, Nat.le_trans (Nat.add_le_add_right bd 3) (by decide), fun u hu => ?_⟩
        have N10 := N9.nw (o := .lst (sh.cells.map V.int ++ [.int (0 + (i : Int)), .int (em : Nat), .int (rm : Nat)])) hu
        refine ⟨_, ⟨sh.c, sh.ts ++ [(i, em, rm)]⟩, a6, u, _, rfl, P6.tr0 N10, N10.hh _ _ (fun z => z) hst6, ?_, hc, fun t ht => ?_, sw.snoc (Nat.lt_succ_self _) (Nat.lt_succ_self _)⟩
        · rw [upd_same, Sh.cells_snoc, List.map_append]
          simp [tri]
        · rcases List.mem_append.mp ht with ht | ht
          · exact hts t ht
          · rw [List.mem_singleton.mp ht]
      · exact ⟨B5, sh, a6, sl, _, rfl, P6, hst6, fsl5, hc, hts, sw.next⟩
    · rintro σ H5 ⟨B5, sh, a5, sl, x5, rfl, P5, hst5, fsl5, hc, hts, sw⟩
      refine ⟨_, rfl, kk sh _ _ _ sw (fun p => ?_) P5 (iL_of fsl5)⟩
      unfold Sh.at
      cases e : sh.ts.find? (fun t => t.1 == p) with
      | none => exact hc
      | some t => exact hts t (List.mem_of_find?_eq_some e)
end
end Mill

namespace Mill
open PySem PySem.Spec PyProof.Rows L2 LamX NdefX
/-- a comprehension over a walk, which makes data of some kind; Iv stands throughout -/
theorem lc_dtI {J : It} {n : Nat} {G : Hp → Prop} {Y : Nat → Hp → V → Hp → Prop} (wk : Walk J n G Y) {g : TG} {te : TE} {vs : List Nat} {σ : L2.St} {H B : Hp} {Qd : Addr → Hp → Prop} {M : Addr → Prop} (Pd : PyData → Prop) (Iv : Hp → Prop) (sm : Same B H)
    (i0 : Iv H) (iD : ∀ D, H D = none → ∀ H' o, Iv H' → Iv (upd H' D o)) (hG : ∀ B1 H1, Gr M B H B1 H1 → G H1) (hM : ∀ b, M b → B b = none ∧ H b ≠ none) (hl : n ≤ 1000)
    (step : ∀ (i : Nat) (x : V) (B1 H1 H1' : Hp), i < n → Gr M B H B1 H1 → Iv H1 → Y i H1 x H1' → ∀ R : VK, (∀ v d B2 H2, Gr M B1 H1 B2 H2 → Iv H2 → Pd d → Dt B2 d v → R v H2) → g x (wipe σ vs) H1' fun σ2 H2 => wipe σ2 vs = wipe σ vs ∧ te σ2 H2 R)
    (k : ∀ D ds acc B' H', ds.length = n → (∀ d ∈ ds, Pd d) → Gr M B H B' H' → Iv H' → H D = none → B' D = none → H' D = some (.lst acc) → DtAll B' ds acc → Qd D H') : ∀ D, H D = none → ∃ W : Nat → Nat → Hp → Prop, (∃ m, W 0 m (upd H D (.lst []))) ∧ ∀ i m H1, W i m H1 →
      (J.stop i H1 ∧ Qd D H1) ∨ (J.go i H1 ∧ ∃ Nx : Hp → Prop, (∀ H', Nx H' → ∃ m', m' < m ∧ W (i + 1) m' H') ∧ ∀ x H', J.yld i H1 x H' → g x (wipe σ vs) H' fun σ2 H2 => wipe σ2 vs = wipe σ vs ∧ tYes σ2 H2 fun b H3 =>
        if b = true then te σ2 H3 fun y H4 => ∃ acc, H4 D = some (.lst acc) ∧ acc.length < sizeLine ∧ Nx (upd H4 D (.lst (acc ++ [y]))) else Nx H3) := by
  refine fun D hD => lc_it wk (fun n H' => ∃ (B1 : Hp) (acc : List V) (ds : List PyData), Gr M B H B1 H' ∧ Iv H' ∧ B1 D = none ∧ H' D = some (.lst acc) ∧ DtAll B1 ds acc ∧ ds.length = n ∧ ∀ d ∈ ds, Pd d) ⟨B, [], [], (Gr.refl sm).nwM hD, iD D hD _ _ i0, sm.free hD, upd_same, rfl, rfl, (fun d hd => by cases hd)⟩ (fun n H' _ ⟨B1, acc, ds, G, _⟩ => hG _ _ G) (fun n x H' H'' hi ⟨B1, acc, ds, G, hI, hB, hDl, dd, hn, hp⟩ hy => ?_) (fun H' ⟨B1, acc, ds, G, hI, hB, hDl, dd, hn, hp⟩ => ?_)
  · have nM : ¬ M D := fun z => (hM D z).2 hD
    have hacc := dd.len
    have key := step n x B1 H' H'' hi G hI hy (fun y H4 => ∃ acc, H4 D = some (.lst acc) ∧ acc.length < sizeLine ∧ ∃ (B1 : Hp) (acc1 : List V) (ds : List PyData), Gr M B H B1 (upd H4 D (.lst (acc ++ [y]))) ∧ Iv (upd H4 D (.lst (acc ++ [y]))) ∧ B1 D = none ∧ (upd H4 D (.lst (acc ++ [y]))) D = some (.lst acc1) ∧ DtAll B1 ds acc1 ∧ ds.length = n + 1 ∧ ∀ d ∈ ds, Pd d) (fun v d B2 H2 G2 hI2 pd d2 => by
      have hD2 : H2 D = some (.lst acc) := G2.hh _ _ nM hDl
      have hB2 : B2 D = none := G2.bnone hB (nn hDl)
      refine ⟨acc, hD2, Nat.lt_of_le_of_lt (by omega : acc.length ≤ 1000) (by decide), B2, acc ++ [v], ds ++ [d], (G.tr G2).wr hB2 (.inr hD), iD D hD _ _ hI2, hB2, upd_same, (DtAll.mono G2.bb _ _ dd).snoc d2, by rw [List.length_append, hn]; rfl, fun d' hd' => ?_⟩
      rcases List.mem_append.mp hd' with hd' | hd'
      · exact hp d' hd'
      · rw [List.mem_singleton.mp hd']; exact pd)
    exact key
  · exact k D ds acc _ _ hn hp G hI hD hB hDl dd
theorem any_map {α : Type} {f : α → PyData} {Pa : α → Prop} : ∀ ds : List PyData, (∀ d ∈ ds, ∃ x, Pa x ∧ d = f x) → ∃ xs : List α, ds = xs.map f ∧ ∀ x ∈ xs, Pa x
  | [], _ => ⟨[], rfl, fun x hx => by cases hx⟩
  | d :: ds, h => by
    obtain ⟨x, px, rfl⟩ := h d List.mem_cons_self
    obtain ⟨xs, rfl, pxs⟩ := any_map ds fun d hd => h d (List.mem_cons_of_mem _ hd)
    refine ⟨x :: xs, rfl, fun y hy => ?_⟩
    rcases List.mem_cons.mp hy with rfl | hy
    · exact px
    · exact pxs y hy
theorem int_eq {R : V → Prop} {z z' : Int} (e : z = z') (h : R (.int z')) : R (.int z) := by rw [e]; exact h
abbrev lpN : List Str := ["script", "mixed", "first", "events", "texts", "rooms", "says", "state", "sayings", "shapes", "k", "own", "cells", "said"]
abbrev partsD (evs : List PyData) (ts : List Str) (k : Pk) : PyData := .list [.list evs, sL ts, .list (k.sayL.map iL), .list (k.shapeL.map iL), iL (k.rooms.map roomCell), .int (k.saying : Nat)]
abbrev tTake (a b : TE) : TE := tCall spTake [] E0 (tCons a (tCons b tNil))
abbrev rLenOf (K : PySem.W.Frag) : List V → Hp → VK → Prop := fun xs H Q => ∃ p ys, xs = [.ref p] ∧ (SqL K H p ys ∨ SqT K H p ys) ∧ Q (.int ys.length) H
section
variable {P : Program} {w : World} {K : PySem.W.Frag} {mg : Str → Option Value} {base : Heap}
/-! ### _law_parts -/
def spLParts (K : PySem.W.Frag) : Sp := fun vs H Q _ => ∃ (B : Hp) (a : Addr) (ns : List Int), vs = [.ref a] ∧ Same B H ∧ SqL K H a (ns.map V.int) ∧
  ∀ (evs : List PyData) (ts : List Str) (k : Pk) v' B' H', k.Ok evs.length ts.length → (∀ e ∈ evs, EvOk e) → (∀ x ∈ ts, PyData.strOk x = true) → Gr M0 B H B' H' → Dt B' (partsD evs ts k) v' → Q v' H'
theorem scLParts : FnScope lpN ["script"] (defScope lParts) := ⟨rfl, rfl, rfl, by decide +kernel, rfl, by decide +kernel, by decide +kernel⟩
theorem ok_lparts {f fT fC fE fS fL : Addr} {fd fdT fdC fdE fdS fdL : FuncData} (F : Fun K "_law_parts" "_law_parts" lParts f fd) (T : Blt mg) (AT : At K mg "_law_take" ["state", "many"] lTake fT fdT) (AC : At K mg "_law_cell" ["script", "k", "mixed"] lCell fC fdC)
    (AE : At K mg "_law_events" ["state"] lEvents fE fdE) (AS : At K mg "_law_shape" ["state", "many", "events", "says", "rooms"] lShape fS fdS) (AL : At K mg "_law_still_shape" ["state", "events", "empty", "room"] lStill fL fdL) : FnOk P w K mg base CX0 3 f fd ["script"] (spLParts K) := by
  have GT : FnOk P w K mg base CX0 1 fT fdT ["state", "many"] spTake := ok_take AT.fn
  have GC : FnOk P w K mg base CX0 1 fC fdC ["script", "k", "mixed"] (spCell K) := ok_cell AC.fn T T.min
  have GE : FnOk P w K mg base CX0 2 fE fdE ["state"] spEvents := ok_events AE.fn T AT
  have GS : FnOk P w K mg base CX0 2 fS fdS ["state", "many", "events", "says", "rooms"] spLShape := ok_lshape AS.fn T AT
  have GL : FnOk P w K mg base CX0 2 fL fdL ["state", "events", "empty", "room"] spLStill := ok_lstill AL.fn T AT
  refine F.ok scLParts (fun vs H Q E h => ?_) (fun cdv A outer s H vs Q E hr h => ?_)
  · obtain ⟨B, a, ns, rfl, _⟩ := h
    rfl
  · obtain ⟨B, a, ns, rfl, sm, hs, kk⟩ := h
    have nd := scLParts.nd
    have hr1 : Room 1 _ := hr.mono (by decide)
    refine ⟨_, pss_cons (ps_set (i := 1) nd rfl (Or.inl rfl) (pe_op op_mod (pe_callB (cr_sum rfl) (by rfl) T.sum (by decide +kernel) (pa_cons (pv 0) pa_nil)) pe_int))
      (pss_cons (ps_set (i := 2) nd rfl (Or.inl rfl) (pe_lst (pa_cons (pe_call GC hr1 rfl AC.mgf AC.fn.kp AC.bd .nil pass0 (pa_cons (pv 0) (pa_cons pe_int (pa_cons (pv 1) pa_nil)))) (pa_cons (pv 1) pa_nil))))
      (pss_cons (ps_set (i := 3) nd rfl (Or.inl rfl) (pe_call GE hr rfl AE.mgf AE.fn.kp AE.bd .nil pass0 (pa_cons (pv 2) pa_nil)))
      (pss_cons (ps_set (i := 4) nd rfl (Or.inr rfl) (pe_slice sl_list (pe_lst (pa_cons pe_str (pa_cons pe_str (pa_cons pe_str (pa_cons pe_str pa_nil))))) po_none (po_some (pe_op op_add pe_int (pe_call GT hr1 rfl AT.mgf AT.fn.kp AT.bd .nil pass0 (pa_cons (pv 2) (pa_cons pe_int pa_nil)))))))
      (pss_cons (ps_set (i := 5) nd rfl (Or.inl rfl) (pe_op op_add pe_int (pe_call GT hr1 rfl AT.mgf AT.fn.kp AT.bd .nil pass0 (pa_cons (pv 2) (pa_cons pe_int pa_nil)))))
      (pss_cons (ps_set (i := 6) nd rfl (Or.inl rfl) (pe_op op_add pe_int (pe_call GT hr1 rfl AT.mgf AT.fn.kp AT.bd .nil pass0 (pa_cons (pv 2) (pa_cons pe_int pa_nil)))))
      (pss_cons (ps_set (i := 7) nd rfl (Or.inr rfl) (pe_lst (pa_cons (pe_call GC hr1 rfl AC.mgf AC.fn.kp AC.bd .nil pass0 (pa_cons (pv 0) (pa_cons pe_int (pa_cons (pv 1) pa_nil)))) (pa_cons (pv 1) pa_nil))))
      (pss_cons (ps_setLc (i := 8) (own := [("said", 13)]) (g := gName 13) (tt := tYes)
          (te := tLc (iRng1 (tCons (tTake (tVar 7) (tC (.int 3))) tNil)) (gName 10) tYes (tTake (tVar 7) (tCB (rLenOf K) (tCons (tVar 4) tNil))) [10])
          (by rfl) nd rfl rfl (sw_true rfl rfl rfl (by decide +kernel)) (pi_range1 rfl T.range (pa_cons (pv 6) pa_nil)) (blkOk_by (own := [("said", 13)]) (N := lpN) (sc := defScope lParts) (by decide +kernel))
          (fun _ _ _ _ _ => pg_name (i := 13) nd rfl (Or.inl rfl)) (fun _ _ _ _ _ => pts_nil)
          (fun _ _ _ _ _ => pe_lc (own := [("k", 10)]) (g := gName 10) (tt := tYes) (te := tTake (tVar 7) (tCB (rLenOf K) (tCons (tVar 4) tNil))) (by rfl) nd
              (pi_range1 rfl T.range (pa_cons (pe_call GT hr1 rfl AT.mgf AT.fn.kp AT.bd .nil pass0 (pa_cons (pv 7) (pa_cons pe_int pa_nil))) pa_nil))
              (blkOk_by (own := [("k", 10)]) (N := lpN) (by kernel_rfl)) (fun _ _ _ _ _ => pg_name (i := 10) nd rfl (Or.inl rfl)) (fun _ _ _ _ _ => pts_nil)
              (fun _ _ _ _ _ => pe_call GT hr1 rfl AT.mgf AT.fn.kp AT.bd .nil pass0 (pa_cons (pv 7) (pa_cons (pe_callB (r := rLenOf K) call_len_seq (by rfl) T.len PySem.boot_len (pa_cons (pv 4) pa_nil)) pa_nil)))))
      (pss_cons (ps_expr (pe_bm PySem.F.plainAttrs_list PySem.F.slot_list_append PySem.F.type_list_append mt_append (pv 8) (pa_cons (pe_lst pa_nil) pa_nil)))
      (pss_cons (ps_set (i := 9) nd rfl (Or.inl rfl) (pe_lst pa_nil))
      (pss_cons (ps_for PassesOwn.never rfl (pi_range1 rfl T.range (pa_cons (pe_op op_add pe_int (pe_call GT hr1 rfl AT.mgf AT.fn.kp AT.bd .nil pass0 (pa_cons (pv 2) (pa_cons pe_int pa_nil)))) pa_nil)) (pg_name (i := 10) nd rfl (Or.inl rfl))
        (pss_cons (ps_set (i := 11) nd rfl (Or.inl rfl) (pe_lst (pa_cons (pe_call GC hr1 rfl AC.mgf AC.fn.kp AC.bd .nil pass0 (pa_cons (pv 0) (pa_cons (pe_op op_add pe_int (pv 10)) (pa_cons (pv 1) pa_nil)))) (pa_cons (pv 1) pa_nil))))
        (pss_one (ps_expr (pe_bm PySem.F.plainAttrs_list PySem.F.slot_list_append PySem.F.type_list_append mt_append (pv 9) (pa_cons (pe_call GS hr rfl AS.mgf AS.fn.kp AS.bd .nil pass0 (pa_cons (pv 11) (pa_cons (pv 10) (pa_cons (pe_callB call_len_seq (by rfl) T.len PySem.boot_len (pa_cons (pv 3) pa_nil)) (pa_cons (pe_callB call_len_seq (by rfl) T.len PySem.boot_len (pa_cons (pv 8) pa_nil)) (pa_cons (pv 5) pa_nil)))))) pa_nil))))))
      (pss_cons (ps_set (i := 12) nd rfl (Or.inl rfl) (pe_lst pa_nil))
      (pss_cons (ps_for PassesOwn.never rfl (pi_range1 rfl T.range (pa_cons (pv 5) pa_nil)) (pg_name (i := 10) nd rfl (Or.inl rfl))
        (pss_cons (ps_set (i := 11) nd rfl (Or.inl rfl) (pe_lst (pa_cons (pe_call GC hr1 rfl AC.mgf AC.fn.kp AC.bd .nil pass0 (pa_cons (pv 0) (pa_cons (pe_op op_add pe_int (pv 10)) (pa_cons (pv 1) pa_nil)))) (pa_cons (pv 1) pa_nil))))
        (pss_one (ps_if (pt_cmpR op_eq (pe_call GT hr1 rfl AT.mgf AT.fn.kp AT.bd .nil pass0 (pa_cons (pv 11) (pa_cons pe_int pa_nil))) pe_int (nomark _))
          (pss_cons (ps_expr (pe_bm PySem.F.plainAttrs_list PySem.F.slot_list_append PySem.F.type_list_append mt_append (pv 12) (pa_cons (pe_op op_add (pe_op op_mul pe_int (pe_callB call_len_seq (by rfl) T.len PySem.boot_len (pa_cons (pv 9) pa_nil))) pe_int) pa_nil)))
          (pss_one (ps_expr (pe_bm PySem.F.plainAttrs_list PySem.F.slot_list_append PySem.F.type_list_append mt_append (pv 9) (pa_cons (pe_call GL hr rfl AL.mgf AL.fn.kp AL.bd .nil pass0 (pa_cons (pv 11) (pa_cons (pe_callB call_len_seq (by rfl) T.len PySem.boot_len (pa_cons (pv 3) pa_nil)) (pa_cons (pv 6) (pa_cons (pv 10) pa_nil))))) pa_nil)))))
          (pss_one (ps_expr (pe_bm PySem.F.plainAttrs_list PySem.F.slot_list_append PySem.F.type_list_append mt_append (pv 12) (pa_cons (pe_op op_mul pe_int (pe_call GT hr1 rfl AT.mgf AT.fn.kp AT.bd .nil pass0 (pa_cons (pv 11) (pa_cons (pe_callB call_len_seq (by rfl) T.len PySem.boot_len (pa_cons (pv 9) pa_nil)) pa_nil)))) pa_nil))))))))
      (pss_one (ps_ret (pe_lst (pa_cons (pv 3) (pa_cons (pv 4) (pa_cons (pv 8) (pa_cons (pv 9) (pa_cons (pv 12) (pa_cons (pe_call GT hr1 rfl AT.mgf AT.fn.kp AT.bd .nil pass0 (pa_cons (pv 2) (pa_cons (pe_callB call_len_seq (by rfl) T.len PySem.boot_len (pa_cons (pv 8) pa_nil)) pa_nil))) pa_nil))))))))))))))))))))), ?_⟩
    -- mixed
    refine ⟨_, rfl, a, ns, rfl, hs, _, _, rfl, rfl, (by show (0 : Int) < 2; decide), ?_⟩
    have mx0 := Int.emod_nonneg ns.sum (show (2 : Int) ≠ 0 by decide)
    have mx1 := Int.emod_lt_of_pos ns.sum (show (0 : Int) < 2 by decide)
    generalize hmx : ns.sum % 2 = mx at mx0 mx1
    refine int_eq (R := fun v => gName 1 v _ _ _) (z := ns.sum % 2) hmx ?_
    -- first
    refine ⟨_, rfl, _, rfl, a, ns, 0, mx, rfl, hs, by omega, by omega, by omega, by omega, fun r1 H1 e1 => ?_⟩
    have G1 := Gr.ex (M := M0) sm e1
    refine ⟨_, rfl, (by show 2 ≤ sizeLine; decide), fun f hf => ?_⟩
    have hfH := G1.free hf
    have hfB := G1.bh.free hf
    have G2 := G1.nwM (o := .lst [.int r1, .int mx]) hf
    have ff2 : (upd H1 f (.lst [.int r1, .int mx])) f = some (.lst [.int r1, .int mx]) := upd_same
    generalize upd H1 f (.lst [.int r1, .int mx]) = H2 at G2 ff2 ⊢
    -- events
    refine ⟨_, rfl, B, f, r1, mx, rfl, G2.bh, hfB, ff2, fun evs ve B3 H3 a3 l1 l20 evok G23 ff3 dE => ?_⟩
    have G3 : Gr M0 B H B3 H3 := G2.trans G23 fun c z => .inr (by rw [z]; exact hfH)
    have hfB3 := G23.bnone hfB (nn ff2)
    obtain ⟨e, es, rfl, he, hes⟩ := dE
    have les := hes.len
    -- texts
    refine ⟨(by show 4 ≤ sizeLine; decide), fun L hL => ?_⟩
    have N4 := Gr.new (M := M0) (o := .lst [.str "1:yes", .str "a", .str "b", .str "no"]) G3.bh hL
    have fL : (upd B3 L (.lst [.str "1:yes", .str "a", .str "b", .str "no"])) L = some (.lst [.str "1:yes", .str "a", .str "b", .str "no"]) := upd_same
    generalize upd B3 L (.lst [.str "1:yes", .str "a", .str "b", .str "no"]) = B4 at N4 fL
    generalize upd H3 L (.lst [.str "1:yes", .str "a", .str "b", .str "no"]) = H4 at N4 ⊢
    have ff4 := N4.hh _ _ (fun z => z) ff3
    have hfB4 := N4.bnone hfB3 (nn ff3)
    have G4 := G3.tr N4
    refine ⟨_, rfl, f, a3, mx, 4, rfl, ff4, by decide, by decide, fun a4 r r0 r4 => ?_⟩
    have G5 := G4.wr (o := .lst [.int a4, .int mx]) hfB4 (.inr hfH)
    have ff5 : (upd H4 f (.lst [.int a4, .int mx])) f = some (.lst [.int a4, .int mx]) := upd_same
    generalize upd H4 f (.lst [.int a4, .int mx]) = H5 at G5 ff5 ⊢
    refine ⟨_, _, rfl, rfl, _, rfl, L, _, rfl, SqL.of (G5.bh _ _ fL), fun p hp => ?_⟩
    obtain ⟨ts, ets, lts1, lts4, tsok⟩ : ∃ ts : List Str, cutV [V.str "1:yes", V.str "a", V.str "b", V.str "no"] none (some (1 + r)) = ts.map V.str ∧ 1 ≤ ts.length ∧ ts.length ≤ 4 ∧ ∀ x ∈ ts, PyData.strOk x = true := by
      rcases (show r = 0 ∨ r = 1 ∨ r = 2 ∨ r = 3 by omega) with rfl | rfl | rfl | rfl
      · exact ⟨["1:yes"], rfl, by decide, by decide, by decide +kernel⟩
      · exact ⟨["1:yes", "a"], rfl, by decide, by decide, by decide +kernel⟩
      · exact ⟨["1:yes", "a", "b"], rfl, by decide, by decide, by decide +kernel⟩
      · exact ⟨["1:yes", "a", "b", "no"], rfl, by decide, by decide, by decide +kernel⟩
    refine upd_eqL (fun Hx => gName 4 (.ref p) _ Hx _) ets ?_
    have N6 := Gr.new (M := M0) (o := .lst (ts.map V.str)) G5.bh hp
    have fp : (upd B4 p (.lst (ts.map V.str))) p = some (.lst (ts.map V.str)) := upd_same
    have G6 := G5.tr N6
    have he6 := N6.bb _ _ (N4.bb _ _ he)
    have hes6 := DtAll.mono (N4.tr ((Gr.refl N4.bh).tr (Gr.refl N4.bh))).bb _ _ hes
    have hes6 := DtAll.mono N6.bb _ _ hes6
    generalize upd B4 p (.lst (ts.map V.str)) = B6 at N6 G6 fp he6 hes6
    generalize upd H5 p (.lst (ts.map V.str)) = H6 at N6 G6 ⊢
    have ff6 := N6.hh _ _ (fun z => z) ff5
    have hfB6 := N6.bnone hfB4 (nn ff5)
    -- rooms
    refine ⟨_, rfl, f, a4, mx, 6, rfl, ff6, by decide, by decide, fun a5 r5 r50 r51 => ?_⟩
    have G7 := G6.wr (o := .lst [.int a5, .int mx]) hfB6 (.inr hfH)
    have ff7 : (upd H6 f (.lst [.int a5, .int mx])) f = some (.lst [.int a5, .int mx]) := upd_same
    generalize upd H6 f (.lst [.int a5, .int mx]) = H7 at G7 ff7 ⊢
    obtain ⟨R, hR, R1, R6⟩ : ∃ R : Nat, 1 + r5 = (R : Int) ∧ 1 ≤ R ∧ R ≤ 6 := ⟨(1 + r5).toNat, by omega, by omega, by omega⟩
    refine ⟨_, _, rfl, rfl, ?_⟩
    refine int_eq (R := fun v => gName 5 v _ _ _) (z := 1 + r5) hR ?_
    -- says
    refine ⟨_, rfl, f, a5, mx, 5, rfl, ff7, by decide, by decide, fun a6 r6 r60 r61 => ?_⟩
    have G8 := G7.wr (o := .lst [.int a6, .int mx]) hfB6 (.inr hfH)
    have ff8 : (upd H7 f (.lst [.int a6, .int mx])) f = some (.lst [.int a6, .int mx]) := upd_same
    generalize upd H7 f (.lst [.int a6, .int mx]) = H8 at G8 ff8 ⊢
    obtain ⟨S0, hS, S1, S5⟩ : ∃ S0 : Nat, 1 + r6 = (S0 : Int) ∧ 1 ≤ S0 ∧ S0 ≤ 5 := ⟨(1 + r6).toNat, by omega, by omega, by omega⟩
    refine ⟨_, _, rfl, rfl, ?_⟩
    refine int_eq (R := fun v => gName 6 v _ _ _) (z := 1 + r6) hS ?_
    -- state
    refine ⟨_, rfl, _, rfl, a, ns, 1, mx, rfl, G8.sq hs (fun z => z), by omega, by omega, by omega, by omega, fun r9 H9 e9 => ?_⟩
    have G9 := G8.tr (Gr.ex (M := M0) G8.bh e9)
    have ff9 := e9 _ _ ff8
    refine ⟨_, rfl, (by show 2 ≤ sizeLine; decide), fun st hst => ?_⟩
    have hstH := G9.free hst
    have hstB := G9.bh.free hst
    have nfs : f ≠ st := ne_of_none ff9 hst
    have G10 := G9.nwM (o := .lst [.int r9, .int mx]) hst
    have fs10 : (upd H9 st (.lst [.int r9, .int mx])) st = some (.lst [.int r9, .int mx]) := upd_same
    have ff10 : (upd H9 st (.lst [.int r9, .int mx])) f = some (.lst [.int a6, .int mx]) := by rw [upd_ne nfs]; exact ff9
    generalize upd H9 st (.lst [.int r9, .int mx]) = H10 at G10 fs10 ff10 ⊢
    -- sayings
    refine ⟨_, rfl, _, rfl, by omega, by omega, lc_dtI (walk_range (lo := 0)) (B := B6) (M := fun b => b = st) (fun d => ∃ l : List Nat, (l.length ≤ 2 ∧ ∀ t ∈ l, t < ts.length) ∧ d = iL (nats l)) (fun H' => ∃ a', H' st = some (.lst [.int a', .int mx])) G10.bh ⟨_, fs10⟩
      (fun D hD H' o ⟨a', h'⟩ => ⟨a', by rw [upd_ne (ne_of_none fs10 hD)]; exact h'⟩) (fun _ _ _ => trivial) (fun b z => by rw [z]; exact ⟨hstB, nn fs10⟩) (by omega) (fun i x B11 H11 H11' hi G11 ⟨a11, fs11⟩ hY R9 hR9 => ?_) (fun D ds acc B12 H12 hlen hpd G12 ⟨a12, fs12⟩ hDn hBD hHD dd => ?_)⟩
    · obtain ⟨rfl, rfl⟩ := hY
      have hsB11 := G11.bnone hstB (nn fs10)
      refine ⟨rfl, _, rfl, st, a11, mx, 3, rfl, fs11, by decide, by decide, fun a12 r12 r120 r121 => ?_⟩
      have P12 := Gr.put1 (o := .lst [.int a12, .int mx]) G11.bh hsB11
      have fs12 : (upd H11' st (.lst [.int a12, .int mx])) st = some (.lst [.int a12, .int mx]) := upd_same
      generalize upd H11' st (.lst [.int a12, .int mx]) = H12 at P12 fs12 ⊢
      refine ⟨_, rfl, by omega, by omega, lc_dtI (walk_range (lo := 0)) (B := B11) (M := fun b => b = st) (fun d => ∃ n : Nat, n < ts.length ∧ d = .int (n : Nat)) (fun H' => ∃ a', H' st = some (.lst [.int a', .int mx])) P12.bh ⟨_, fs12⟩
        (fun D hD H' o ⟨a', h'⟩ => ⟨a', by rw [upd_ne (ne_of_none fs12 hD)]; exact h'⟩) (fun _ _ _ => trivial) (fun b z => by rw [z]; exact ⟨hsB11, nn fs12⟩) (by omega) (fun j y B13 H13 H13' hj G13 ⟨a13, fs13⟩ hY R8 hR8 => ?_) (fun D ds acc B13 H13 hlen hpd G13 hI hDn hBD hHD dd => ?_)⟩
      · obtain ⟨rfl, rfl⟩ := hY
        have hsB13 := G13.bnone hsB11 (nn fs12)
        have fp13 := G13.bh _ _ (G13.bb _ _ (G11.bb _ _ fp))
        refine ⟨rfl, _, rfl, _, rfl, p, _, rfl, .inl (SqL.of fp13), st, a13, mx, _, rfl, fs13, by rw [List.length_map]; omega, by rw [List.length_map]; omega, fun a14 r14 r140 r141 => ?_⟩
        rw [List.length_map] at r141
        exact hR8 _ (.int (r14.toNat : Nat)) B13 _ (Gr.put1 G13.bh hsB13) ⟨a14, upd_same⟩ ⟨r14.toNat, by omega, rfl⟩ (by show V.int r14 = V.int _; congr 1; omega)
      · obtain ⟨l, rfl, hl⟩ := any_map (f := fun n : Nat => PyData.int (n : Nat)) ds hpd
        rw [List.length_map] at hlen
        have F13 := (P12.tr G13).fz (by rcases Option.eq_none_or_eq_some (H11' D) with q | ⟨o, q⟩; exact q; exact absurd hDn (P12.al D (nn q))) hBD hHD
        refine hR9 _ (iL (nats l)) _ _ F13 hI ⟨l, ⟨by omega, hl⟩, rfl⟩ ⟨D, acc, rfl, upd_same, ?_⟩
        have ed : (nats l).map PyData.int = l.map fun n : Nat => PyData.int (n : Nat) := by unfold nats; rw [List.map_map]; rfl
        rw [ed]
        exact DtAll.mono (Same.new hBD) _ _ dd
    · obtain ⟨sss, rfl, hsss⟩ := any_map (f := fun l : List Nat => iL (nats l)) ds hpd
      rw [List.length_map] at hlen
      have G12' : Gr M0 B H B12 H12 := G10.trans G12 fun c z => .inr (by rw [z]; exact hstH)
      have hDH := G10.free hDn
      have lacc := dd.len
      rw [List.length_map] at lacc
      -- sayings.append([])
      refine ⟨_, rfl, .inl ⟨rfl, _, SqL.of hHD⟩, Nat.zero_le _, fun q hq => ?_⟩
      have N13 := Gr.new (M := M0) (o := .lst []) G12'.bh hq
      have fq : (upd B12 q (.lst [])) q = some (.lst (([] : List Int).map V.int)) := upd_same
      have hHD13 : (upd H12 q (.lst [])) D = some (.lst acc) := by rw [upd_ne (ne_of_none hHD hq)]; exact hHD
      have hBD13 : (upd B12 q (.lst [])) D = none := by rw [upd_ne (ne_of_none hHD hq)]; exact hBD
      have dd13 := DtAll.mono N13.bb _ _ dd
      have ff12 : H12 f = some (.lst [.int a6, .int mx]) := G12.hh _ _ nfs ff10
      have ff13 := N13.hh _ _ (fun z => z) ff12
      have hfB12 := G12.bnone hfB6 (nn ff10)
      have hfB13 := N13.bnone hfB12 (nn ff12)
      refine ⟨D, acc, .ref q, rfl, rfl, hHD13, Nat.lt_of_le_of_lt (by omega : acc.length ≤ 1000) (by decide), ?_⟩
      generalize upd B12 q (.lst []) = B13 at N13 fq hBD13 dd13 hfB13
      generalize upd H12 q (.lst []) = H13 at N13 hHD13 ff13 ⊢
      have G13 := (G12'.tr N13).wr (o := .lst (acc ++ [.ref q])) hBD13 (.inr hDH)
      have nfD : f ≠ D := fun z => by rw [← z] at hDn; exact nn ff10 hDn
      have ff14 : (upd H13 D (.lst (acc ++ [.ref q]))) f = some (.lst [.int a6, .int mx]) := by rw [upd_ne nfD]; exact ff13
      have G14 := G13.fz hDH hBD13 upd_same
      have dS : DtAll (upd B13 D (.lst (acc ++ [.ref q]))) ((sss ++ [[]]).map fun l => iL (nats l)) (acc ++ [.ref q]) := by
        rw [List.map_append]
        exact (DtAll.mono (Same.new hBD13) _ _ dd13).snoc (iL_of (ns := []) (Same.new hBD13 _ _ fq))
      have fD : (upd B13 D (.lst (acc ++ [.ref q]))) D = some (.lst (acc ++ [.ref q])) := upd_same
      have B6_14 : Same B6 (upd B13 D (.lst (acc ++ [.ref q]))) := fun c o z => Same.new hBD13 _ _ (N13.bb _ _ (G12.bb _ _ z))
      have hfB14 : (upd B13 D (.lst (acc ++ [.ref q]))) f = none := by rw [upd_ne nfD]; exact hfB13
      generalize upd B13 D (.lst (acc ++ [.ref q])) = B14 at G14 dS fD B6_14 hfB14
      generalize upd H13 D (.lst (acc ++ [.ref q])) = H14 at G14 ff14 ⊢
      have fp14 := B6_14 _ _ fp
      have he14 := B6_14 _ _ he6
      have hes14 := DtAll.mono B6_14 _ _ hes6
      have lsss : sss.length = S0 := by omega
      have lSS : (acc ++ [V.ref q]).length = S0 + 1 := by rw [List.length_append, ← lacc, lsss]; rfl
      -- shapes = []
      refine ⟨Nat.zero_le _, fun shp hshp => ?_⟩
      have hshB := G14.bh.free hshp
      have nfsh : f ≠ shp := ne_of_none ff14 hshp
      have hshH := G14.free hshp
      have G15 := G14.nwM (o := .lst []) hshp
      have fsh15 : (upd H14 shp (.lst [])) shp = some (.lst []) := upd_same
      have ff15 : (upd H14 shp (.lst [])) f = some (.lst [.int a6, .int mx]) := by rw [upd_ne nfsh]; exact ff14
      generalize upd H14 shp (.lst []) = H15 at G15 fsh15 ff15 ⊢
      -- for k in range(1 + take)
      refine ⟨_, rfl, f, a6, mx, 5, rfl, ff15, by decide, by decide, fun a7 r7 r70 r71 => ?_⟩
      have G16 := G15.wr (o := .lst [.int a7, .int mx]) hfB14 (.inr hfH)
      have ff16 : (upd H15 f (.lst [.int a7, .int mx])) f = some (.lst [.int a7, .int mx]) := upd_same
      have fsh16 : (upd H15 f (.lst [.int a7, .int mx])) shp = some (.lst []) := by rw [upd_ne (Ne.symm nfsh)]; exact fsh15
      generalize upd H15 f (.lst [.int a7, .int mx]) = H16 at G16 ff16 fsh16 ⊢
      have hs16 := G16.sq hs (fun z => z)
      refine ⟨_, _, rfl, rfl, (1 + r7), rfl, by omega, by omega, for_range (lo := 0) (fun i σ H' => ∃ (B' : Hp) (xs : List V) (shs : List Sh) (x10 x11 : Option V), σ = [some (.ref a), some (.int mx), some (.ref f), some (.ref e), some (.ref p), some (.int (R : Nat)), some (.int (S0 : Nat)), some (.ref st), some (.ref D), some (.ref shp), x10, x11, none, none] ∧
          Gr (fun b => b = shp) B14 H16 B' H' ∧ B' shp = none ∧ H' shp = some (.lst xs) ∧ DtAll B' (shs.map fun s => iL s.cells) xs ∧ shs.length = i ∧ ∀ s ∈ shs, s.Ok evs.length (S0 + 1) R)
        ⟨B14, [], [], none, none, rfl, Gr.refl G16.bh, hshB, fsh16, rfl, rfl, (fun s hs => by cases hs)⟩ (fun i σ H17 hi ⟨B17, xs, shs, x10, x11, eσ, G17, hB17, hX17, dX, lsh, oks⟩ => ?_) (fun σ H17 ⟨B17, xs, shs, x10, x11, eσ, G17, hB17, hX17, dX, lsh, oks⟩ => ?_)⟩
      · subst eσ
        have lX := dX.len
        rw [List.length_map] at lX
        refine ⟨_, rfl, _, rfl, _, _, rfl, rfl, _, rfl, a, ns, 2 + (0 + (i : Int)), mx, rfl, (G16.trans G17 fun c z => .inr (by rw [z]; exact hshH)).sq hs (fun z => z), by omega, by omega, by omega, by omega, fun r18 H18 e18 => ?_⟩
        have G18 := G17.tr (Gr.ex G17.bh e18)
        have hX18 := e18 _ _ hX17
        refine ⟨_, rfl, (by show 2 ≤ sizeLine; decide), fun own hown => ?_⟩
        have hoB := G18.bh.free hown
        have hoH := G18.free hown
        have nso : shp ≠ own := ne_of_none hX18 hown
        have G19 := G18.nwM (o := .lst [.int r18, .int mx]) hown
        have fo19 : (upd H18 own (.lst [.int r18, .int mx])) own = some (.lst [.int r18, .int mx]) := upd_same
        have hX19 : (upd H18 own (.lst [.int r18, .int mx])) shp = some (.lst xs) := by rw [upd_ne nso]; exact hX18
        generalize upd H18 own (.lst [.int r18, .int mx]) = H19 at G19 fo19 hX19 ⊢
        refine ⟨_, rfl, .inl ⟨rfl, _, SqL.of hX19⟩, _, rfl, _, rfl, _, rfl, e, _, rfl, .inl (SqL.of (G19.bh _ _ (G19.bb _ _ he14))), _, rfl, D, _, rfl, .inl (SqL.of (G19.bh _ _ (G19.bb _ _ fD))), _, rfl, B17, own, r18, mx, i, evs.length, S0 + 1, R, (by rw [Int.zero_add, lSS, ← les]; rfl), G19.bh, hoB, fo19, l20, by omega, by omega, by omega, by omega, fun sh v' B20 H20 a20 oksh G20 fo20 dS20 => ?_⟩
        have GG := G19.trans G20 fun c z => .inr (by rw [z]; exact hoH)
        have hX20 := G20.hh _ _ nso hX19
        have hB20 := G20.bnone hB17 (nn hX19)
        refine ⟨shp, xs, v', rfl, rfl, hX20, Nat.lt_of_le_of_lt (by omega : xs.length ≤ 1000) (by decide), ?_⟩
        refine ⟨B20, xs ++ [v'], shs ++ [sh], _, _, rfl, GG.wr hB20 (.inl rfl), hB20, upd_same, ?_, by rw [List.length_append, lsh]; rfl, fun s hs => ?_⟩
        · rw [List.map_append]
          exact (DtAll.mono G20.bb _ _ dX).snoc dS20
        · rcases List.mem_append.mp hs with hs | hs
          · exact oks s hs
          · rw [List.mem_singleton.mp hs]; exact oksh
      · subst eσ
        have lsh1 : 1 ≤ shs.length ∧ shs.length ≤ 5 := ⟨by omega, by omega⟩
        have G17' : Gr M0 B H B17 H17 := G16.trans G17 fun c z => .inr (by rw [z]; exact hshH)
        have ff17 : H17 f = some (.lst [.int a7, .int mx]) := G17.hh _ _ nfsh ff16
        have hfB17 := G17.bnone hfB14 (nn ff16)
        have he17 := G17.bb _ _ he14
        have fD17 := G17.bb _ _ fD
        -- cells = []
        refine ⟨Nat.zero_le _, fun cel hcel => ?_⟩
        have hceB := G17.bh.free hcel
        have hceH := G17'.free hcel
        have nsc : shp ≠ cel := ne_of_none hX17 hcel
        have nfc : f ≠ cel := ne_of_none ff17 hcel
        have G18 := G17'.nwM (o := .lst []) hcel
        have hX18 : (upd H17 cel (.lst [])) shp = some (.lst xs) := by rw [upd_ne nsc]; exact hX17
        have hC18 : (upd H17 cel (.lst [])) cel = some (.lst []) := upd_same
        have ff18 : (upd H17 cel (.lst [])) f = some (.lst [.int a7, .int mx]) := by rw [upd_ne nfc]; exact ff17
        generalize upd H17 cel (.lst []) = H18 at G18 hX18 hC18 ff18 ⊢
        refine ⟨_, rfl, (R : Int), rfl, by omega, by omega, for_range (lo := 0) (fun i σ H' => ∃ (B' : Hp) (xs : List V) (shs : List Sh) (rms : List (Nat × Bool)) (x10 x11 : Option V), σ = [some (.ref a), some (.int mx), some (.ref f), some (.ref e), some (.ref p), some (.int (R : Nat)), some (.int (S0 : Nat)), some (.ref st), some (.ref D), some (.ref shp), x10, x11, some (.ref cel), none] ∧
            Gr (fun b => b = shp ∨ b = cel) B17 H18 B' H' ∧ B' shp = none ∧ B' cel = none ∧ H' shp = some (.lst xs) ∧ H' cel = some (.lst ((rms.map roomCell).map V.int)) ∧ DtAll B' (shs.map fun s => iL s.cells) xs ∧ rms.length = i ∧ 1 ≤ shs.length ∧ shs.length ≤ 5 + i ∧
            (∀ s ∈ shs, s.Ok evs.length (S0 + 1) R) ∧ (∀ r ∈ rms, r.1 < shs.length) ∧ ∀ (j s : Nat), rms[j]? = some (s, true) → ∀ sh, shs[s]? = some sh → ∀ p, sh.at p = (S0, j))
          ⟨B17, xs, shs, [], x10, x11, rfl, Gr.refl G18.bh, hB17, hceB, hX18, hC18, dX, rfl, lsh1.1, lsh1.2, oks, (fun r hr => by cases hr), (fun j s hj => by cases hj)⟩ (fun i σ H19 hi ⟨B19, xs, shs, rms, x10, x11, eσ, G19, hB19, hC19B, hX19, hC19, dX, lrm, ls1, ls2, oks, okr, over⟩ => ?_) (fun σ H19 ⟨B19, xs, shs, rms, x10, x11, eσ, G19, hB19, hC19B, hX19, hC19, dX, lrm, ls1, ls2, oks, okr, over⟩ => ?_)⟩
        · subst eσ
          have lX := dX.len
          rw [List.length_map] at lX
          have lC : ((rms.map roomCell).map V.int).length = i := by rw [List.length_map, List.length_map, lrm]
          refine ⟨_, rfl, _, rfl, _, _, rfl, rfl, _, rfl, a, ns, 8 + (0 + (i : Int)), mx, rfl, (G18.trans G19 fun c z => .inr (z.elim (fun z => by rw [z]; exact hshH) (fun z => by rw [z]; exact hceH))).sq hs (fun z => z), by omega, by omega, by omega, by omega, fun r20 H20 e20 => ?_⟩
          have G20 := G19.tr (Gr.ex G19.bh e20)
          have hX20 := e20 _ _ hX19
          have hC20 := e20 _ _ hC19
          refine ⟨_, rfl, (by show 2 ≤ sizeLine; decide), fun own hown => ?_⟩
          have hoB := G20.bh.free hown
          have hoH := G20.free hown
          have nso : shp ≠ own := ne_of_none hX20 hown
          have nco : cel ≠ own := ne_of_none hC20 hown
          have G21 := G20.nwM (o := .lst [.int r20, .int mx]) hown
          have fo21 : (upd H20 own (.lst [.int r20, .int mx])) own = some (.lst [.int r20, .int mx]) := upd_same
          have hX21 : (upd H20 own (.lst [.int r20, .int mx])) shp = some (.lst xs) := by rw [upd_ne nso]; exact hX20
          have hC21 : (upd H20 own (.lst [.int r20, .int mx])) cel = some (.lst ((rms.map roomCell).map V.int)) := by rw [upd_ne nco]; exact hC20
          generalize upd H20 own (.lst [.int r20, .int mx]) = H21 at G21 fo21 hX21 hC21 ⊢
          refine ⟨_, rfl, own, r20, mx, 4, rfl, fo21, by decide, by decide, fun a22 r22 r220 r221 => ?_⟩
          have G22 := G21.wr (o := .lst [.int a22, .int mx]) hoB (.inr hoH)
          have fo22 : (upd H21 own (.lst [.int a22, .int mx])) own = some (.lst [.int a22, .int mx]) := upd_same
          have hX22 : (upd H21 own (.lst [.int a22, .int mx])) shp = some (.lst xs) := by rw [upd_ne nso]; exact hX21
          have hC22 : (upd H21 own (.lst [.int a22, .int mx])) cel = some (.lst ((rms.map roomCell).map V.int)) := by rw [upd_ne nco]; exact hC21
          generalize upd H21 own (.lst [.int a22, .int mx]) = H22 at G22 fo22 hX22 hC22 ⊢
          refine ⟨rfl, _, rfl, ?_⟩
          refine ite2 (fun _ => ?_) (fun _ => ?_)
          · refine ⟨_, rfl, .inl ⟨rfl, _, SqL.of hC22⟩, _, rfl, shp, _, rfl, .inl (SqL.of hX22), _, _, rfl, rfl, .inl ⟨by decide, by decide⟩, _, _, rfl, rfl, cel, _, _, rfl, rfl, hC22, Nat.lt_of_le_of_lt (by omega : _ ≤ 1000) (by decide), ?_⟩
            have G23 := G22.wr (o := .lst ((rms.map roomCell).map V.int ++ [.int (2 * (xs.length : Nat) + 1)])) hC19B (.inl (.inr rfl))
            have fo23 : (upd H22 cel (.lst ((rms.map roomCell).map V.int ++ [.int (2 * (xs.length : Nat) + 1)]))) own = some (.lst [.int a22, .int mx]) := by rw [upd_ne (Ne.symm nco)]; exact fo22
            have hX23 : (upd H22 cel (.lst ((rms.map roomCell).map V.int ++ [.int (2 * (xs.length : Nat) + 1)]))) shp = some (.lst xs) := by rw [upd_ne nsc]; exact hX22
            have hC23 : (upd H22 cel (.lst ((rms.map roomCell).map V.int ++ [.int (2 * (xs.length : Nat) + 1)]))) cel = some (.lst ((rms.map roomCell).map V.int ++ [.int (2 * (xs.length : Nat) + 1)])) := upd_same
            generalize upd H22 cel (.lst ((rms.map roomCell).map V.int ++ [.int (2 * (xs.length : Nat) + 1)])) = H23 at G23 fo23 hX23 hC23 ⊢
            refine ⟨_, rfl, .inl ⟨rfl, _, SqL.of hX23⟩, _, rfl, _, rfl, e, _, rfl, .inl (SqL.of (G23.bh _ _ (G23.bb _ _ he17))), _, rfl, _, rfl, B19, own, a22, mx, evs.length, S0, i, (by rw [Int.zero_add, ← les]; rfl), G23.bh, hoB, fo23, l20, fun sh v' B24 H24 sw hat G24 dS24 => ?_⟩
            have GG := G23.trans G24 fun c z => .inr (by rw [z]; exact hoH)
            have hX24 := G24.hh _ _ nso hX23
            have hC24 := G24.hh _ _ nco hC23
            have hB24 := G24.bnone hB19 (nn hX23)
            have hcB24 := G24.bnone hC19B (nn hC23)
            refine ⟨shp, xs, v', rfl, rfl, hX24, Nat.lt_of_le_of_lt (by omega : xs.length ≤ 1000) (by decide), ?_⟩
            refine ⟨B24, xs ++ [v'], shs ++ [sh], rms ++ [(shs.length, true)], _, _, rfl, GG.wr hB24 (.inl (.inl rfl)), hB24, hcB24, upd_same, ?_, ?_, by rw [List.length_append, lrm]; rfl, by rw [List.length_append]; omega, by rw [List.length_append]; show shs.length + 1 ≤ 5 + (i + 1); omega, fun s hs => ?_, fun r hr => ?_, fun j s hj sh' hsh' p => ?_⟩
            · rw [upd_ne (Ne.symm nsc), hC24, List.map_append, List.map_append, ← lX]
              rfl
            · rw [List.map_append]
              exact (DtAll.mono G24.bb _ _ dX).snoc dS24
            · rcases List.mem_append.mp hs with hs | hs
              · exact oks s hs
              · rw [List.mem_singleton.mp hs]
                have hiR : i < R := by omega
                exact ⟨sw.c1, by have := sw.c2; omega, sw.up, fun t ht => ⟨(sw.tb t ht).1, (sw.tb t ht).2.1, by have := (sw.tb t ht).2.2; omega⟩, by have := sw.ln; omega⟩
            · rw [List.length_append]
              rcases List.mem_append.mp hr with hr | hr
              · exact Nat.lt_of_lt_of_le (okr r hr) (Nat.le_add_right _ _)
              · rw [List.mem_singleton.mp hr]; exact Nat.lt_succ_self _
            · by_cases hji : j < rms.length
              · rw [List.getElem?_append_left hji] at hj
                have hs' := okr _ (List.mem_of_getElem? hj)
                rw [List.getElem?_append_left hs'] at hsh'
                exact over j s hj sh' hsh' p
              · rw [List.getElem?_append_right (by omega)] at hj
                obtain ⟨hlt, ej⟩ := List.getElem?_eq_some_iff.mp hj
                have hj0 : j = i := by simp at hlt; omega
                simp at ej
                rw [← ej, List.getElem?_append_right (Nat.le_refl _)] at hsh'
                simp at hsh'
                rw [← hsh', hj0]
                exact hat p
          · refine ⟨_, rfl, .inl ⟨rfl, _, SqL.of hC22⟩, _, rfl, _, rfl, shp, _, rfl, .inl (SqL.of hX22), own, a22, mx, (xs.length : Nat), rfl, fo22, by omega, by omega, fun a23 r23 r230 r231 => ⟨_, _, rfl, rfl, .inl ⟨by decide, by decide⟩, ?_⟩⟩
            have G23 := G22.wr (o := .lst [.int a23, .int mx]) hoB (.inr hoH)
            have hX23 : (upd H22 own (.lst [.int a23, .int mx])) shp = some (.lst xs) := by rw [upd_ne nso]; exact hX22
            have hC23 : (upd H22 own (.lst [.int a23, .int mx])) cel = some (.lst ((rms.map roomCell).map V.int)) := by rw [upd_ne nco]; exact hC22
            generalize upd H22 own (.lst [.int a23, .int mx]) = H23 at G23 hX23 hC23 ⊢
            refine ⟨cel, _, _, rfl, rfl, hC23, Nat.lt_of_le_of_lt (by omega : _ ≤ 1000) (by decide), ?_⟩
            refine ⟨B19, xs, shs, rms ++ [(r23.toNat, false)], _, _, rfl, G23.wr hC19B (.inl (.inr rfl)), hB19, hC19B, by rw [upd_ne nsc]; exact hX23, ?_, dX, by rw [List.length_append, lrm]; rfl, ls1, by omega, oks, fun r hr => ?_, fun j s hj sh' hsh' p => ?_⟩
            · rw [upd_same, List.map_append, List.map_append]
              have e23 : roomCell (r23.toNat, false) = 2 * r23 := by unfold roomCell; simp; omega
              rw [List.map_cons, List.map_nil, e23]
              rfl
            · rcases List.mem_append.mp hr with hr | hr
              · exact okr r hr
              · rw [List.mem_singleton.mp hr]; show r23.toNat < shs.length; omega
            · by_cases hji : j < rms.length
              · rw [List.getElem?_append_left hji] at hj
                exact over j s hj sh' hsh' p
              · rw [List.getElem?_append_right (by omega)] at hj
                obtain ⟨hlt, ej⟩ := List.getElem?_eq_some_iff.mp hj
                simp at ej
        · subst eσ
          have G19' : Gr M0 B H B19 H19 := G18.trans G19 fun c z => .inr (z.elim (fun z => by rw [z]; exact hshH) (fun z => by rw [z]; exact hceH))
          have ff19 : H19 f = some (.lst [.int a7, .int mx]) := G19.hh _ _ (fun z => z.elim nfsh nfc) ff18
          have hfB19 := G19.bnone hfB17 (nn ff18)
          have F1 := G19'.fz hshH hB19 hX19
          have S1 := Same.new (o := .lst xs) hB19
          have fX : (upd B19 shp (.lst xs)) shp = some (.lst xs) := upd_same
          have hcB : (upd B19 shp (.lst xs)) cel = none := by rw [upd_ne (Ne.symm nsc)]; exact hC19B
          have hfB : (upd B19 shp (.lst xs)) f = none := by rw [upd_ne nfsh]; exact hfB19
          generalize upd B19 shp (.lst xs) = BX at F1 S1 fX hcB hfB
          have F2 := F1.fz hceH hcB hC19
          have S2 := Same.new (o := .lst ((rms.map roomCell).map V.int)) hcB
          have fC : (upd BX cel (.lst ((rms.map roomCell).map V.int))) cel = some (.lst ((rms.map roomCell).map V.int)) := upd_same
          have hfC : (upd BX cel (.lst ((rms.map roomCell).map V.int))) f = none := by rw [upd_ne nfc]; exact hfB
          generalize upd BX cel (.lst ((rms.map roomCell).map V.int)) = BC at F2 S2 fC hfC
          have BB : Same B17 BC := fun c o z => S2 _ _ (S1 _ _ (G19.bb _ _ z))
          have BB14 : Same B14 BC := fun c o z => BB _ _ (G17.bb _ _ z)
          refine ⟨_, rfl, _, rfl, _, rfl, _, rfl, _, rfl, _, rfl, _, rfl, D, _, rfl, .inl (SqL.of (F2.bh _ _ (BB _ _ fD17))), f, a7, mx, _, rfl, ff19, by omega, by omega, fun a20 r20 r200 r201 => ?_⟩
          have F3 := F2.wr (o := .lst [.int a20, .int mx]) hfC (.inr hfH)
          generalize upd H19 f (.lst [.int a20, .int mx]) = H20 at F3 ⊢
          refine ⟨(by show 6 ≤ sizeLine; decide), fun q9 hq9 => ?_⟩
          have N21 := Gr.new (M := M0) (o := .lst [.ref e, .ref p, .ref D, .ref shp, .ref cel, .int r20]) F3.bh hq9
          have okk : (Pk.mk r20.toNat rms shs (sss ++ [[]])).Ok evs.length ts.length := by
            have lss : (sss ++ [([] : List Nat)]).length = S0 + 1 := by rw [List.length_append, lsss]; rfl
            refine ⟨l1, l20, by omega, by show 1 ≤ rms.length; omega, by show rms.length ≤ 20; omega, by show r20.toNat < (sss ++ [[]]).length; omega, by show (sss ++ [[]]).length ≤ 500; omega, by show shs.length ≤ 20; omega, okr, fun s hs => ?_, fun s hs => ?_, fun i s hi sh hsh p hp => ?_⟩
            · show s.Ok evs.length (sss ++ [[]]).length rms.length
              rw [lss, lrm]
              exact oks s hs
            · rcases List.mem_append.mp hs with hs | hs
              · have := hsss s hs
                exact ⟨by omega, this.2⟩
              · rw [List.mem_singleton.mp hs]; exact ⟨Nat.zero_le _, fun t ht => by cases ht⟩
            · have := over i s hi sh hsh p
              rw [this]
              refine ⟨?_, rfl⟩
              show (sss ++ [[]])[S0]? = some []
              rw [List.getElem?_append_right (by omega), lsss]
              simp
          refine kk evs ts (Pk.mk r20.toNat rms shs (sss ++ [[]])) _ _ _ okk evok tsok (F3.tr N21) ⟨q9, _, rfl, upd_same, ?_⟩
          have eSay : (Pk.mk r20.toNat rms shs (sss ++ [[]])).sayL.map iL = (sss ++ [[]]).map fun l => iL (nats l) := by unfold Pk.sayL; rw [List.map_map]; rfl
          have eShp : (Pk.mk r20.toNat rms shs (sss ++ [[]])).shapeL.map iL = shs.map fun s => iL s.cells := by unfold Pk.shapeL; rw [List.map_map]; rfl
          rw [eSay, eShp]
          refine ⟨_, _, rfl, ⟨e, es, rfl, N21.bb _ _ (BB _ _ he17), DtAll.mono (fun c o z => N21.bb _ _ (BB14 _ _ z)) _ _ hes14⟩, _, _, rfl, sL_of (N21.bb _ _ (BB14 _ _ fp14)), _, _, rfl, ⟨D, _, rfl, N21.bb _ _ (BB _ _ fD17), DtAll.mono (fun c o z => N21.bb _ _ (BB14 _ _ z)) _ _ dS⟩, _, _, rfl, ⟨shp, xs, rfl, N21.bb _ _ (S2 _ _ fX), DtAll.mono (fun c o z => N21.bb _ _ (S2 _ _ (S1 _ _ z))) _ _ dX⟩, _, _, rfl, iL_of (N21.bb _ _ fC), _, _, rfl, ?_, rfl⟩
          show V.int r20 = V.int ((r20.toNat : Nat) : Int)
          congr 1
          omega
end
end Mill

namespace Mill
open PySem PySem.Spec PyProof.Rows L2 LamX NdefX
theorem pa_of {B : Hp} {v : V} {evs : List PyData} {ts : List Str} {k : Pk} (h : Dt B (partsD evs ts k) v) : ∃ pl ve vt vy vs vr, v = .ref pl ∧ B pl = some (.lst [ve, vt, vy, vs, vr, .int (k.saying : Nat)]) ∧ Dt B (.list evs) ve ∧ Dt B (sL ts) vt ∧ Dt B (.list (k.sayL.map iL)) vy ∧ Dt B (.list (k.shapeL.map iL)) vs ∧ Dt B (iL (k.rooms.map roomCell)) vr := by
  obtain ⟨t, xs, e1, e2, y1, r1, e3, h1, y2, r2, e4, h2, y3, r3, e5, h3, y4, r4, e6, h4, y5, r5, e7, h5, y6, r6, e8, h6, e9⟩ := h
  obtain rfl : y6 = V.int _ := h6
  rw [e9] at e8
  rw [e8] at e7
  rw [e7] at e6
  rw [e6] at e5
  rw [e5] at e4
  rw [e4] at e3
  rw [e3] at e2
  exact ⟨t, y1, y2, y3, y4, y5, e1, e2, h1, h2, h3, h4, h5⟩
section
variable {P : Program} {w : World} {K : PySem.W.Frag} {mg : Str → Option Value} {base : Heap}
/-! ### _law_texts -/
def spLTexts : Sp := fun vs H Q _ => ∃ (B : Hp) (v : V) (evs : List PyData) (ts : List Str) (k : Pk) (n : Nat), vs = [v, .int (n : Nat)] ∧ Same B H ∧ Dt B (partsD evs ts k) v ∧ k.Ok evs.length ts.length ∧ n < k.sayings.length ∧
  ∀ v' B' H', Gr M0 B H B' H' → Dt B' (sL (k.sayT ts n)) v' → Q v' H'
theorem scLTexts : FnScope ["parts", "saying", "place"] ["parts", "saying"] (defScope lTexts) := ⟨rfl, rfl, rfl, by decide +kernel, rfl, by decide +kernel, by decide +kernel⟩
theorem ok_ltexts {f : Addr} {fd : FuncData} (F : Fun K "_law_texts" "_law_texts" lTexts f fd) (T : Blt mg) : FnOk P w K mg base CX0 1 f fd ["parts", "saying"] spLTexts := by
  refine F.ok scLTexts (fun vs H Q E h => ?_) (fun cdv A outer s H vs Q E hr h => ?_)
  · obtain ⟨B, v, evs, ts, k, n, rfl, _⟩ := h
    rfl
  · obtain ⟨B, v, evs, ts, k, n, rfl, sm, dv, ok, hn, kk⟩ := h
    obtain ⟨pl, ve, vt, vy, vs, vr, rfl, hpl, dve, dvt, dvy, dvs, dvr⟩ := pa_of dv
    obtain ⟨t, rfl, ht⟩ := dt_sL dvt
    obtain ⟨yl, ys, rfl, hyl, hys⟩ := dvy
    have nd := scLTexts.nd
    refine ⟨_, pss_one (ps_ret (pe_lc (own := [("place", 2)]) (g := gName 2) (tt := tYes) (te := tOp (rIxL K) (tOp (rIxL K) (tVar 0) (tC (.int 1))) (tVar 2)) (by rfl) nd
      (pi_list (pe_ix ix_list (pe_ix ix_list (pv 0) pe_int (fun _ _ => rfl)) (pv 1) (fun _ _ => rfl))) (blkOk_by (own := [("place", 2)]) (N := ["parts", "saying", "place"]) (sc := defScope lTexts) (by decide +kernel))
      (fun _ _ _ _ _ => pg_name (i := 2) nd rfl (Or.inl rfl)) (fun _ _ _ _ _ => pts_nil) (fun _ _ _ _ _ => pe_ix (r := rIxL K) ix_list (pe_ix (r := rIxL K) ix_list (pv 0) pe_int (fun _ _ => rfl)) (pv 2) (fun _ _ => rfl)))), ?_⟩
    have hsay : k.sayings[n]? = some k.sayings[n] := List.getElem?_eq_getElem hn
    have hsgd : k.sayT ts n = textsOf ts k.sayings[n] := by unfold Pk.sayT; rw [List.getD_eq_getElem?_getD, hsay]; rfl
    generalize k.sayings[n] = sy at hsay hsgd
    obtain ⟨okl, okm⟩ := ok.texts sy (List.mem_of_getElem? hsay)
    have hyl2 : (k.sayL.map iL)[n]? = some (iL (nats sy)) := by
      unfold Pk.sayL
      rw [List.getElem?_map, List.getElem?_map, hsay]
      rfl
    obtain ⟨yv, hyv, dyv⟩ := hys.get hyl2
    obtain ⟨al, rfl, hal⟩ := dt_iL dyv
    have lns : (nats sy).length = sy.length := by unfold nats; rw [List.length_map]
    refine ⟨_, rfl, pl, _, _, _, rfl, rfl, SqL.of (sm _ _ hpl), atI_i (j := 2) rfl rfl, _, rfl, yl, _, _, _, rfl, rfl, SqL.of (sm _ _ hyl), atI_nat hyv, al, rfl, ⟨_, SqL.of (sm _ _ hal)⟩,
      lc_dt0 (K := K) (al := al) (xs := (nats sy).map V.int) (B := B) (M := M0) ((textsOf ts sy).map .str) hal sm noM (by unfold textsOf; rw [List.length_map, List.length_map, List.length_map, lns]) (by rw [List.length_map, lns]; omega) (fun i x d B1 H1 hx hd G1 R hR => ?_) (fun D B1 H1 G1 dD => ?_)⟩
    · obtain ⟨z, hz, rfl⟩ := map_get hx
      unfold nats at hz
      obtain ⟨m, hm, rfl⟩ := map_get hz
      have hm' := okm m (List.mem_of_getElem? hm)
      have hts : ts[m]? = some ts[m] := List.getElem?_eq_getElem hm'
      obtain ⟨y, hy, rfl⟩ := map_get hd
      have hto : (textsOf ts sy)[i]? = some ts[m] := by
        unfold textsOf
        rw [List.getElem?_map, hm]
        show some (ts.getD m default) = _
        rw [List.getD_eq_getElem?_getD, hts]; rfl
      rw [hto] at hy
      injection hy with hy
      subst hy
      refine ⟨rfl, _, rfl, pl, _, _, _, rfl, rfl, SqL.of (G1.bh _ _ (G1.bb _ _ hpl)), atI_i (j := 1) rfl rfl, _, rfl, t, _, _, _, rfl, rfl, SqL.of (G1.bh _ _ (G1.bb _ _ ht)), atI_nat (by rw [List.getElem?_map, hts]; rfl), ?_⟩
      exact hR _ _ _ (Gr.refl G1.bh) rfl
    · refine kk _ _ _ G1 ?_
      rw [hsgd]
      exact dD
/-! ### _law_row -/
def spLRow : Sp := fun vs H Q _ => ∃ (B : Hp) (v vh : V) (evs : List PyData) (ts : List Str) (k : Pk) (sh : Sh) (p : Nat), vs = [v, vh, .int (p : Nat)] ∧ Same B H ∧ Dt B (partsD evs ts k) v ∧ k.Ok evs.length ts.length ∧ Dt B (iL sh.cells) vh ∧ sh.Ok evs.length k.sayings.length k.rooms.length ∧
  ∀ v' B' H', Gr M0 B H B' H' → Dt B' (cellD (k.cell ts sh p)) v' → Q v' H'
theorem scLRow : FnScope ["parts", "shape", "place", "at"] ["parts", "shape", "place"] (defScope lRow) := ⟨rfl, rfl, rfl, by decide +kernel, rfl, by decide +kernel, by decide +kernel⟩
theorem ok_lrow {f fX : Addr} {fd fdX : FuncData} (F : Fun K "_law_row" "_law_row" lRow f fd) (T : Blt mg) (AX : At K mg "_law_texts" ["parts", "saying"] lTexts fX fdX) : FnOk P w K mg base CX0 2 f fd ["parts", "shape", "place"] spLRow := by
  have GX : FnOk P w K mg base CX0 1 fX fdX ["parts", "saying"] spLTexts := ok_ltexts AX.fn T
  refine F.ok scLRow (fun vs H Q E h => ?_) (fun cdv A outer s0 H vs Q E hr h => ?_)
  · obtain ⟨B, v, vh, evs, ts, k, sh, p, rfl, _⟩ := h
    rfl
  · obtain ⟨B, v, vh, evs, ts, k, s, p, rfl, sm, dv, okk, dvh, ok, kk⟩ := h
    obtain ⟨a, rfl, ha⟩ := dt_iL dvh
    have hH := sm _ _ ha
    refine ⟨_, pss_cons (ps_for PassesOwn.never rfl (pi_range3 rfl T.range (pa_cons pe_int (pa_cons (pe_callB call_len_seq (by rfl) T.len PySem.boot_len (pa_cons (pv 1) pa_nil)) (pa_cons pe_int pa_nil)))) (pg_name (i := 3) scLRow.nd rfl (Or.inl rfl))
        (pss_one (ps_if (pt_cmpR op_eq (pe_ix ix_list (pv 1) (pv 3) (fun _ _ => rfl)) (pv 2) (nomark _)) (pss_one (ps_ret (pe_tup (pa_cons (pe_call GX hr rfl AX.mgf AX.fn.kp AX.bd .nil pass0 (pa_cons (pv 0) (pa_cons (pe_ix ix_list (pv 1) (pe_op op_add (pv 3) pe_int) (fun _ _ => rfl)) pa_nil))) (pa_cons (pe_ix ix_list (pv 1) (pe_op op_add (pv 3) pe_int) (fun _ _ => rfl)) pa_nil))))) pss_nil)))
      (pss_one (ps_ret (pe_tup (pa_cons (pe_call GX hr rfl AX.mgf AX.fn.kp AX.bd .nil pass0 (pa_cons (pv 0) (pa_cons (pe_ix ix_list (pv 1) pe_int (fun _ _ => rfl)) pa_nil))) (pa_cons (pe_ix ix_list (pv 1) pe_int (fun _ _ => rfl)) pa_nil))))), ?_⟩
    refine ⟨_, rfl, a, _, rfl, .inl (SqL.of hH), 2, _, 3, s.ts.length, rfl, ?_, for_rangeC (lo := 2) (c := 3) (n := s.ts.length) (fun i σ H' => ∃ x, σ = [some v, some (.ref a), some (.int (p : Nat)), x] ∧ H' = H ∧ ∀ (j : Nat) t, j < i → s.ts[j]? = some t → t.1 ≠ p)
      ⟨none, rfl, rfl, fun j t h => absurd h (Nat.not_lt_zero _)⟩ ?_ ?_⟩
    · have := s.len
      have hl := ok.ln
      rw [List.length_map]
      refine rg3 (by decide) (by decide) (by omega) ?_ (by omega) (by omega)
      by_cases h : s.ts.length = 0
      · exact .inr ⟨h, by omega⟩
      · exact .inl (by omega)
    · rintro i σ H' hi ⟨x, rfl, rfl, hj⟩
      have ht : s.ts[i]? = some s.ts[i] := List.getElem?_eq_getElem hi
      generalize s.ts[i] = t at ht
      obtain ⟨g0, g1, g2⟩ := s.get ht
      refine ⟨_, rfl, _, rfl, a, _, _, _, rfl, rfl, SqL.of hH, atI_i (j := 2 + 3 * i) (by omega) (map_at g0), _, rfl, rfl, _, rfl, ?_⟩
      refine ite2 (fun e => ?_) (fun e => ?_)
      · have e1 : t.1 = p := by
          have := of_decide_eq_true e
          injection this with this
          omega
        have tb := ok.tb t (List.mem_of_getElem? ht)
        have hat := Sh.at_hit ok ht
        rw [e1] at hat
        refine ⟨_, rfl, _, rfl, _, rfl, _, _, rfl, rfl, a, _, _, _, rfl, rfl, SqL.of hH, atI_i (j := 3 + 3 * i) (by omega) (map_at g1), B, v, evs, ts, k, t.2.1, rfl, sm, dv, okk, tb.2.1, fun v' B1 H1 G1 d1 => ?_⟩
        refine ⟨_, rfl, _, rfl, _, _, rfl, rfl, a, _, _, _, rfl, rfl, SqL.of (G1.bh _ _ (G1.bb _ _ ha)), atI_i (j := 4 + 3 * i) (by omega) (map_at g2), (by show 2 ≤ sizeLine; decide), fun q hq => ?_⟩
        have N := Gr.new (M := M0) (o := .tup [v', .int (t.2.2 : Nat)]) G1.bh hq
        refine kk _ _ _ (G1.tr N) ?_
        unfold cellD Pk.cell
        rw [hat]
        exact tup2 (d2 := .int (t.2.2 : Nat)) upd_same (Dt.mono N.bb _ _ d1) rfl
      · refine ⟨_, rfl, rfl, fun j u hju hu => ?_⟩
        by_cases ej : j = i
        · subst ej
          rw [ht] at hu
          cases hu
          intro q
          exact e (decide_eq_true (by rw [q]))
        · exact hj j u (by omega) hu
    · rintro σ H' ⟨x, rfl, rfl, hj⟩
      have miss : s.at p = s.c := Sh.at_miss fun t ht => by
        obtain ⟨j, hj'⟩ := List.mem_iff_getElem?.mp ht
        exact hj j t (List.getElem?_eq_some_iff.mp hj').1 hj'
      refine ⟨_, rfl, _, rfl, a, _, _, _, rfl, rfl, SqL.of hH, atI_i (j := 0) rfl (map_at s.get0), B, v, evs, ts, k, s.c.1, rfl, sm, dv, okk, ok.c1, fun v' B1 H1 G1 d1 => ?_⟩
      refine ⟨_, rfl, a, _, _, _, rfl, rfl, SqL.of (G1.bh _ _ (G1.bb _ _ ha)), atI_i (j := 1) rfl (map_at s.get1), (by show 2 ≤ sizeLine; decide), fun q hq => ?_⟩
      have N := Gr.new (M := M0) (o := .tup [v', .int (s.c.2 : Nat)]) G1.bh hq
      refine kk _ _ _ (G1.tr N) ?_
      unfold cellD Pk.cell
      rw [miss]
      exact tup2 (d2 := .int (s.c.2 : Nat)) upd_same (Dt.mono N.bb _ _ d1) rfl
end
end Mill

namespace Mill
open PySem PySem.Spec PyProof.Rows L2 LamX NdefX
theorem cells_bound {k : Pk} {E T : Nat} (ok : k.Ok E T) : k.head.length ≤ 24 ∧ (∀ b ∈ k.shapeL, b.length ≤ 62) ∧ (∀ b ∈ k.sayL, b.length ≤ 20) ∧ k.shapeL.length ≤ 20 ∧ k.sayL.length ≤ 500 := by
  refine ⟨by rw [head_len]; have := ok.r2; omega, fun b hb => ?_, fun b hb => ?_, by unfold Pk.shapeL; rw [List.length_map]; exact ok.h2, by unfold Pk.sayL; rw [List.length_map]; exact ok.s2⟩
  · unfold Pk.shapeL at hb
    obtain ⟨s, hs, rfl⟩ := List.mem_map.mp hb
    rw [Sh.len]
    have := (ok.shape s hs).ln
    omega
  · unfold Pk.sayL at hb
    obtain ⟨s, hs, rfl⟩ := List.mem_map.mp hb
    unfold nats
    rw [List.length_map]
    exact (ok.texts s hs).1
section
variable {P : Program} {w : World} {K : PySem.W.Frag} {mg : Str → Option Value} {base : Heap}
/-! ### _law_table -/
def spLTable : Sp := fun vs H Q _ => ∃ (B : Hp) (v : V) (evs : List PyData) (ts : List Str) (k : Pk), vs = [v] ∧ Same B H ∧ Dt B (partsD evs ts k) v ∧ k.Ok evs.length ts.length ∧
  ∀ v' B' H', Gr M0 B H B' H' → Dt B' (tableD evs (k.tb ts evs.length)) v' → Q v' H'
theorem scLTable : FnScope ["parts", "rooms", "room", "shape", "place"] ["parts"] (defScope lTable) := ⟨rfl, rfl, rfl, by decide +kernel, rfl, by decide +kernel, by decide +kernel⟩
theorem ok_ltable {f fR fX : Addr} {fd fdR fdX : FuncData} (F : Fun K "_law_table" "_law_table" lTable f fd) (T : Blt mg) (AR : At K mg "_law_row" ["parts", "shape", "place"] lRow fR fdR) (AX : At K mg "_law_texts" ["parts", "saying"] lTexts fX fdX) : FnOk P w K mg base CX0 3 f fd ["parts"] spLTable := by
  have GX : FnOk P w K mg base CX0 1 fX fdX ["parts", "saying"] spLTexts := ok_ltexts AX.fn T
  have GR : FnOk P w K mg base CX0 2 fR fdR ["parts", "shape", "place"] spLRow := ok_lrow AR.fn T AX
  refine F.ok scLTable (fun vs H Q E h => ?_) (fun cdv A outer s H vs Q E hr h => ?_)
  · obtain ⟨B, v, evs, ts, k, rfl, _⟩ := h
    rfl
  · obtain ⟨B, v, evs, ts, k, rfl, sm, dv, ok, kk⟩ := h
    obtain ⟨pl, ve, vt, vy, vs, vr, rfl, hpl, dve, dvt, dvy, dvs, dvr⟩ := pa_of dv
    obtain ⟨e, es, rfl, he, hes⟩ := id dve
    obtain ⟨rl, rfl, hrl⟩ := dt_iL dvr
    obtain ⟨sl, ss, rfl, hsl, hss⟩ := id dvs
    have les := hes.len
    have nd := scLTable.nd
    have hr1 : Room 1 _ := hr.mono (by decide)
    refine ⟨_, pss_cons (ps_set (i := 1) nd rfl (Or.inl rfl) (pe_lst pa_nil))
      (pss_cons (ps_for PassesOwn.never rfl (pi_list (pe_ix ix_list (pv 0) pe_int (fun _ _ => rfl))) (pg_name (i := 2) nd rfl (Or.inl rfl))
        (pss_cons (ps_set (i := 3) nd rfl (Or.inr rfl) (pe_ix ix_list (pe_ix ix_list (pv 0) pe_int (fun _ _ => rfl)) (pe_op op_fdiv (pv 2) pe_int) (fun _ _ => rfl)))
        (pss_one (ps_expr (pe_bm PySem.F.plainAttrs_list PySem.F.slot_list_append PySem.F.type_list_append mt_append (pv 1) (pa_cons (pe_tup (pa_cons (pe_cmpR op_eq (pe_op op_mod (pv 2) pe_int) pe_int (nomark _)) (pa_cons
          (pe_lc (own := [("place", 4)]) (g := gName 4) (tt := tYes) (te := tCall spLRow [] E0 (tCons (tVar 0) (tCons (tVar 3) (tCons (tVar 4) tNil)))) (by rfl) nd
            (pi_range1 rfl T.range (pa_cons (pe_callB call_len_seq (by rfl) T.len PySem.boot_len (pa_cons (pe_ix ix_list (pv 0) pe_int (fun _ _ => rfl)) pa_nil)) pa_nil)) (blkOk_by (own := [("place", 4)]) (N := ["parts", "rooms", "room", "shape", "place"]) (sc := defScope lTable) (by decide +kernel))
            (fun _ _ _ _ _ => pg_name (i := 4) nd rfl (Or.inl rfl)) (fun _ _ _ _ _ => pts_nil) (fun _ _ _ _ _ => pe_call GR hr rfl AR.mgf AR.fn.kp AR.bd .nil pass0 (pa_cons (pv 0) (pa_cons (pv 3) (pa_cons (pv 4) pa_nil))))) pa_nil))) pa_nil))))))
      (pss_one (ps_ret (pe_tup (pa_cons (pe_callTy (r := rListOf K) call_list_of (by rfl) T.list (by decide +kernel) (pa_cons (pe_ix ix_list (pv 0) pe_int (fun _ _ => rfl)) pa_nil)) (pa_cons (pe_call GX hr1 rfl AX.mgf AX.fn.kp AX.bd .nil pass0 (pa_cons (pv 0) (pa_cons (pe_ix ix_list (pv 0) pe_int (fun _ _ => rfl)) pa_nil))) (pa_cons (pv 1) pa_nil))))))), ?_⟩
    refine ⟨Nat.zero_le _, fun l hl => ?_⟩
    have G0 := (Gr.refl (M := M0) sm).nwM (o := .lst []) hl
    have hr20 := ok.r2
    have he20 := ok.e2
    refine ⟨_, rfl, pl, _, _, _, rfl, rfl, SqL.of (G0.bh _ _ hpl), atI_i (j := 4) rfl rfl, rl, rfl, ⟨_, SqL.of (G0.bh _ _ hrl)⟩, for_list (K := K) (a := rl) (xs := (k.rooms.map roomCell).map V.int) (fun i σ H' => ∃ (B1 : Hp) (xs : List V) (x2 x3 : Option V), σ = [some (.ref pl), some (.ref l), x2, x3, none] ∧ Gr M0 B H B1 H' ∧ B1 l = none ∧ H' l = some (.lst xs) ∧ DtAll B1 (((k.tb ts evs.length).rooms.take i).map roomD) xs)
      ⟨B, [], none, none, rfl, G0, sm.free hl, upd_same, rfl⟩ (fun i σ H' _ ⟨B1, xs, x2, x3, _, G, _⟩ => SqL.of (G.bh _ _ (G.bb _ _ hrl))) (fun i x σ H1 hx ⟨B1, xs, x2, x3, eσ, G1, hB1, hL1, hD1⟩ => ?_) (fun σ H1 ⟨B1, xs, x2, x3, eσ, G1, hB1, hL1, hD1⟩ => ?_)⟩
    · subst eσ
      rw [List.getElem?_map, List.getElem?_map] at hx
      obtain ⟨c2, hc2, rfl⟩ := Option.map_eq_some_iff.mp hx
      obtain ⟨r, hr2, rfl⟩ := Option.map_eq_some_iff.mp hc2
      have hi9 := (List.getElem?_eq_some_iff.mp hr2).1
      have hrs := ok.room r (List.mem_of_getElem? hr2)
      have hsh : k.shapes[r.1]? = some k.shapes[r.1] := List.getElem?_eq_getElem hrs
      have hgd : k.shapes.getD r.1 default = k.shapes[r.1] := by rw [List.getD_eq_getElem?_getD, hsh]; rfl
      generalize k.shapes[r.1] = sh at hsh hgd
      have hsl2 : (k.shapeL.map iL)[r.1]? = some (iL sh.cells) := by
        unfold Pk.shapeL
        rw [List.getElem?_map, List.getElem?_map, hsh]
        rfl
      obtain ⟨xv, hxv, dxv⟩ := hss.get hsl2
      have oksh := ok.shape sh (List.mem_of_getElem? hsh)
      have hatr : atI ss (roomCell r / 2) = some xv := by rw [roomCell_div]; exact atI_nat hxv
      have hrow : k.row ts evs.length r.1 = (List.range evs.length).map fun p => k.cell ts sh p := by unfold Pk.row; rw [hgd]
      have hpl1 := G1.bh _ _ (G1.bb _ _ hpl)
      have hlx := hD1.len
      rw [List.length_map, List.length_take] at hlx
      refine ⟨_, rfl, pl, _, _, _, rfl, rfl, SqL.of hpl1, atI_i (j := 3) rfl rfl, _, rfl, _, _, rfl, rfl, ⟨by decide, by decide⟩, sl, _, _, _, rfl, rfl, SqL.of (G1.bh _ _ (G1.bb _ _ hsl)), hatr, ?_⟩
      refine ⟨_, rfl, .inl ⟨rfl, _, SqL.of hL1⟩, _, rfl, _, _, rfl, rfl, (by show (0 : Int) < 2; decide), rfl, _, rfl, pl, _, _, _, rfl, rfl, SqL.of hpl1, atI_i (j := 0) rfl rfl, e, _, rfl, .inl (SqL.of (G1.bh _ _ (G1.bb _ _ he))), _, rfl, by omega, by omega,
        lc_dtW (walk_range (lo := 0)) (B := B1) (M := M0) ((k.row ts evs.length r.1).map cellD) G1.bh (fun _ _ _ => trivial) noM (by rw [hrow, List.length_map, List.length_map, List.length_range, les]; omega) (by omega) (fun j y d B2 H2 H2' hj hd2 G2 hY R hR => ?_) (fun D B2 H2 G2 dD => ?_)⟩
      · obtain ⟨rfl, rfl⟩ := hY
        obtain ⟨c, hc, rfl⟩ := map_get hd2
        rw [hrow, List.getElem?_map] at hc
        obtain ⟨p, hp, rfl⟩ := Option.map_eq_some_iff.mp hc
        have hpj : p = j := by
          obtain ⟨hlt, ep⟩ := List.getElem?_eq_some_iff.mp hp
          rw [List.getElem_range] at ep
          exact ep.symm
        subst hpj
        refine ⟨rfl, _, rfl, _, rfl, _, rfl, B2, .ref pl, xv, evs, ts, k, sh, p, (by show [V.ref pl, xv, V.int (0 + (p : Int))] = _; rw [Int.zero_add]), G2.bh, Dt.mono (G1.tr G2).bb _ _ dv, ok, Dt.mono (G1.tr G2).bb _ _ dxv, oksh, fun v' B3 H3 G3 d3 => hR _ _ _ G3 d3⟩
      · rw [roomCell_odd r]
        refine ⟨(by show 2 ≤ sizeLine; decide), fun q hq => ?_⟩
        have hL2 : H2 l = some (.lst xs) := G2.hh _ _ (fun z => z) hL1
        have hB2 := G2.bnone hB1 (nn hL1)
        have N3 := Gr.new (M := M0) (o := .tup [.bl r.2, .ref D]) G2.bh hq
        have hL3 := N3.hh _ _ (fun z => z) hL2
        have hB3 := N3.bnone hB2 (nn hL2)
        have d3 : Dt (upd B2 q (.tup [.bl r.2, .ref D])) (roomD (r.2, k.row ts evs.length r.1)) (.ref q) := tup2 upd_same rfl (Dt.mono N3.bb _ _ dD)
        refine ⟨l, xs, .ref q, rfl, rfl, hL3, Nat.lt_of_le_of_lt (by omega : xs.length ≤ 2000) (by decide), ?_⟩
        refine ⟨_, xs ++ [.ref q], _, _, rfl, ((G1.tr G2).tr N3).wr hB3 (.inr hl), hB3, upd_same, ?_⟩
        have hri : (k.tb ts evs.length).rooms[i]? = some (r.2, k.row ts evs.length r.1) := by
          unfold Pk.tb
          rw [List.getElem?_map, hr2]
          rfl
        rw [map_take_succ roomD hri]
        exact (DtAll.mono (G2.tr N3).bb _ _ hD1).snoc d3
    · subst eσ
      have e1 : (k.rooms.map roomCell).length = (k.tb ts evs.length).rooms.length := by unfold Pk.tb; rw [List.length_map, List.length_map]
      rw [List.length_map, e1, List.take_length] at hD1
      have F1 := G1.fz hl hB1 hL1
      have S1 := Same.new (o := .lst xs) hB1
      have hl2 : (upd B1 l (.lst xs)) l = some (.lst xs) := upd_same
      have hD2 := DtAll.mono S1 _ _ hD1
      generalize upd B1 l (.lst xs) = B2 at F1 S1 hl2 hD2
      refine ⟨_, rfl, pl, _, _, _, rfl, rfl, SqL.of (F1.bh _ _ (F1.bb _ _ hpl)), atI_i (j := 0) rfl rfl, e, _, rfl, .inl (SqL.of (F1.bh _ _ (F1.bb _ _ he))), fun l1 hl1 => ?_⟩
      have N3 := Gr.new (M := M0) (o := .lst es) F1.bh hl1
      have hl3 : (upd B2 l1 (.lst es)) l1 = some (.lst es) := upd_same
      generalize upd B2 l1 (.lst es) = B3 at N3 hl3
      generalize upd H1 l1 (.lst es) = H3 at N3 ⊢
      have F3 := F1.tr N3
      refine ⟨_, rfl, _, rfl, pl, _, _, _, rfl, rfl, SqL.of (F3.bh _ _ (F3.bb _ _ hpl)), atI_i (j := 5) rfl rfl, B3, .ref pl, evs, ts, k, k.saying, rfl, F3.bh, Dt.mono F3.bb _ _ dv, ok, ok.s1, fun v' B4 H4 G4 d4 => ?_⟩
      refine ⟨_, rfl, (by show 3 ≤ sizeLine; decide), fun q hq => ?_⟩
      have N5 := Gr.new (M := M0) (o := .tup [.ref l1, v', .ref l]) G4.bh hq
      have GG := G4.tr N5
      refine kk _ _ _ (F3.tr GG) ?_
      exact tup3 upd_same ⟨l1, es, rfl, GG.bb _ _ hl3, DtAll.mono (F3.tr GG).bb _ _ hes⟩ (Dt.mono N5.bb _ _ d4) ⟨l, xs, rfl, GG.bb _ _ (N3.bb _ _ hl2), DtAll.mono (N3.tr GG).bb _ _ hD2⟩
/-! ### _law_cells -/
def spLCells : Sp := fun vs H Q _ => ∃ (B : Hp) (v : V) (evs : List PyData) (ts : List Str) (k : Pk), vs = [v] ∧ Same B H ∧ Dt B (partsD evs ts k) v ∧ k.Ok evs.length ts.length ∧
  ∀ v' B' H', Gr M0 B H B' H' → Dt B' (iL k.cells) v' → Q v' H'
theorem scLCells : FnScope ["parts", "events", "texts", "sayings", "shapes", "rooms", "saying", "cells", "shape", "said"] ["parts"] (defScope lCells) := ⟨rfl, rfl, rfl, by decide +kernel, rfl, by decide +kernel, by decide +kernel⟩
theorem ok_lcells {f : Addr} {fd : FuncData} (F : Fun K "_law_cells" "_law_cells" lCells f fd) (T : Blt mg) : FnOk P w K mg base CX0 1 f fd ["parts"] spLCells := by
  refine F.ok scLCells (fun vs H Q E h => ?_) (fun cdv A outer s H vs Q E hr h => ?_)
  · obtain ⟨B, v, evs, ts, k, rfl, _⟩ := h
    rfl
  · obtain ⟨B, v, evs, ts, k, rfl, sm, dv, ok, kk⟩ := h
    obtain ⟨pl, ve, vt, vy, vs, vr, rfl, hpl, dve, dvt, dvy, dvs, dvr⟩ := pa_of dv
    obtain ⟨rl, rfl, hrl⟩ := dt_iL dvr
    obtain ⟨sl, ss, rfl, hsl, hss⟩ := id dvs
    obtain ⟨yl, ys, rfl, hyl, hys⟩ := id dvy
    have nd := scLCells.nd
    refine ⟨_, pss_cons (ps_asg (pv 0) (pg_unl rfl (pgs_cons (pg_name (i := 1) nd rfl (Or.inl rfl)) (pgs_cons (pg_name (i := 2) nd rfl (Or.inl rfl)) (pgs_cons (pg_name (i := 3) nd rfl (Or.inl rfl)) (pgs_cons (pg_name (i := 4) nd rfl (Or.inl rfl)) (pgs_cons (pg_name (i := 5) nd rfl (Or.inl rfl)) (pgs_cons (pg_name (i := 6) nd rfl (Or.inl rfl)) pgs_nil))))))))
      (pss_cons (ps_set (i := 7) nd rfl (Or.inl rfl) (pe_op op_cat (pe_lst (pa_cons (pe_callB call_len_seq (by rfl) T.len PySem.boot_len (pa_cons (pv 5) pa_nil)) (pa_cons (pe_callB call_len_seq (by rfl) T.len PySem.boot_len (pa_cons (pv 3) pa_nil)) (pa_cons (pe_callB call_len_seq (by rfl) T.len PySem.boot_len (pa_cons (pv 4) pa_nil)) (pa_cons (pv 6) pa_nil))))) (pv 5)))
      (pss_cons (ps_for PassesOwn.never rfl (pi_list (pv 4)) (pg_name (i := 8) nd rfl (Or.inl rfl))
        (pss_one (ps_set (i := 7) nd rfl (Or.inl rfl) (pe_op op_cat (pe_op op_cat (pv 7) (pe_lst (pa_cons (pe_callB call_len_seq (by rfl) T.len PySem.boot_len (pa_cons (pv 8) pa_nil)) pa_nil))) (pv 8)))))
      (pss_cons (ps_for PassesOwn.never rfl (pi_list (pv 3)) (pg_name (i := 9) nd rfl (Or.inl rfl))
        (pss_one (ps_set (i := 7) nd rfl (Or.inl rfl) (pe_op op_cat (pe_op op_cat (pv 7) (pe_lst (pa_cons (pe_callB call_len_seq (by rfl) T.len PySem.boot_len (pa_cons (pv 9) pa_nil)) pa_nil))) (pv 9)))))
      (pss_one (ps_ret (pv 7)))))), ?_⟩
    have lss := hss.len
    have lys := hys.len
    rw [List.length_map] at lss lys
    obtain ⟨b1, b2, b3, b4, b5⟩ := cells_bound ok
    refine ⟨_, rfl, pl, _, rfl, SqL.of (sm _ _ hpl), rfl, _, _, rfl, _, _, rfl, _, _, rfl, _, _, rfl, _, _, rfl, _, _, rfl, rfl, ?_⟩
    refine ⟨_, rfl, rl, _, rfl, .inl (SqL.of (sm _ _ hrl)), _, rfl, yl, _, rfl, .inl (SqL.of (sm _ _ hyl)), _, rfl, sl, _, rfl, .inl (SqL.of (sm _ _ hsl)), _, rfl, (by show 4 ≤ sizeLine; decide), fun q hq => ?_⟩
    have N1 := Gr.new (M := M0) (o := .lst [.int (((k.rooms.map roomCell).map V.int).length : Nat), .int (ys.length : Nat), .int (ss.length : Nat), .int (k.saying : Nat)]) sm hq
    have fq : (upd B q (.lst [.int (((k.rooms.map roomCell).map V.int).length : Nat), .int (ys.length : Nat), .int (ss.length : Nat), .int (k.saying : Nat)])) q = some (.lst [.int (((k.rooms.map roomCell).map V.int).length : Nat), .int (ys.length : Nat), .int (ss.length : Nat), .int (k.saying : Nat)]) := upd_same
    generalize upd B q (.lst [.int (((k.rooms.map roomCell).map V.int).length : Nat), .int (ys.length : Nat), .int (ss.length : Nat), .int (k.saying : Nat)]) = B1 at N1 fq
    generalize upd H q (.lst [.int (((k.rooms.map roomCell).map V.int).length : Nat), .int (ys.length : Nat), .int (ss.length : Nat), .int (k.saying : Nat)]) = H1 at N1 ⊢
    have hr20 := ok.r2
    have e0 : [V.int (((k.rooms.map roomCell).map V.int).length : Nat), .int (ys.length : Nat), .int (ss.length : Nat), .int (k.saying : Nat)] ++ (k.rooms.map roomCell).map V.int = k.head.map V.int := by
      have e1 : k.shapeL.length = k.shapes.length := by unfold Pk.shapeL; rw [List.length_map]
      have e2 : k.sayL.length = k.sayings.length := by unfold Pk.sayL; rw [List.length_map]
      rw [List.length_map, List.length_map, ← lss, ← lys, e1, e2]
      unfold Pk.head
      rw [List.map_append]
      rfl
    refine ⟨_, rfl, q, rl, _, _, rfl, rfl, N1.bh _ _ fq, N1.bh _ _ (N1.bb _ _ hrl), Nat.le_trans (by rw [List.length_map, List.length_map]; show 4 + k.rooms.length ≤ 1000; omega) (by decide : 1000 ≤ sizeLine), fun cel hcel => ?_⟩
    refine upd_eqL (fun Hx => gName 7 (.ref cel) _ Hx _) e0 ?_
    have N2 := N1.nw (o := .lst (k.head.map V.int)) hcel
    have fC : (upd B1 cel (.lst (k.head.map V.int))) cel = some (.lst ((k.head ++ (k.shapeL.take 0).flatMap block).map V.int)) := by rw [upd_same]; simp
    generalize upd B1 cel (.lst (k.head.map V.int)) = B2 at N2 fC
    generalize upd H1 cel (.lst (k.head.map V.int)) = H2 at N2 ⊢
    refine ⟨_, rfl, sl, rfl, ⟨_, SqL.of (N2.bh _ _ (N2.bb _ _ hsl))⟩, for_list (K := K) (a := sl) (xs := ss) (fun i σ H' => ∃ (B1 : Hp) (cel : Addr) (x8 : Option V), σ = [some (.ref pl), some ve, some vt, some (.ref yl), some (.ref sl), some (.ref rl), some (.int (k.saying : Nat)), some (.ref cel), x8, none] ∧ Gr M0 B H B1 H' ∧ B1 cel = some (.lst ((k.head ++ (k.shapeL.take i).flatMap block).map V.int)))
      ⟨B2, cel, none, rfl, N2, fC⟩ (fun i σ H' _ ⟨B1, cel, x8, _, G, _⟩ => SqL.of (G.bh _ _ (G.bb _ _ hsl))) (fun i x σ H3 hx ⟨B3, cel, x8, eσ, G3, hC3⟩ => ?_) (fun σ H3 ⟨B3, cel, x8, eσ, G3, hC3⟩ => ?_)⟩
    · subst eσ
      have hi := (List.getElem?_eq_some_iff.mp hx).1
      obtain ⟨d, hd, dx⟩ := hss.at hx
      obtain ⟨b, hb, rfl⟩ := map_get hd
      obtain ⟨al, rfl, hal⟩ := dt_iL dx
      have hal3 := G3.bh _ _ (G3.bb _ _ hal)
      have bb := blk_len 62 (k.shapeL.take i) (fun b hb => b2 b (List.mem_of_mem_take hb))
      rw [List.length_take] at bb
      have bL := b2 b (List.mem_of_getElem? hb)
      have hX : ((k.head ++ (k.shapeL.take i).flatMap block).map V.int).length ≤ 20000 := by
        rw [List.length_map, List.length_append]
        omega
      refine ⟨_, rfl, _, rfl, al, _, rfl, .inl (SqL.of hal3), (by show 1 ≤ sizeLine; decide), fun q hq => ?_⟩
      have N4 := Gr.new (M := M0) (o := .lst [.int ((b.map V.int).length : Nat)]) G3.bh hq
      have fq : (upd B3 q (.lst [.int ((b.map V.int).length : Nat)])) q = some (.lst [.int ((b.map V.int).length : Nat)]) := upd_same
      generalize upd B3 q (.lst [.int ((b.map V.int).length : Nat)]) = B4 at N4 fq
      generalize upd H3 q (.lst [.int ((b.map V.int).length : Nat)]) = H4 at N4 ⊢
      refine ⟨cel, q, _, _, rfl, rfl, N4.bh _ _ (N4.bb _ _ hC3), N4.bh _ _ fq, Nat.le_trans (Nat.add_le_add_right hX 1) (by decide), fun u hu => ?_⟩
      have N5 := N4.nw (o := .lst ((k.head ++ (k.shapeL.take i).flatMap block).map V.int ++ [.int ((b.map V.int).length : Nat)])) hu
      have fu : (upd B4 u (.lst ((k.head ++ (k.shapeL.take i).flatMap block).map V.int ++ [.int ((b.map V.int).length : Nat)]))) u = some (.lst ((k.head ++ (k.shapeL.take i).flatMap block).map V.int ++ [.int ((b.map V.int).length : Nat)])) := upd_same
      generalize upd B4 u (.lst ((k.head ++ (k.shapeL.take i).flatMap block).map V.int ++ [.int ((b.map V.int).length : Nat)])) = B5 at N5 fu
      generalize upd H4 u (.lst ((k.head ++ (k.shapeL.take i).flatMap block).map V.int ++ [.int ((b.map V.int).length : Nat)])) = H5 at N5 ⊢
      refine ⟨_, rfl, u, al, _, _, rfl, rfl, N5.bh _ _ fu, N5.bh _ _ (N5.bb _ _ (G3.bb _ _ hal)), Nat.le_trans (by rw [List.length_append, List.length_map (as := b)]; show _ + 1 + b.length ≤ 30000; omega) (by decide : 30000 ≤ sizeLine), fun v hv => ?_⟩
      have N6 := N5.nw (o := .lst ((k.head ++ (k.shapeL.take i).flatMap block).map V.int ++ [.int ((b.map V.int).length : Nat)] ++ b.map V.int)) hv
      refine ⟨_, v, _, rfl, G3.tr N6, ?_⟩
      rw [upd_same, List.take_add_one, hb, List.flatMap_append]
      simp [block]
    · subst eσ
      have e9 : k.shapeL.take ss.length = k.shapeL := List.take_of_length_le (by omega)
      rw [e9] at hC3
      refine ⟨_, rfl, yl, rfl, ⟨_, SqL.of (G3.bh _ _ (G3.bb _ _ hyl))⟩, for_list (K := K) (a := yl) (xs := ys) (fun i σ H' => ∃ (B1 : Hp) (cel : Addr) (x9 : Option V), σ = [some (.ref pl), some ve, some vt, some (.ref yl), some (.ref sl), some (.ref rl), some (.int (k.saying : Nat)), some (.ref cel), x8, x9] ∧ Gr M0 B H B1 H' ∧ B1 cel = some (.lst ((k.head ++ k.shapeL.flatMap block ++ (k.sayL.take i).flatMap block).map V.int)))
        ⟨B3, cel, none, rfl, G3, by rw [hC3]; simp⟩ (fun i σ H' _ ⟨B1, cel, x9, _, G, _⟩ => SqL.of (G.bh _ _ (G.bb _ _ hyl))) (fun i x σ H3 hx ⟨B3, cel, x9, eσ, G3, hC3⟩ => ?_) (fun σ H3 ⟨B3, cel, x9, eσ, G3, hC3⟩ => ?_)⟩
      · subst eσ
        have hi := (List.getElem?_eq_some_iff.mp hx).1
        obtain ⟨d, hd, dx⟩ := hys.at hx
        obtain ⟨b, hb, rfl⟩ := map_get hd
        obtain ⟨al, rfl, hal⟩ := dt_iL dx
        have hal3 := G3.bh _ _ (G3.bb _ _ hal)
        have bb0 := blk_len 62 k.shapeL b2
        have bb := blk_len 20 (k.sayL.take i) (fun b hb => b3 b (List.mem_of_mem_take hb))
        rw [List.length_take] at bb
        have bL := b3 b (List.mem_of_getElem? hb)
        have hX : ((k.head ++ k.shapeL.flatMap block ++ (k.sayL.take i).flatMap block).map V.int).length ≤ 20000 := by
          rw [List.length_map, List.length_append, List.length_append]
          omega
        refine ⟨_, rfl, _, rfl, al, _, rfl, .inl (SqL.of hal3), (by show 1 ≤ sizeLine; decide), fun q hq => ?_⟩
        have N4 := Gr.new (M := M0) (o := .lst [.int ((b.map V.int).length : Nat)]) G3.bh hq
        have fq : (upd B3 q (.lst [.int ((b.map V.int).length : Nat)])) q = some (.lst [.int ((b.map V.int).length : Nat)]) := upd_same
        generalize upd B3 q (.lst [.int ((b.map V.int).length : Nat)]) = B4 at N4 fq
        generalize upd H3 q (.lst [.int ((b.map V.int).length : Nat)]) = H4 at N4 ⊢
        refine ⟨cel, q, _, _, rfl, rfl, N4.bh _ _ (N4.bb _ _ hC3), N4.bh _ _ fq, Nat.le_trans (Nat.add_le_add_right hX 1) (by decide), fun u hu => ?_⟩
        have N5 := N4.nw (o := .lst ((k.head ++ k.shapeL.flatMap block ++ (k.sayL.take i).flatMap block).map V.int ++ [.int ((b.map V.int).length : Nat)])) hu
        have fu : (upd B4 u (.lst ((k.head ++ k.shapeL.flatMap block ++ (k.sayL.take i).flatMap block).map V.int ++ [.int ((b.map V.int).length : Nat)]))) u = some (.lst ((k.head ++ k.shapeL.flatMap block ++ (k.sayL.take i).flatMap block).map V.int ++ [.int ((b.map V.int).length : Nat)])) := upd_same
        generalize upd B4 u (.lst ((k.head ++ k.shapeL.flatMap block ++ (k.sayL.take i).flatMap block).map V.int ++ [.int ((b.map V.int).length : Nat)])) = B5 at N5 fu
        generalize upd H4 u (.lst ((k.head ++ k.shapeL.flatMap block ++ (k.sayL.take i).flatMap block).map V.int ++ [.int ((b.map V.int).length : Nat)])) = H5 at N5 ⊢
        refine ⟨_, rfl, u, al, _, _, rfl, rfl, N5.bh _ _ fu, N5.bh _ _ (N5.bb _ _ (G3.bb _ _ hal)), Nat.le_trans (by rw [List.length_append, List.length_map (as := b)]; show _ + 1 + b.length ≤ 30000; omega) (by decide : 30000 ≤ sizeLine), fun v hv => ?_⟩
        have N6 := N5.nw (o := .lst ((k.head ++ k.shapeL.flatMap block ++ (k.sayL.take i).flatMap block).map V.int ++ [.int ((b.map V.int).length : Nat)] ++ b.map V.int)) hv
        refine ⟨_, v, _, rfl, G3.tr N6, ?_⟩
        rw [upd_same, List.take_add_one, hb, List.flatMap_append]
        simp [block]
      · subst eσ
        have e9 : k.sayL.take ys.length = k.sayL := List.take_of_length_le (by omega)
        rw [e9] at hC3
        exact ⟨_, rfl, kk _ _ _ G3 (iL_of hC3)⟩
end
end Mill

namespace Mill
open PySem PySem.Spec PyProof.Rows L2 LamX NdefX
/-! ### what is compared is of a good form -/
structure SD (n : Nat) (d : PyData) : Prop where
  lay : d.canLay0 = true
  dep : d.depth ≤ n
theorem SD.mono {n m : Nat} {d : PyData} (h : SD n d) (e : n ≤ m) : SD m d := ⟨h.lay, Nat.le_trans h.dep e⟩
theorem SD.ev {e : PyData} (h : EvOk e) : SD 8 e := ⟨h.1, h.2⟩
theorem sd_all (n : Nat) : ∀ ds : List PyData, (∀ d ∈ ds, SD n d) → PyData.canLayAll0 ds = true ∧ PyData.depthAll ds ≤ n
  | [], _ => ⟨by rw [PyData.canLayAll0], by rw [PyData.depthAll]; exact Nat.zero_le _⟩
  | d :: ds, h => by
    obtain ⟨h1, h2⟩ := sd_all n ds fun x hx => h x (List.mem_cons_of_mem _ hx)
    have h3 := h d List.mem_cons_self
    exact ⟨by rw [PyData.canLayAll0, h3.lay, h1]; rfl, by rw [PyData.depthAll]; exact Nat.max_le.mpr ⟨h3.dep, h2⟩⟩
theorem SD.list {n : Nat} {ds : List PyData} (h : ∀ d ∈ ds, SD n d) : SD (n + 1) (.list ds) := ⟨by rw [PyData.canLay0]; exact (sd_all n ds h).1, by rw [PyData.depth]; exact Nat.succ_le_succ (sd_all n ds h).2⟩
theorem SD.tuple {n : Nat} {ds : List PyData} (h : ∀ d ∈ ds, SD n d) : SD (n + 1) (.tuple ds) := ⟨by rw [PyData.canLay0]; exact (sd_all n ds h).1, by rw [PyData.depth]; exact Nat.succ_le_succ (sd_all n ds h).2⟩
theorem SD.int (i : Int) : SD 0 (.int i) := ⟨rfl, Nat.le_refl _⟩
theorem SD.bool (i : Bool) : SD 0 (.bool i) := ⟨rfl, Nat.le_refl _⟩
theorem SD.str {x : Str} (h : PyData.strOk x = true) : SD 0 (.str x) := ⟨h, Nat.le_refl _⟩
theorem SD.shaped {n : Nat} {d : PyData} (h : SD n d) (hn : n ≤ 64) : SeqAt.shaped d = true := by
  unfold SeqAt.shaped
  rw [h.lay, decide_eq_true (Nat.le_trans h.dep hn)]
  rfl
theorem SD.sL {ts : List Str} (h : ∀ x ∈ ts, PyData.strOk x = true) : SD 1 (sL ts) := SD.list fun d hd => by
  obtain ⟨x, hx, rfl⟩ := List.mem_map.mp hd
  exact SD.str (h x hx)
theorem SD.iL (ns : List Int) : SD 1 (iL ns) := SD.list fun d hd => by
  obtain ⟨x, hx, rfl⟩ := List.mem_map.mp hd
  exact SD.int x
theorem sd_table {evs : List PyData} {t : Tb Str} {E : Nat} {ts : List Str} (he : ∀ e ∈ evs, EvOk e) (ht : ∀ x ∈ ts, PyData.strOk x = true) (ok : t.Ok E ts) : SD 12 (tableD evs t) := by
  refine SD.tuple (n := 11) fun d hd => ?_
  rcases List.mem_cons.mp hd with rfl | hd
  · exact (SD.list fun e h => SD.ev (he e h)).mono (by decide)
  rcases List.mem_cons.mp hd with rfl | hd
  · exact (SD.sL fun x hx => ht x (ok.say.2 x hx)).mono (by decide)
  rw [List.mem_singleton.mp hd]
  refine SD.list (n := 10) fun d hd => ?_
  obtain ⟨r, hr, rfl⟩ := List.mem_map.mp hd
  refine SD.tuple (n := 9) fun d hd => ?_
  rcases List.mem_cons.mp hd with rfl | hd
  · exact (SD.bool r.1).mono (by decide)
  rw [List.mem_singleton.mp hd]
  refine SD.list (n := 8) fun d hd => ?_
  obtain ⟨c, hc, rfl⟩ := List.mem_map.mp hd
  refine SD.tuple (n := 7) fun d hd => ?_
  rcases List.mem_cons.mp hd with rfl | hd
  · exact (SD.sL fun x hx => ht x (((ok.row r hr).2 c hc).1.2 x hx)).mono (by decide)
  rw [List.mem_singleton.mp hd]
  exact (SD.int _).mono (by decide)
theorem sd_pack {evs : List PyData} {ts : List Str} {cs : List Int} (he : ∀ e ∈ evs, EvOk e) (ht : ∀ x ∈ ts, PyData.strOk x = true) : SD 12 (packD evs ts cs) := by
  refine SD.tuple (n := 11) fun d hd => ?_
  rcases List.mem_cons.mp hd with rfl | hd
  · exact (SD.list fun e h => SD.ev (he e h)).mono (by decide)
  rcases List.mem_cons.mp hd with rfl | hd
  · exact (SD.sL ht).mono (by decide)
  rw [List.mem_singleton.mp hd]
  exact (SD.iL cs).mono (by decide)
section
variable {P : Program} {w : World} {K : PySem.W.Frag} {mg : Str → Option Value} {base : Heap}
/-- all the defs that the law reaches -/
structure Defs (K : PySem.W.Frag) (mg : Str → Option Value) (base : Heap) (c Pt : Addr) : Prop where
  blt : Blt mg
  tb : TabB base mg c Pt
  num : ∃ f fd, At K mg "numbered" ["things"] sNumbered f fd
  frz : ∃ f fd, At K mg "frozen_rows" ["table"] sFrozen f fd
  say : ∃ f fd, At K mg "sayings_of" ["saying", "rows"] sSayings f fd
  com : ∃ f fd, FunC K "common_pair" "common_pair" sCommon f fd c ∧ At K mg "common_pair" ["pairs"] sCommon f fd
  shp : ∃ f fd, At K mg "shape_cells" ["shape", "sayings"] sShape f fd
  pack : ∃ f fd, At K mg "pack" ["table"] sPack f fd
  blk : ∃ f fd, At K mg "blocks_from" ["cells", "at", "many"] sBlocks f fd
  pr : ∃ f fd, At K mg "pair_at" ["shape", "place"] sPairAt f fd
  fit : ∃ f fd, At K mg "shape_fits" ["shape", "events", "sayings", "rooms"] sFits f fd
  parts : ∃ f fd, At K mg "parts_of" ["events", "texts", "cells"] sParts f fd
  rest : ∃ f fd, At K mg "rests_there" ["events", "shape", "sayings", "room"] sRests f fd
  whole : ∃ f fd, At K mg "whole_pack" ["events", "texts", "cells"] sWhole f fd
  unp : ∃ f fd, At K mg "unpacked" ["told"] sUnp f fd
  take : ∃ f fd, At K mg "_law_take" ["state", "many"] lTake f fd
  cell : ∃ f fd, At K mg "_law_cell" ["script", "k", "mixed"] lCell f fd
  ev : ∃ f fd, At K mg "_law_events" ["state"] lEvents f fd
  lsh : ∃ f fd, At K mg "_law_shape" ["state", "many", "events", "says", "rooms"] lShape f fd
  lst : ∃ f fd, At K mg "_law_still_shape" ["state", "events", "empty", "room"] lStill f fd
  lpa : ∃ f fd, At K mg "_law_parts" ["script"] lParts f fd
  lce : ∃ f fd, At K mg "_law_cells" ["parts"] lCells f fd
  ltx : ∃ f fd, At K mg "_law_texts" ["parts", "saying"] lTexts f fd
  lro : ∃ f fd, At K mg "_law_row" ["parts", "shape", "place"] lRow f fd
  lta : ∃ f fd, At K mg "_law_table" ["parts"] lTable f fd
/-! ### law -/
def spLaw (K : PySem.W.Frag) (Pt : Addr) : Sp := fun vs H Q _ => ∃ (a : Addr) (ns : List Int), vs = [.ref a] ∧ SqL K H a (ns.map V.int) ∧ TabS H Pt lq ∧ ∀ H', Q (.bl true) H'
theorem scLaw : FnScope ["script", "parts", "told", "due", "again"] ["script"] (defScope lLaw) := ⟨rfl, rfl, rfl, by decide +kernel, rfl, by decide +kernel, by decide +kernel⟩
theorem ok_law {f c Pt : Addr} {fd : FuncData} (F : Fun K "law" "law" lLaw f fd) (D : Defs K mg base c Pt) : FnOk P w K mg base CX0 6 f fd ["script"] (spLaw K Pt) := by
  have T := D.blt
  obtain ⟨fN, fdN, AN⟩ := D.num
  obtain ⟨fZ, fdZ, AZ⟩ := D.frz
  obtain ⟨fS, fdS, AS⟩ := D.say
  obtain ⟨fO, fdO, FO, AO⟩ := D.com
  obtain ⟨fH, fdH, AH⟩ := D.shp
  obtain ⟨fK, fdK, AK⟩ := D.pack
  obtain ⟨fB, fdB, AB⟩ := D.blk
  obtain ⟨fP, fdP, AP⟩ := D.pr
  obtain ⟨fF, fdF, AF⟩ := D.fit
  obtain ⟨fQ, fdQ, AQ⟩ := D.parts
  obtain ⟨fR, fdR, AR⟩ := D.rest
  obtain ⟨fW, fdW, AW⟩ := D.whole
  obtain ⟨fU, fdU, AU⟩ := D.unp
  obtain ⟨fT, fdT, AT⟩ := D.take
  obtain ⟨fC, fdC, AC⟩ := D.cell
  obtain ⟨fE, fdE, AE⟩ := D.ev
  obtain ⟨f1, fd1, A1⟩ := D.lsh
  obtain ⟨f2, fd2, A2⟩ := D.lst
  obtain ⟨f3, fd3, A3⟩ := D.lpa
  obtain ⟨f4, fd4, A4⟩ := D.lce
  obtain ⟨f5, fd5, A5⟩ := D.ltx
  obtain ⟨f6, fd6, A6⟩ := D.lro
  obtain ⟨f7, fd7, A7⟩ := D.lta
  have G3 : FnOk P w K mg base CX0 3 f3 fd3 ["script"] (spLParts K) := ok_lparts A3.fn T AT AC AE A1 A2
  have G4 : FnOk P w K mg base CX0 1 f4 fd4 ["parts"] spLCells := ok_lcells A4.fn T
  have G7 : FnOk P w K mg base CX0 3 f7 fd7 ["parts"] spLTable := ok_ltable A7.fn T A6 A5
  have GW : FnOk P w K mg base CX0 3 fW fdW ["events", "texts", "cells"] spWhole := ok_whole AW.fn T AQ AR AB AF AP
  have GU : FnOk P w K mg base CX0 3 fU fdU ["told"] spUnp := ok_unp AU.fn T AQ AB AF AP
  have GK : FnOk P w K mg base CX0 5 fK fdK ["table"] (spPack Pt) := ok_pack AK.fn T AZ AS AN AH FO AO D.tb
  refine F.ok scLaw (fun vs H Q E h => ?_) (fun cdv A outer s H vs Q E hr h => ?_)
  · obtain ⟨a, ns, rfl, _⟩ := h
    rfl
  · obtain ⟨a, ns, rfl, hs, hT, kk⟩ := h
    have nd := scLaw.nd
    have hr1 : Room 1 _ := hr.mono (by decide)
    have hr3 : Room 3 _ := hr.mono (by decide)
    refine ⟨_, pss_cons (ps_set (i := 1) nd rfl (Or.inl rfl) (pe_call G3 hr3 rfl A3.mgf A3.fn.kp A3.bd .nil pass0 (pa_cons (pv 0) pa_nil)))
      (pss_cons (ps_set (i := 2) nd rfl (Or.inl rfl) (pe_tup (pa_cons (pe_callTy (r := rListOf K) call_list_of (by rfl) T.list (by decide +kernel) (pa_cons (pe_ix ix_list (pv 1) pe_int (fun _ _ => rfl)) pa_nil)) (pa_cons (pe_callTy (r := rListOf K) call_list_of (by rfl) T.list (by decide +kernel) (pa_cons (pe_ix ix_list (pv 1) pe_int (fun _ _ => rfl)) pa_nil)) (pa_cons (pe_call G4 hr1 rfl A4.mgf A4.fn.kp A4.bd .nil pass0 (pa_cons (pv 1) pa_nil)) pa_nil)))))
      (pss_cons (ps_set (i := 3) nd rfl (Or.inl rfl) (pe_call G7 hr3 rfl A7.mgf A7.fn.kp A7.bd .nil pass0 (pa_cons (pv 1) pa_nil)))
      (pss_cons (ps_if (PW.pt (pw_or (pt_cmpR op_notBl (pe_call GW hr3 rfl AW.mgf AW.fn.kp AW.bd .nil pass0 (pa_cons (pe_ix ix_tup (pv 2) pe_int (fun _ _ => rfl)) (pa_cons (pe_ix ix_tup (pv 2) pe_int (fun _ _ => rfl)) (pa_cons (pe_ix ix_tup (pv 2) pe_int (fun _ _ => rfl)) pa_nil)))) pe_bl (nomark _)) (pw_or1 (pt_cmpR (op_neD hr.units) (pe_call GU hr3 rfl AU.mgf AU.fn.kp AU.bd .nil pass0 (pa_cons (pv 2) pa_nil)) (pv 3) (nomark _))))) (pss_one (ps_ret pe_bl)) pss_nil)
      (pss_cons (ps_set (i := 4) nd rfl (Or.inl rfl) (pe_call GK hr rfl AK.mgf AK.fn.kp AK.bd .nil pass0 (pa_cons (pe_call GU hr3 rfl AU.mgf AU.fn.kp AU.bd .nil pass0 (pa_cons (pv 2) pa_nil)) pa_nil)))
      (pss_cons (ps_if (PW.pt (pw_or (pt_cmpR op_notBl (pe_call GW hr3 rfl AW.mgf AW.fn.kp AW.bd .nil pass0 (pa_cons (pe_ix ix_tup (pv 4) pe_int (fun _ _ => rfl)) (pa_cons (pe_ix ix_tup (pv 4) pe_int (fun _ _ => rfl)) (pa_cons (pe_ix ix_tup (pv 4) pe_int (fun _ _ => rfl)) pa_nil)))) pe_bl (nomark _)) (pw_or1 (pt_cmpR (op_neD hr.units) (pe_call GU hr3 rfl AU.mgf AU.fn.kp AU.bd .nil pass0 (pa_cons (pv 4) pa_nil)) (pv 3) (nomark _))))) (pss_one (ps_ret pe_bl)) pss_nil)
      (pss_one (ps_ret (pe_cmpR (op_eqD hr.units) (pv 2) (pe_tup (pa_cons (pe_ix ix_list (pv 1) pe_int (fun _ _ => rfl)) (pa_cons (pe_ix ix_list (pv 1) pe_int (fun _ _ => rfl)) (pa_cons (pe_call G4 hr1 rfl A4.mgf A4.fn.kp A4.bd .nil pass0 (pa_cons (pv 1) pa_nil)) pa_nil)))) (nomark _))))))))), ?_⟩
    have sm : Same (fun _ => none) H := fun b o e => by cases e
    refine ⟨_, rfl, (fun _ => none), a, ns, rfl, sm, hs, fun evs ts k vp B1 H1 ok evok tsok G1 dP => ?_⟩
    obtain ⟨pl, ve, vt, vy, vs, vr, rfl, hpl, dve, dvt, dvy, dvs, dvr⟩ := pa_of dP
    obtain ⟨e, es, rfl, he, hes⟩ := id dve
    obtain ⟨t, rfl, ht⟩ := dt_sL dvt
    -- told
    refine ⟨_, rfl, pl, _, _, _, rfl, rfl, SqL.of (G1.bh _ _ hpl), atI_i (j := 0) rfl rfl, e, _, rfl, .inl (SqL.of (G1.bh _ _ he)), fun l0 hl0 => ?_⟩
    have N2 := Gr.new (M := M0) (o := .lst es) G1.bh hl0
    have fl0 : (upd B1 l0 (.lst es)) l0 = some (.lst es) := upd_same
    generalize upd B1 l0 (.lst es) = B2 at N2 fl0
    generalize upd H1 l0 (.lst es) = H2 at N2 ⊢
    refine ⟨_, rfl, pl, _, _, _, rfl, rfl, SqL.of (N2.bh _ _ (N2.bb _ _ hpl)), atI_i (j := 1) rfl rfl, t, _, rfl, .inl (SqL.of (N2.bh _ _ (N2.bb _ _ ht))), fun l1 hl1 => ?_⟩
    have N3 := N2.nw (o := .lst (ts.map V.str)) hl1
    have S3 := (Gr.new (M := M0) (o := .lst (ts.map V.str)) N2.bh hl1).bb
    have fl1 : (upd B2 l1 (.lst (ts.map V.str))) l1 = some (.lst (ts.map V.str)) := upd_same
    have fl0 := S3 _ _ fl0
    generalize upd B2 l1 (.lst (ts.map V.str)) = B3 at N3 fl0 fl1
    generalize upd H2 l1 (.lst (ts.map V.str)) = H3 at N3 ⊢
    have dP3 := Dt.mono N3.bb _ _ dP
    refine ⟨_, rfl, B3, .ref pl, evs, ts, k, rfl, N3.bh, dP3, ok, fun vc B4 H4 G4 dC => ?_⟩
    refine ⟨(by show 3 ≤ sizeLine; decide), fun tt htt => ?_⟩
    have N5 := Gr.new (M := M0) (o := .tup [.ref l0, .ref l1, vc]) G4.bh htt
    have G45 := G4.tr N5
    have ftt : (upd B4 tt (.tup [.ref l0, .ref l1, vc])) tt = some (.tup [.ref l0, .ref l1, vc]) := upd_same
    have dC5 := Dt.mono N5.bb _ _ dC
    generalize upd B4 tt (.tup [.ref l0, .ref l1, vc]) = B5 at N5 G45 ftt dC5
    generalize upd H4 tt (.tup [.ref l0, .ref l1, vc]) = H5 at N5 G45 ⊢
    have G5 := (G1.tr N3).tr G45
    have dP5 := Dt.mono (N3.tr G45).bb _ _ dP
    have dE5 : Dt B5 (.list evs) (.ref l0) := ⟨l0, es, rfl, G45.bb _ _ fl0, DtAll.mono (N3.tr G45).bb _ _ hes⟩
    have dT5 : Dt B5 (sL ts) (.ref l1) := sL_of (G45.bb _ _ fl1)
    have dtold : Dt B5 (packD evs ts k.cells) (.ref tt) := tup3 ftt dE5 dT5 dC5
    -- due
    refine ⟨_, rfl, B5, .ref pl, evs, ts, k, rfl, G5.bh, dP5, ok, fun vd B6 H6 G6 dD => ?_⟩
    have ok1 : k.Ok evs.length (ts.map PyData.str).length := by rw [List.length_map]; exact ok
    have tok := Pk.tb_ok ok
    have sdT := sd_table evok tsok tok
    have ftt6 := G6.bb _ _ ftt
    -- whole_pack(told ..) is not True
    refine ⟨_, rfl, tt, _, _, _, rfl, rfl, SqT.of (G6.bh _ _ ftt6), atI_i (j := 0) rfl rfl, _, rfl, tt, _, _, _, rfl, rfl, SqT.of (G6.bh _ _ ftt6), atI_i (j := 1) rfl rfl, _, rfl, tt, _, _, _, rfl, rfl, SqT.of (G6.bh _ _ ftt6), atI_i (j := 2) rfl rfl,
      B6, .ref l0, .ref l1, vc, evs, ts.map .str, k, rfl, G6.bh, Dt.mono G6.bb _ _ dE5, Dt.mono G6.bb _ _ dT5, Dt.mono G6.bb _ _ dC5, ok1, fun H7 G7 => ?_⟩
    refine ⟨true, true, rfl, rfl, _, rfl, ?_⟩
    refine ite2 (fun q => absurd q (by decide)) (fun _ => ?_)
    refine ⟨_, rfl, B6, .ref tt, evs, ts, k, rfl, G7.bh, Dt.mono G6.bb _ _ dtold, ok, fun vu B8 H8 G8 dU => ?_⟩
    have eqT : PyData.eqv (tableD evs (k.tb ts evs.length)) (tableD evs (k.tb ts evs.length)) = true := SeqAt.eqv_refl _ sdT.lay
    refine ⟨_, rfl, tableD evs (k.tb ts evs.length), tableD evs (k.tb ts evs.length), Dt.dp G8.bh _ _ dU, Dt.dp G8.bh _ _ (Dt.mono G8.bb _ _ dD), sdT.shaped (by decide), sdT.shaped (by decide), _, rfl, ?_⟩
    refine ite2 (fun q => absurd q (by rw [eqT]; decide)) (fun _ => ?_)
    -- again
    have G68 := G7.tr G8
    have G08 := (G5.tr G6).tr G68
    refine ⟨_, rfl, B8, .ref tt, evs, ts, k, rfl, G8.bh, Dt.mono (G6.tr G68).bb _ _ dtold, ok, fun vv B9 H9 G9 dV => ?_⟩
    have G09 := G08.tr G9
    refine ⟨B9, vv, evs, k.tb ts evs.length, ts, rfl, G9.bh, G09.pn hT rfl, G09.tab hT, dV, tok, fun k' ty va B10 H10 ok' tbe G10 dA => ?_⟩
    obtain ⟨ta, w0, w1, w2, rfl, hta, dw0, dw1, dw2⟩ := dt_triple dA
    have ok1' : k'.Ok evs.length (ty.map PyData.str).length := by rw [List.length_map]; exact ok'
    refine ⟨_, rfl, ta, _, _, _, rfl, rfl, SqT.of (G10.bh _ _ hta), atI_i (j := 0) rfl rfl, _, rfl, ta, _, _, _, rfl, rfl, SqT.of (G10.bh _ _ hta), atI_i (j := 1) rfl rfl, _, rfl, ta, _, _, _, rfl, rfl, SqT.of (G10.bh _ _ hta), atI_i (j := 2) rfl rfl,
      B10, w0, w1, w2, evs, ty.map .str, k', rfl, G10.bh, dw0, dw1, dw2, ok1', fun H11 G11 => ?_⟩
    refine ⟨true, true, rfl, rfl, _, rfl, ?_⟩
    refine ite2 (fun q => absurd q (by decide)) (fun _ => ?_)
    refine ⟨_, rfl, B10, .ref ta, evs, ty, k', rfl, G11.bh, dA, ok', fun vu2 B12 H12 G12 dU2 => ?_⟩
    rw [tbe] at dU2
    have SB : Same B6 B12 := fun c o z => G12.bb _ _ (G11.bb _ _ (G10.bb _ _ (G9.bb _ _ (G8.bb _ _ z))))
    refine ⟨_, rfl, tableD evs (k.tb ts evs.length), tableD evs (k.tb ts evs.length), Dt.dp G12.bh _ _ dU2, Dt.dp G12.bh _ _ (Dt.mono SB _ _ dD), sdT.shaped (by decide), sdT.shaped (by decide), _, rfl, ?_⟩
    refine ite2 (fun q => absurd q (by rw [eqT]; decide)) (fun _ => ?_)
    -- told == ..
    have S5 : Same B5 B12 := fun c o z => SB _ _ (G6.bb _ _ z)
    have S1 : Same B1 B12 := fun c o z => S5 _ _ (G45.bb _ _ (N3.bb _ _ z))
    refine ⟨_, rfl, _, rfl, pl, _, _, _, rfl, rfl, SqL.of (G12.bh _ _ (S1 _ _ hpl)), atI_i (j := 0) rfl rfl, _, rfl, pl, _, _, _, rfl, rfl, SqL.of (G12.bh _ _ (S1 _ _ hpl)), atI_i (j := 1) rfl rfl, _, rfl, B12, .ref pl, evs, ts, k, rfl, G12.bh, Dt.mono S1 _ _ dP, ok, fun vc2 B13 H13 G13 dC2 => ?_⟩
    refine ⟨(by show 3 ≤ sizeLine; decide), fun q hq => ?_⟩
    have N14 := Gr.new (M := M0) (o := .tup [.ref e, .ref t, vc2]) G13.bh hq
    have GG := G13.tr N14
    have dq : Dt (upd B13 q (.tup [.ref e, .ref t, vc2])) (packD evs ts k.cells) (.ref q) := tup3 upd_same (Dt.mono (fun c o z => GG.bb _ _ (S1 _ _ z)) _ _ dve) (Dt.mono (fun c o z => GG.bb _ _ (S1 _ _ z)) _ _ dvt) (Dt.mono N14.bb _ _ dC2)
    have sdP := sd_pack (cs := k.cells) evok tsok
    have eqP : PyData.eqv (packD evs ts k.cells) (packD evs ts k.cells) = true := SeqAt.eqv_refl _ sdP.lay
    refine ⟨packD evs ts k.cells, packD evs ts k.cells, Dt.dp N14.bh _ _ (Dt.mono (fun c o z => GG.bb _ _ (S5 _ _ z)) _ _ dtold), Dt.dp N14.bh _ _ dq, sdP.shaped (by decide), sdP.shaped (by decide), ?_⟩
    rw [eqP]
    exact kk _
end
end Mill

namespace Mill
open PySem PySem.Spec PyProof.Rows L2 LamX NdefX
/-- a def of the text, as the top has left it -/
theorem at_mk {K : PySem.W.Frag} {h : Heap} {mg : Str → Option Value} {x : Str} {ps : List Str} {st : Stmt} (X : K.In h) (G : h.Ns mainGlobals mg) {f : Addr} {od an : Option Addr} {sl : Array (Option Value)} {oc kV dc pm cd ct : Value}
    (a : PySem.W.nsIn K mainGlobals x = some (some (.ref f))) (l : K.lookup f = some ⟨oc, od, .func (PySem.W.fnOf x x (defArgs st) (defBody st) (defScope st) .none kV dc pm an cd ct), sl⟩) (c : PySem.W.codeIn K cd x = true) (k : PySem.W.keepIn K (.ref f) = true)
    (b : ∀ (kV doc pm : Value) (an : Option Addr) (cdv ct : Value) (us : List Value), us.length = ps.length → bindArgs (PySem.W.fnOf x x (defArgs st) (defBody st) (defScope st) .none kV doc pm an cdv ct) ⟨us, []⟩ = pure (ps.zip us)) : ∃ f fd, At K mg x ps st f fd :=
  ⟨f, _, fun_mk l c k, (fun_mk l c k).binds b, PySem.W.mg_of X G a⟩
theorem atc_mk {K : PySem.W.Frag} {h : Heap} {mg : Str → Option Value} {x : Str} {ps : List Str} {st : Stmt} (X : K.In h) (G : h.Ns mainGlobals mg) {f ca : Addr} {od an : Option Addr} {sl : Array (Option Value)} {oc kV dc pm ct : Value}
    (a : PySem.W.nsIn K mainGlobals x = some (some (.ref f))) (l : K.lookup f = some ⟨oc, od, .func (PySem.W.fnOf x x (defArgs st) (defBody st) (defScope st) .none kV dc pm an (.ref ca) ct), sl⟩) (c : PySem.W.codeIn K (.ref ca) x = true) (k : PySem.W.keepIn K (.ref f) = true)
    (b : ∀ (kV doc pm : Value) (an : Option Addr) (cdv ct : Value) (us : List Value), us.length = ps.length → bindArgs (PySem.W.fnOf x x (defArgs st) (defBody st) (defScope st) .none kV doc pm an cdv ct) ⟨us, []⟩ = pure (ps.zip us)) : ∃ f fd, FunC K x x st f fd ca ∧ At K mg x ps st f fd :=
  ⟨f, _, ⟨⟨oc, od, kV, dc, pm, an, ct, sl, rfl, l, c⟩, k⟩, fun_mk l c k, (fun_mk l c k).binds b, PySem.W.mg_of X G a⟩
theorem all_mk {l : PySem.W.OpenLaw} {w : World} {K : PySem.W.Frag} {h : Heap} {mg : Str → Option Value} {fa Pt ca : Addr} (X : K.In h) (G : h.Ns mainGlobals mg) (hfa : mg "law" = some (.ref fa)) (hT : h.get? Pt = some { cls := .none, data := .fields #[] })
    {f0 f1 f2 f3 f4 f5 f6 f7 f8 f9 f10 f11 f12 f13 f14 f15 f16 f17 f18 f19 f20 f21 f22 f23 : Addr} {od0 an0 od1 an1 od2 an2 od3 an3 od4 an4 od5 an5 od6 an6 od7 an7 od8 an8 od9 an9 od10 an10 od11 an11 od12 an12 od13 an13 od14 an14 od15 an15 od16 an16 od17 an17 od18 an18 od19 an19 od20 an20 od21 an21 od22 an22 od23 an23 : Option Addr} {sl0 sl1 sl2 sl3 sl4 sl5 sl6 sl7 sl8 sl9 sl10 sl11 sl12 sl13 sl14 sl15 sl16 sl17 sl18 sl19 sl20 sl21 sl22 sl23 : Array (Option Value)} {oc0 kV0 dc0 pm0 cd0 ct0 oc1 kV1 dc1 pm1 cd1 ct1 oc2 kV2 dc2 pm2 cd2 ct2 oc3 kV3 dc3 pm3 ct3 oc4 kV4 dc4 pm4 cd4 ct4 oc5 kV5 dc5 pm5 cd5 ct5 oc6 kV6 dc6 pm6 cd6 ct6 oc7 kV7 dc7 pm7 cd7 ct7 oc8 kV8 dc8 pm8 cd8 ct8 oc9 kV9 dc9 pm9 cd9 ct9 oc10 kV10 dc10 pm10 cd10 ct10 oc11 kV11 dc11 pm11 cd11 ct11 oc12 kV12 dc12 pm12 cd12 ct12 oc13 kV13 dc13 pm13 cd13 ct13 oc14 kV14 dc14 pm14 cd14 ct14 oc15 kV15 dc15 pm15 cd15 ct15 oc16 kV16 dc16 pm16 cd16 ct16 oc17 kV17 dc17 pm17 cd17 ct17 oc18 kV18 dc18 pm18 cd18 ct18 oc19 kV19 dc19 pm19 cd19 ct19 oc20 kV20 dc20 pm20 cd20 ct20 oc21 kV21 dc21 pm21 cd21 ct21 oc22 kV22 dc22 pm22 cd22 ct22 oc23 kV23 dc23 pm23 cd23 ct23 : Value}
    (a0 : PySem.W.nsIn K mainGlobals "numbered" = some (some (.ref f0))) (l0 : K.lookup f0 = some ⟨oc0, od0, .func (PySem.W.fnOf "numbered" "numbered" (defArgs sNumbered) (defBody sNumbered) (defScope sNumbered) .none kV0 dc0 pm0 an0 cd0 ct0), sl0⟩) (c0 : PySem.W.codeIn K cd0 "numbered" = true) (k0 : PySem.W.keepIn K (.ref f0) = true)
    (a1 : PySem.W.nsIn K mainGlobals "frozen_rows" = some (some (.ref f1))) (l1 : K.lookup f1 = some ⟨oc1, od1, .func (PySem.W.fnOf "frozen_rows" "frozen_rows" (defArgs sFrozen) (defBody sFrozen) (defScope sFrozen) .none kV1 dc1 pm1 an1 cd1 ct1), sl1⟩) (c1 : PySem.W.codeIn K cd1 "frozen_rows" = true) (k1 : PySem.W.keepIn K (.ref f1) = true)
    (a2 : PySem.W.nsIn K mainGlobals "sayings_of" = some (some (.ref f2))) (l2 : K.lookup f2 = some ⟨oc2, od2, .func (PySem.W.fnOf "sayings_of" "sayings_of" (defArgs sSayings) (defBody sSayings) (defScope sSayings) .none kV2 dc2 pm2 an2 cd2 ct2), sl2⟩) (c2 : PySem.W.codeIn K cd2 "sayings_of" = true) (k2 : PySem.W.keepIn K (.ref f2) = true)
    (a3 : PySem.W.nsIn K mainGlobals "common_pair" = some (some (.ref f3))) (l3 : K.lookup f3 = some ⟨oc3, od3, .func (PySem.W.fnOf "common_pair" "common_pair" (defArgs sCommon) (defBody sCommon) (defScope sCommon) .none kV3 dc3 pm3 an3 (.ref ca) ct3), sl3⟩) (c3 : PySem.W.codeIn K (.ref ca) "common_pair" = true) (k3 : PySem.W.keepIn K (.ref f3) = true)
    (a4 : PySem.W.nsIn K mainGlobals "shape_cells" = some (some (.ref f4))) (l4 : K.lookup f4 = some ⟨oc4, od4, .func (PySem.W.fnOf "shape_cells" "shape_cells" (defArgs sShape) (defBody sShape) (defScope sShape) .none kV4 dc4 pm4 an4 cd4 ct4), sl4⟩) (c4 : PySem.W.codeIn K cd4 "shape_cells" = true) (k4 : PySem.W.keepIn K (.ref f4) = true)
    (a5 : PySem.W.nsIn K mainGlobals "pack" = some (some (.ref f5))) (l5 : K.lookup f5 = some ⟨oc5, od5, .func (PySem.W.fnOf "pack" "pack" (defArgs sPack) (defBody sPack) (defScope sPack) .none kV5 dc5 pm5 an5 cd5 ct5), sl5⟩) (c5 : PySem.W.codeIn K cd5 "pack" = true) (k5 : PySem.W.keepIn K (.ref f5) = true)
    (a6 : PySem.W.nsIn K mainGlobals "blocks_from" = some (some (.ref f6))) (l6 : K.lookup f6 = some ⟨oc6, od6, .func (PySem.W.fnOf "blocks_from" "blocks_from" (defArgs sBlocks) (defBody sBlocks) (defScope sBlocks) .none kV6 dc6 pm6 an6 cd6 ct6), sl6⟩) (c6 : PySem.W.codeIn K cd6 "blocks_from" = true) (k6 : PySem.W.keepIn K (.ref f6) = true)
    (a7 : PySem.W.nsIn K mainGlobals "pair_at" = some (some (.ref f7))) (l7 : K.lookup f7 = some ⟨oc7, od7, .func (PySem.W.fnOf "pair_at" "pair_at" (defArgs sPairAt) (defBody sPairAt) (defScope sPairAt) .none kV7 dc7 pm7 an7 cd7 ct7), sl7⟩) (c7 : PySem.W.codeIn K cd7 "pair_at" = true) (k7 : PySem.W.keepIn K (.ref f7) = true)
    (a8 : PySem.W.nsIn K mainGlobals "shape_fits" = some (some (.ref f8))) (l8 : K.lookup f8 = some ⟨oc8, od8, .func (PySem.W.fnOf "shape_fits" "shape_fits" (defArgs sFits) (defBody sFits) (defScope sFits) .none kV8 dc8 pm8 an8 cd8 ct8), sl8⟩) (c8 : PySem.W.codeIn K cd8 "shape_fits" = true) (k8 : PySem.W.keepIn K (.ref f8) = true)
    (a9 : PySem.W.nsIn K mainGlobals "parts_of" = some (some (.ref f9))) (l9 : K.lookup f9 = some ⟨oc9, od9, .func (PySem.W.fnOf "parts_of" "parts_of" (defArgs sParts) (defBody sParts) (defScope sParts) .none kV9 dc9 pm9 an9 cd9 ct9), sl9⟩) (c9 : PySem.W.codeIn K cd9 "parts_of" = true) (k9 : PySem.W.keepIn K (.ref f9) = true)
    (a10 : PySem.W.nsIn K mainGlobals "rests_there" = some (some (.ref f10))) (l10 : K.lookup f10 = some ⟨oc10, od10, .func (PySem.W.fnOf "rests_there" "rests_there" (defArgs sRests) (defBody sRests) (defScope sRests) .none kV10 dc10 pm10 an10 cd10 ct10), sl10⟩) (c10 : PySem.W.codeIn K cd10 "rests_there" = true) (k10 : PySem.W.keepIn K (.ref f10) = true)
    (a11 : PySem.W.nsIn K mainGlobals "whole_pack" = some (some (.ref f11))) (l11 : K.lookup f11 = some ⟨oc11, od11, .func (PySem.W.fnOf "whole_pack" "whole_pack" (defArgs sWhole) (defBody sWhole) (defScope sWhole) .none kV11 dc11 pm11 an11 cd11 ct11), sl11⟩) (c11 : PySem.W.codeIn K cd11 "whole_pack" = true) (k11 : PySem.W.keepIn K (.ref f11) = true)
    (a12 : PySem.W.nsIn K mainGlobals "unpacked" = some (some (.ref f12))) (l12 : K.lookup f12 = some ⟨oc12, od12, .func (PySem.W.fnOf "unpacked" "unpacked" (defArgs sUnp) (defBody sUnp) (defScope sUnp) .none kV12 dc12 pm12 an12 cd12 ct12), sl12⟩) (c12 : PySem.W.codeIn K cd12 "unpacked" = true) (k12 : PySem.W.keepIn K (.ref f12) = true)
    (a13 : PySem.W.nsIn K mainGlobals "_law_take" = some (some (.ref f13))) (l13 : K.lookup f13 = some ⟨oc13, od13, .func (PySem.W.fnOf "_law_take" "_law_take" (defArgs lTake) (defBody lTake) (defScope lTake) .none kV13 dc13 pm13 an13 cd13 ct13), sl13⟩) (c13 : PySem.W.codeIn K cd13 "_law_take" = true) (k13 : PySem.W.keepIn K (.ref f13) = true)
    (a14 : PySem.W.nsIn K mainGlobals "_law_cell" = some (some (.ref f14))) (l14 : K.lookup f14 = some ⟨oc14, od14, .func (PySem.W.fnOf "_law_cell" "_law_cell" (defArgs lCell) (defBody lCell) (defScope lCell) .none kV14 dc14 pm14 an14 cd14 ct14), sl14⟩) (c14 : PySem.W.codeIn K cd14 "_law_cell" = true) (k14 : PySem.W.keepIn K (.ref f14) = true)
    (a15 : PySem.W.nsIn K mainGlobals "_law_events" = some (some (.ref f15))) (l15 : K.lookup f15 = some ⟨oc15, od15, .func (PySem.W.fnOf "_law_events" "_law_events" (defArgs lEvents) (defBody lEvents) (defScope lEvents) .none kV15 dc15 pm15 an15 cd15 ct15), sl15⟩) (c15 : PySem.W.codeIn K cd15 "_law_events" = true) (k15 : PySem.W.keepIn K (.ref f15) = true)
    (a16 : PySem.W.nsIn K mainGlobals "_law_shape" = some (some (.ref f16))) (l16 : K.lookup f16 = some ⟨oc16, od16, .func (PySem.W.fnOf "_law_shape" "_law_shape" (defArgs lShape) (defBody lShape) (defScope lShape) .none kV16 dc16 pm16 an16 cd16 ct16), sl16⟩) (c16 : PySem.W.codeIn K cd16 "_law_shape" = true) (k16 : PySem.W.keepIn K (.ref f16) = true)
    (a17 : PySem.W.nsIn K mainGlobals "_law_still_shape" = some (some (.ref f17))) (l17 : K.lookup f17 = some ⟨oc17, od17, .func (PySem.W.fnOf "_law_still_shape" "_law_still_shape" (defArgs lStill) (defBody lStill) (defScope lStill) .none kV17 dc17 pm17 an17 cd17 ct17), sl17⟩) (c17 : PySem.W.codeIn K cd17 "_law_still_shape" = true) (k17 : PySem.W.keepIn K (.ref f17) = true)
    (a18 : PySem.W.nsIn K mainGlobals "_law_parts" = some (some (.ref f18))) (l18 : K.lookup f18 = some ⟨oc18, od18, .func (PySem.W.fnOf "_law_parts" "_law_parts" (defArgs lParts) (defBody lParts) (defScope lParts) .none kV18 dc18 pm18 an18 cd18 ct18), sl18⟩) (c18 : PySem.W.codeIn K cd18 "_law_parts" = true) (k18 : PySem.W.keepIn K (.ref f18) = true)
    (a19 : PySem.W.nsIn K mainGlobals "_law_cells" = some (some (.ref f19))) (l19 : K.lookup f19 = some ⟨oc19, od19, .func (PySem.W.fnOf "_law_cells" "_law_cells" (defArgs lCells) (defBody lCells) (defScope lCells) .none kV19 dc19 pm19 an19 cd19 ct19), sl19⟩) (c19 : PySem.W.codeIn K cd19 "_law_cells" = true) (k19 : PySem.W.keepIn K (.ref f19) = true)
    (a20 : PySem.W.nsIn K mainGlobals "_law_texts" = some (some (.ref f20))) (l20 : K.lookup f20 = some ⟨oc20, od20, .func (PySem.W.fnOf "_law_texts" "_law_texts" (defArgs lTexts) (defBody lTexts) (defScope lTexts) .none kV20 dc20 pm20 an20 cd20 ct20), sl20⟩) (c20 : PySem.W.codeIn K cd20 "_law_texts" = true) (k20 : PySem.W.keepIn K (.ref f20) = true)
    (a21 : PySem.W.nsIn K mainGlobals "_law_row" = some (some (.ref f21))) (l21 : K.lookup f21 = some ⟨oc21, od21, .func (PySem.W.fnOf "_law_row" "_law_row" (defArgs lRow) (defBody lRow) (defScope lRow) .none kV21 dc21 pm21 an21 cd21 ct21), sl21⟩) (c21 : PySem.W.codeIn K cd21 "_law_row" = true) (k21 : PySem.W.keepIn K (.ref f21) = true)
    (a22 : PySem.W.nsIn K mainGlobals "_law_table" = some (some (.ref f22))) (l22 : K.lookup f22 = some ⟨oc22, od22, .func (PySem.W.fnOf "_law_table" "_law_table" (defArgs lTable) (defBody lTable) (defScope lTable) .none kV22 dc22 pm22 an22 cd22 ct22), sl22⟩) (c22 : PySem.W.codeIn K cd22 "_law_table" = true) (k22 : PySem.W.keepIn K (.ref f22) = true)
    (a23 : PySem.W.nsIn K mainGlobals "law" = some (some (.ref f23))) (l23 : K.lookup f23 = some ⟨oc23, od23, .func (PySem.W.fnOf "law" "law" (defArgs lLaw) (defBody lLaw) (defScope lLaw) .none kV23 dc23 pm23 an23 cd23 ct23), sl23⟩) (c23 : PySem.W.codeIn K cd23 "law" = true) (k23 : PySem.W.keepIn K (.ref f23) = true)
    (z0 : PySem.W.nsIn K mainGlobals "len" = some none)
    (z1 : PySem.W.nsIn K mainGlobals "range" = some none)
    (z2 : PySem.W.nsIn K mainGlobals "tuple" = some none)
    (z3 : PySem.W.nsIn K mainGlobals "list" = some none)
    (z4 : PySem.W.nsIn K mainGlobals "max" = some none)
    (z5 : PySem.W.nsIn K mainGlobals "min" = some none)
    (z6 : PySem.W.nsIn K mainGlobals "enumerate" = some none)
    (z7 : PySem.W.nsIn K mainGlobals "zip" = some none)
    (z8 : PySem.W.nsIn K mainGlobals "sorted" = some none)
    (z9 : PySem.W.nsIn K mainGlobals "int" = some none)
    (z10 : PySem.W.nsIn K mainGlobals "sum" = some none)
    (nT : K.lookup Pt = none) (hC : PySem.W.codeHdIn K ca Pt = true) : LawAtS l w K CX0 6 63 "script" mg fa h := by
  have e := hfa.symm.trans (PySem.W.mg_of X G a23)
  cases e
  have A0 := at_mk (st := sNumbered) (ps := ["things"]) X G a0 l0 c0 k0 (fun _ _ _ _ _ _ us hl => match us, hl with | [_], _ => rfl)
  have A1 := at_mk (st := sFrozen) (ps := ["table"]) X G a1 l1 c1 k1 (fun _ _ _ _ _ _ us hl => match us, hl with | [_], _ => rfl)
  have A2 := at_mk (st := sSayings) (ps := ["saying", "rows"]) X G a2 l2 c2 k2 (fun _ _ _ _ _ _ us hl => match us, hl with | [_, _], _ => rfl)
  have A3 := atc_mk (st := sCommon) (ps := ["pairs"]) X G a3 l3 c3 k3 (fun _ _ _ _ _ _ us hl => match us, hl with | [_], _ => rfl)
  have A4 := at_mk (st := sShape) (ps := ["shape", "sayings"]) X G a4 l4 c4 k4 (fun _ _ _ _ _ _ us hl => match us, hl with | [_, _], _ => rfl)
  have A5 := at_mk (st := sPack) (ps := ["table"]) X G a5 l5 c5 k5 (fun _ _ _ _ _ _ us hl => match us, hl with | [_], _ => rfl)
  have A6 := at_mk (st := sBlocks) (ps := ["cells", "at", "many"]) X G a6 l6 c6 k6 (fun _ _ _ _ _ _ us hl => match us, hl with | [_, _, _], _ => rfl)
  have A7 := at_mk (st := sPairAt) (ps := ["shape", "place"]) X G a7 l7 c7 k7 (fun _ _ _ _ _ _ us hl => match us, hl with | [_, _], _ => rfl)
  have A8 := at_mk (st := sFits) (ps := ["shape", "events", "sayings", "rooms"]) X G a8 l8 c8 k8 (fun _ _ _ _ _ _ us hl => match us, hl with | [_, _, _, _], _ => rfl)
  have A9 := at_mk (st := sParts) (ps := ["events", "texts", "cells"]) X G a9 l9 c9 k9 (fun _ _ _ _ _ _ us hl => match us, hl with | [_, _, _], _ => rfl)
  have A10 := at_mk (st := sRests) (ps := ["events", "shape", "sayings", "room"]) X G a10 l10 c10 k10 (fun _ _ _ _ _ _ us hl => match us, hl with | [_, _, _, _], _ => rfl)
  have A11 := at_mk (st := sWhole) (ps := ["events", "texts", "cells"]) X G a11 l11 c11 k11 (fun _ _ _ _ _ _ us hl => match us, hl with | [_, _, _], _ => rfl)
  have A12 := at_mk (st := sUnp) (ps := ["told"]) X G a12 l12 c12 k12 (fun _ _ _ _ _ _ us hl => match us, hl with | [_], _ => rfl)
  have A13 := at_mk (st := lTake) (ps := ["state", "many"]) X G a13 l13 c13 k13 (fun _ _ _ _ _ _ us hl => match us, hl with | [_, _], _ => rfl)
  have A14 := at_mk (st := lCell) (ps := ["script", "k", "mixed"]) X G a14 l14 c14 k14 (fun _ _ _ _ _ _ us hl => match us, hl with | [_, _, _], _ => rfl)
  have A15 := at_mk (st := lEvents) (ps := ["state"]) X G a15 l15 c15 k15 (fun _ _ _ _ _ _ us hl => match us, hl with | [_], _ => rfl)
  have A16 := at_mk (st := lShape) (ps := ["state", "many", "events", "says", "rooms"]) X G a16 l16 c16 k16 (fun _ _ _ _ _ _ us hl => match us, hl with | [_, _, _, _, _], _ => rfl)
  have A17 := at_mk (st := lStill) (ps := ["state", "events", "empty", "room"]) X G a17 l17 c17 k17 (fun _ _ _ _ _ _ us hl => match us, hl with | [_, _, _, _], _ => rfl)
  have A18 := at_mk (st := lParts) (ps := ["script"]) X G a18 l18 c18 k18 (fun _ _ _ _ _ _ us hl => match us, hl with | [_], _ => rfl)
  have A19 := at_mk (st := lCells) (ps := ["parts"]) X G a19 l19 c19 k19 (fun _ _ _ _ _ _ us hl => match us, hl with | [_], _ => rfl)
  have A20 := at_mk (st := lTexts) (ps := ["parts", "saying"]) X G a20 l20 c20 k20 (fun _ _ _ _ _ _ us hl => match us, hl with | [_, _], _ => rfl)
  have A21 := at_mk (st := lRow) (ps := ["parts", "shape", "place"]) X G a21 l21 c21 k21 (fun _ _ _ _ _ _ us hl => match us, hl with | [_, _, _], _ => rfl)
  have A22 := at_mk (st := lTable) (ps := ["parts"]) X G a22 l22 c22 k22 (fun _ _ _ _ _ _ us hl => match us, hl with | [_], _ => rfl)
  have F := fun_mk (st := lLaw) l23 c23 k23
  have T : Blt mg := ⟨PySem.W.mg_none_of X G z0, PySem.W.mg_none_of X G z1, PySem.W.mg_none_of X G z2, PySem.W.mg_none_of X G z3, PySem.W.mg_none_of X G z4, PySem.W.mg_none_of X G z5, PySem.W.mg_none_of X G z6, PySem.W.mg_none_of X G z7, PySem.W.mg_none_of X G z8, PySem.W.mg_none_of X G z9, PySem.W.mg_none_of X G z10⟩
  refine ⟨PySem.W.fnOf "law" "law" (defArgs lLaw) (defBody lLaw) (defScope lLaw) .none kV23 dc23 pm23 an23 cd23 ct23, [(ca, Pt)], spLaw K Pt, fun p hp => ?_, fun p hp => ?_, fun p hp => ?_, fun s v => .of_eq rfl, fun H a ns _ _ hH hS => ?_, fun base _ _ hTB => ?_⟩
  · rw [List.mem_singleton.mp hp]; exact hT
  · rw [List.mem_singleton.mp hp]; exact nT
  · rw [List.mem_singleton.mp hp]; exact PySem.W.codeHd_of_K X hC
  · exact ⟨a, ns, rfl, hS, TabS.nil (hH (ca, Pt) (List.mem_singleton.mpr rfl)), fun _ => rfl⟩
  · exact ok_law F ⟨T, hTB (ca, Pt) (List.mem_singleton.mpr rfl), A0, A1, A2, A3, A4, A5, A6, A7, A8, A9, A10, A11, A12, A13, A14, A15, A16, A17, A18, A19, A20, A21, A22⟩
end Mill
open PySem PySem.W PyProof.Rows
set_option maxRecDepth 100000 in
set_option maxHeartbeats 0 in
theorem PySem.Challenge.cw_callmill_k70_whole_packs_of_other_cells_holds : PySem.Challenge.rw_callmill_k70_whole_packs_of_other_cells.Holds := by
  w_on; o_law; k_head; (case hw => w_witness2)
  k_fill
  refine LamX.walk_ofTs (l := PySem.Challenge.rw_callmill_k70_whole_packs_of_other_cells) (n := 63) (k := 6) (x := "script") (CX := fun _ => L2.CX0) rfl (by decide) rfl ⟨rfl, by decide, by decide⟩ (fun w h Y => PySem.W.km_in_of Y) ?F (fun _ _ _ _ _ z => z)
  case F =>
    intro w mg fa h Y KX G hmg
    refine' Mill.all_mk (Pt := 33) KX G hmg (PySem.W.km_tabs_of Y 33 (List.mem_singleton.mpr rfl)) ?a0 ?l0 ?c0 ?k0 ?a1 ?l1 ?c1 ?k1 ?a2 ?l2 ?c2 ?k2 ?a3 ?l3 ?c3 ?k3 ?a4 ?l4 ?c4 ?k4 ?a5 ?l5 ?c5 ?k5 ?a6 ?l6 ?c6 ?k6 ?a7 ?l7 ?c7 ?k7 ?a8 ?l8 ?c8 ?k8 ?a9 ?l9 ?c9 ?k9 ?a10 ?l10 ?c10 ?k10 ?a11 ?l11 ?c11 ?k11 ?a12 ?l12 ?c12 ?k12 ?a13 ?l13 ?c13 ?k13 ?a14 ?l14 ?c14 ?k14 ?a15 ?l15 ?c15 ?k15 ?a16 ?l16 ?c16 ?k16 ?a17 ?l17 ?c17 ?k17 ?a18 ?l18 ?c18 ?k18 ?a19 ?l19 ?c19 ?k19 ?a20 ?l20 ?c20 ?k20 ?a21 ?l21 ?c21 ?k21 ?a22 ?l22 ?c22 ?k22 ?a23 ?l23 ?c23 ?k23 ?z0 ?z1 ?z2 ?z3 ?z4 ?z5 ?z6 ?z7 ?z8 ?z9 ?z10 ?nT ?hC
    (case a0 => k_is); (case l0 => k_is); (case c0 => k_is); (case k0 => k_is)
    (case a1 => k_is); (case l1 => k_is); (case c1 => k_is); (case k1 => k_is)
    (case a2 => k_is); (case l2 => k_is); (case c2 => k_is); (case k2 => k_is)
    (case a3 => k_is); (case l3 => k_is); (case c3 => k_is); (case k3 => k_is)
    (case a4 => k_is); (case l4 => k_is); (case c4 => k_is); (case k4 => k_is)
    (case a5 => k_is); (case l5 => k_is); (case c5 => k_is); (case k5 => k_is)
    (case a6 => k_is); (case l6 => k_is); (case c6 => k_is); (case k6 => k_is)
    (case a7 => k_is); (case l7 => k_is); (case c7 => k_is); (case k7 => k_is)
    (case a8 => k_is); (case l8 => k_is); (case c8 => k_is); (case k8 => k_is)
    (case a9 => k_is); (case l9 => k_is); (case c9 => k_is); (case k9 => k_is)
    (case a10 => k_is); (case l10 => k_is); (case c10 => k_is); (case k10 => k_is)
    (case a11 => k_is); (case l11 => k_is); (case c11 => k_is); (case k11 => k_is)
    (case a12 => k_is); (case l12 => k_is); (case c12 => k_is); (case k12 => k_is)
    (case a13 => k_is); (case l13 => k_is); (case c13 => k_is); (case k13 => k_is)
    (case a14 => k_is); (case l14 => k_is); (case c14 => k_is); (case k14 => k_is)
    (case a15 => k_is); (case l15 => k_is); (case c15 => k_is); (case k15 => k_is)
    (case a16 => k_is); (case l16 => k_is); (case c16 => k_is); (case k16 => k_is)
    (case a17 => k_is); (case l17 => k_is); (case c17 => k_is); (case k17 => k_is)
    (case a18 => k_is); (case l18 => k_is); (case c18 => k_is); (case k18 => k_is)
    (case a19 => k_is); (case l19 => k_is); (case c19 => k_is); (case k19 => k_is)
    (case a20 => k_is); (case l20 => k_is); (case c20 => k_is); (case k20 => k_is)
    (case a21 => k_is); (case l21 => k_is); (case c21 => k_is); (case k21 => k_is)
    (case a22 => k_is); (case l22 => k_is); (case c22 => k_is); (case k22 => k_is)
    (case a23 => k_is); (case l23 => k_is); (case c23 => k_is); (case k23 => k_is)
    (case z0 => k_is)
    (case z1 => k_is)
    (case z2 => k_is)
    (case z3 => k_is)
    (case z4 => k_is)
    (case z5 => k_is)
    (case z6 => k_is)
    (case z7 => k_is)
    (case z8 => k_is)
    (case z9 => k_is)
    (case z10 => k_is)
    (case nT => kernel_rfl); (case hC => kernel_rfl)
