import PyProof.Rows.All
import Wide.All
import OpenK.AllK
import Wide.FinOn
import KE.GoesMore
import HandS.ForMost
import HandS.Deep
import HandS.Style
import HandS.IsInst
import HandS.TupLe
import HandS.TupAny
import HandS.SortKw
import HandS.Conv
import HandS.Codes
import HandS.Walk
import PySem.Challenge.RW_pairwebs_k05_whole_webs_made_of_webs
set_option Elab.async false
set_option linter.all false
set_option maxRecDepth 100000
set_option maxHeartbeats 4000000
/-! The plain law: webs as lists of pairs of numbers, their pieces by the very search that the program does, no program in sight. -/
namespace Wb
abbrev Ties := List (Nat × Nat)
def tlt (s t : Nat × Nat) : Prop := s.1 < t.1 ∨ (s.1 = t.1 ∧ s.2 < t.2)
def tle (s t : Nat × Nat) : Prop := s.1 < t.1 ∨ (s.1 = t.1 ∧ s.2 ≤ t.2)
instance (s t : Nat × Nat) : Decidable (tlt s t) := by unfold tlt; infer_instance
instance (s t : Nat × Nat) : Decidable (tle s t) := by unfold tle; infer_instance
structure WebOk (n : Nat) (ts : Ties) : Prop where
  pos : 1 ≤ n
  le : n ≤ 8
  tie : ∀ t ∈ ts, t.1 < t.2 ∧ t.2 < n
  inc : ts.Pairwise tlt
instance (n : Nat) (ts : Ties) : Decidable (WebOk n ts) :=
  if h : 1 ≤ n ∧ n ≤ 8 ∧ (∀ t ∈ ts, t.1 < t.2 ∧ t.2 < n) ∧ ts.Pairwise tlt then .isTrue ⟨h.1, h.2.1, h.2.2.1, h.2.2.2⟩ else .isFalse fun w => h ⟨w.pos, w.le, w.tie, w.inc⟩
/-- two places have a tie -/
def adj (ts : Ties) (p q : Nat) : Bool := decide ((min p q, max p q) ∈ ts)
def nearTo (n : Nat) (ts : Ties) (p : Nat) : List Nat := (List.range n).filter (adj ts p)
def fresh (n : Nat) (ts : Ties) (som row : List Nat) (x : Nat) : List Nat := (nearTo n ts x).filter fun y => !row.contains y && !som.contains y
/-- the search: k turns at most, from place i of the row on -/
def bfs (n : Nat) (ts : Ties) (som : List Nat) : Nat → Nat → List Nat → List Nat
  | 0, _, row => row
  | k + 1, i, row => if i < row.length then bfs n ts som k (i + 1) (row ++ fresh n ts som row (row.getD i 0)) else row
def srt (n : Nat) (row : List Nat) : List Nat := (List.range n).filter fun q => row.contains q
def piece (n : Nat) (ts : Ties) (som : List Nat) (p : Nat) : List Nat := srt n (bfs n ts som n 0 [p])
def stepP (n : Nat) (ts : Ties) (som : List Nat) (found : List (List Nat)) (p : Nat) : List (List Nat) :=
  if !som.contains p && !(found.any fun c => c.contains p) then found ++ [piece n ts som p] else found
def piecesLeft (n : Nat) (ts : Ties) (som : List Nat) : List (List Nat) := (List.range n).foldl (stepP n ts som) []

/-! ### ties -/
theorem adj_symm (ts : Ties) (p q : Nat) : adj ts p q = adj ts q p := by
  unfold adj
  rw [Nat.min_comm, Nat.max_comm]
theorem adj_irr {n : Nat} {ts : Ties} (h : ∀ t ∈ ts, t.1 < t.2 ∧ t.2 < n) (p : Nat) : adj ts p p = false := by
  unfold adj
  rw [decide_eq_false_iff_not]
  intro m
  have := (h _ m).1
  simp at this
theorem mem_near {n : Nat} {ts : Ties} {p q : Nat} : q ∈ nearTo n ts p ↔ q < n ∧ adj ts p q = true := by
  unfold nearTo
  rw [List.mem_filter, List.mem_range]
theorem mem_fresh {n : Nat} {ts : Ties} {som row : List Nat} {x y : Nat} : y ∈ fresh n ts som row x ↔ y < n ∧ adj ts x y = true ∧ y ∉ row ∧ y ∉ som := by
  unfold fresh
  rw [List.mem_filter, mem_near]
  simp [and_assoc]
theorem nodup_filter {α : Type} {l : List α} (p : α → Bool) (h : l.Nodup) : (l.filter p).Nodup := h.sublist List.filter_sublist
theorem fresh_nodup (n : Nat) (ts : Ties) (som row : List Nat) (x : Nat) : (fresh n ts som row x).Nodup := nodup_filter _ (nodup_filter _ List.nodup_range)

/-! ### places that belong together -/
inductive Rch (n : Nat) (ts : Ties) (som : List Nat) (p : Nat) : Nat → Prop
  | refl : p < n → p ∉ som → Rch n ts som p p
  | step {q r : Nat} : Rch n ts som p q → adj ts q r = true → r < n → r ∉ som → Rch n ts som p r
section
variable {n : Nat} {ts : Ties} {som : List Nat}
theorem Rch.left {p q : Nat} (h : Rch n ts som p q) : p < n ∧ p ∉ som := by
  induction h with
  | refl a b => exact ⟨a, b⟩
  | step _ _ _ _ ih => exact ih
theorem Rch.right {p q : Nat} (h : Rch n ts som p q) : q < n ∧ q ∉ som := by
  cases h with
  | refl a b => exact ⟨a, b⟩
  | step _ _ a b => exact ⟨a, b⟩
theorem Rch.trans {p q r : Nat} (h : Rch n ts som p q) (k : Rch n ts som q r) : Rch n ts som p r := by
  induction k with
  | refl => exact h
  | step _ a b c ih => exact .step ih a b c
theorem Rch.symm {p q : Nat} (h : Rch n ts som p q) : Rch n ts som q p := by
  induction h with
  | refl a b => exact .refl a b
  | step h a b c ih =>
    have hr := h.right
    exact Rch.trans (.step (.refl b c) (by rw [adj_symm]; exact a) hr.1 hr.2) ih
theorem Rch.mono {som' : List Nat} (hs : ∀ x ∈ som', x ∈ som) {p q : Nat} (h : Rch n ts som p q) : Rch n ts som' p q := by
  induction h with
  | refl a b => exact .refl a fun m => b (hs _ m)
  | step _ a b c ih => exact .step ih a b fun m => c (hs _ m)

/-- what holds of the row ahead of each turn -/
structure RowOk (n : Nat) (ts : Ties) (som : List Nat) (p i : Nat) (row : List Nat) : Prop where
  nd : row.Nodup
  mem : p ∈ row
  rch : ∀ x ∈ row, Rch n ts som p x
  done : ∀ j x, j < i → row[j]? = some x → ∀ y, adj ts x y = true → y < n → y ∉ som → y ∈ row
  le : i ≤ row.length
theorem RowOk.start {p : Nat} (hp : p < n) (hs : p ∉ som) : RowOk n ts som p 0 [p] where
  nd := by simp
  mem := by simp
  rch := fun x hx => by
    have : x = p := by simpa using hx
    subst this
    exact .refl hp hs
  done := fun j x hj => absurd hj (Nat.not_lt_zero _)
  le := Nat.zero_le _
theorem RowOk.next {p i : Nat} {row : List Nat} (R : RowOk n ts som p i row) {x : Nat} (hx : row[i]? = some x) : RowOk n ts som p (i + 1) (row ++ fresh n ts som row x) where
  nd := by
    rw [List.nodup_append]
    refine ⟨R.nd, fresh_nodup _ _ _ _ _, fun a ha b hb e => ?_⟩
    subst e
    exact (mem_fresh.mp hb).2.2.1 ha
  mem := List.mem_append_left _ R.mem
  rch := fun y hy => by
    rcases List.mem_append.mp hy with h | h
    · exact R.rch y h
    · obtain ⟨a, b, _, c⟩ := mem_fresh.mp h
      exact .step (R.rch x (List.mem_of_getElem? hx)) b a c
  done := fun j z hj hz y ha hn hs => by
    have hil : i < row.length := (List.getElem?_eq_some_iff.mp hx).1
    have hjl : j < row.length := by omega
    rw [List.getElem?_append_left hjl] at hz
    by_cases e : j = i
    · subst e
      rw [hx] at hz
      cases hz
      by_cases hm : y ∈ row
      · exact List.mem_append_left _ hm
      · exact List.mem_append_right _ (mem_fresh.mpr ⟨hn, ha, hm, hs⟩)
    · exact List.mem_append_left _ (R.done j z (by omega) hz y ha hn hs)
  le := by
    have hil : i < row.length := (List.getElem?_eq_some_iff.mp hx).1
    rw [List.length_append]
    omega
theorem srt_perm {row : List Nat} (nd : row.Nodup) (hl : ∀ x ∈ row, x < n) : (srt n row).Perm row := by
  unfold srt
  rw [List.perm_ext_iff_of_nodup (nodup_filter _ List.nodup_range) nd]
  intro a
  rw [List.mem_filter, List.mem_range]
  constructor
  · intro h
    simpa using h.2
  · intro h
    exact ⟨hl a h, by simpa using h⟩
theorem srt_len (row : List Nat) : (srt n row).length ≤ n := by
  have := List.filter_sublist (l := List.range n) (p := fun q => row.contains q)
  have := this.length_le
  rw [List.length_range] at this
  exact this
theorem len_of {row : List Nat} (nd : row.Nodup) (hl : ∀ x ∈ row, x < n) : row.length ≤ n := by
  rw [← (srt_perm nd hl).length_eq]
  exact srt_len _
theorem RowOk.len {p i : Nat} {row : List Nat} (R : RowOk n ts som p i row) : row.length ≤ n := len_of R.nd fun x hx => (R.rch x hx).right.1
/-- the only rising arrangement -/
theorem srt_eq {row out : List Nat} (nd : row.Nodup) (hl : ∀ x ∈ row, x < n) (hp : out.Perm row) (hs : out.Pairwise (· ≤ ·)) : out = srt n row := by
  refine List.Perm.eq_of_pairwise (le := (· ≤ ·)) (fun a b _ _ h1 h2 => Nat.le_antisymm h1 h2) hs ?_ (hp.trans (srt_perm nd hl).symm)
  unfold srt
  exact (List.pairwise_le_range).sublist List.filter_sublist
theorem bfs_ok {p : Nat} : ∀ (k i : Nat) (row : List Nat), RowOk n ts som p i row → n ≤ k + i → ∃ i', RowOk n ts som p i' (bfs n ts som k i row) ∧ (bfs n ts som k i row).length ≤ i'
  | 0, i, row, R, h => ⟨i, R, by have := R.len; show row.length ≤ i; omega⟩
  | k + 1, i, row, R, h => by
    unfold bfs
    by_cases hi : i < row.length
    · rw [if_pos hi]
      have hx : row[i]? = some (row.getD i 0) := by
        rw [List.getD_eq_getElem?_getD, List.getElem?_eq_getElem hi]
        rfl
      exact bfs_ok k (i + 1) _ (R.next hx) (by omega)
    · rw [if_neg hi]
      exact ⟨i, R, by omega⟩
theorem bfs_nodup {p : Nat} (hp : p < n) (hs : p ∉ som) : (bfs n ts som n 0 [p]).Nodup := by
  obtain ⟨i, R, _⟩ := bfs_ok n 0 [p] (RowOk.start (ts := ts) hp hs) (by omega)
  exact R.nd
theorem mem_bfs {p : Nat} (hp : p < n) (hs : p ∉ som) {q : Nat} : q ∈ bfs n ts som n 0 [p] ↔ Rch n ts som p q := by
  obtain ⟨i, R, hi⟩ := bfs_ok n 0 [p] (RowOk.start (ts := ts) hp hs) (by omega)
  constructor
  · exact R.rch q
  · intro h
    induction h with
    | refl => exact R.mem
    | step _ a b c ih =>
      obtain ⟨j, hj, e⟩ := List.getElem_of_mem ih
      exact R.done j _ (by omega) (List.getElem?_eq_some_iff.mpr ⟨hj, e⟩) _ a b c
theorem mem_piece {p : Nat} (hp : p < n) (hs : p ∉ som) {q : Nat} : q ∈ piece n ts som p ↔ Rch n ts som p q := by
  unfold piece srt
  rw [List.mem_filter, List.mem_range, List.contains_iff_mem, mem_bfs hp hs]
  exact ⟨fun h => h.2, fun h => ⟨h.right.1, h⟩⟩
theorem piece_nodup (p : Nat) : (piece n ts som p).Nodup := nodup_filter _ List.nodup_range
theorem piece_lt {p q : Nat} (h : q ∈ piece n ts som p) : q < n := List.mem_range.mp (List.mem_filter.mp h).1
theorem piece_inc (p : Nat) : (piece n ts som p).Pairwise (· < ·) := List.pairwise_lt_range.sublist List.filter_sublist

/-! ### which places begin a piece -/
def Rep (n : Nat) (ts : Ties) (som : List Nat) (p : Nat) : Prop := p < n ∧ p ∉ som ∧ ∀ q, q < p → ¬ Rch n ts som q p
def isRep (n : Nat) (ts : Ties) (som : List Nat) (p : Nat) : Bool := !som.contains p && (List.range p).all fun q => som.contains q || !(piece n ts som q).contains p
theorem isRep_iff {p : Nat} (hp : p < n) : isRep n ts som p = true ↔ Rep n ts som p := by
  unfold isRep Rep
  simp only [Bool.and_eq_true, Bool.not_eq_true', List.all_eq_true, List.mem_range, Bool.or_eq_true, List.contains_iff_mem, Bool.eq_false_iff, ne_eq]
  constructor
  · rintro ⟨h1, h2⟩
    refine ⟨hp, h1, fun q hq hr => ?_⟩
    rcases h2 q hq with h | h
    · exact hr.left.2 h
    · exact h ((mem_piece hr.left.1 hr.left.2).mpr hr)
  · rintro ⟨_, h1, h2⟩
    refine ⟨h1, fun q hq => ?_⟩
    by_cases hs : q ∈ som
    · exact .inl hs
    · exact .inr fun hm => h2 q hq ((mem_piece (by omega) hs).mp hm)
theorem rep_of {p : Nat} : p < n → p ∉ som → ∃ r, r ≤ p ∧ Rep n ts som r ∧ Rch n ts som r p := by
  induction p using Nat.strongRecOn with
  | ind p ih =>
    intro hp hs
    by_cases h : ∃ q, q < p ∧ Rch n ts som q p
    · obtain ⟨q, hq, hr⟩ := h
      obtain ⟨r, h1, h2, h3⟩ := ih q hq hr.left.1 hr.left.2
      exact ⟨r, by omega, h2, h3.trans hr⟩
    · exact ⟨p, Nat.le_refl _, ⟨hp, hs, fun q hq hr => h ⟨q, hq, hr⟩⟩, .refl hp hs⟩
theorem foldl_pieces : ∀ k, k ≤ n → (List.range k).foldl (stepP n ts som) [] = ((List.range k).filter (isRep n ts som)).map (piece n ts som)
  | 0, _ => rfl
  | k + 1, hk => by
    have hkn : k < n := by omega
    rw [List.range_succ, List.foldl_append, foldl_pieces k (by omega), List.filter_append, List.map_append]
    show stepP n ts som _ k = _
    unfold stepP
    have e : (!som.contains k && !(List.any (((List.range k).filter (isRep n ts som)).map (piece n ts som)) fun c => c.contains k)) = isRep n ts som k := by
      rw [Bool.eq_iff_iff, isRep_iff hkn]
      simp only [Bool.and_eq_true, Bool.not_eq_true', List.any_map, Bool.eq_false_iff, ne_eq, List.any_eq_true, List.contains_iff_mem, List.mem_filter, List.mem_range, Function.comp]
      constructor
      · rintro ⟨h1, h2⟩
        refine ⟨hkn, h1, fun q hq hr => h2 ?_⟩
        obtain ⟨r, a, b, c⟩ := rep_of (ts := ts) hr.left.1 hr.left.2
        exact ⟨r, ⟨by omega, (isRep_iff b.1).mpr b⟩, (mem_piece b.1 b.2.1).mpr (c.trans hr)⟩
      · rintro ⟨_, h1, h2⟩
        refine ⟨h1, ?_⟩
        rintro ⟨q, ⟨hq, hb⟩, hm⟩
        have b := (isRep_iff (by omega)).mp hb
        exact h2 q hq ((mem_piece b.1 b.2.1).mp hm)
    rw [e]
    cases h : isRep n ts som k with
    | true => simp [h]
    | false => simp [h]
theorem pieces_eq : piecesLeft n ts som = ((List.range n).filter (isRep n ts som)).map (piece n ts som) := foldl_pieces n (Nat.le_refl _)
theorem mem_pieces {c : List Nat} : c ∈ piecesLeft n ts som ↔ ∃ r, Rep n ts som r ∧ c = piece n ts som r := by
  rw [pieces_eq, List.mem_map]
  constructor
  · rintro ⟨r, h, rfl⟩
    obtain ⟨h1, h2⟩ := List.mem_filter.mp h
    exact ⟨r, (isRep_iff (List.mem_range.mp h1)).mp h2, rfl⟩
  · rintro ⟨r, h, rfl⟩
    exact ⟨r, List.mem_filter.mpr ⟨List.mem_range.mpr h.1, (isRep_iff h.1).mpr h⟩, rfl⟩
theorem pieces_disj : (piecesLeft n ts som).Pairwise fun c d => ∀ x, x ∈ c → ∀ y, y ∈ d → x ≠ y := by
  rw [pieces_eq, List.pairwise_map, List.pairwise_filter]
  refine List.Pairwise.imp_of_mem ?_ (List.pairwise_lt_range (n := n))
  intro a b ha hb hab h1 h2 x hx y hy e
  subst e
  have ra := (isRep_iff (List.mem_range.mp ha)).mp h1
  have rb := (isRep_iff (List.mem_range.mp hb)).mp h2
  exact rb.2.2 a hab (((mem_piece ra.1 ra.2.1).mp hx).trans ((mem_piece rb.1 rb.2.1).mp hy).symm)
theorem flat_nodup : (piecesLeft n ts som).flatten.Nodup := by
  unfold List.Nodup
  rw [List.pairwise_flatten]
  refine ⟨fun l hl => ?_, pieces_disj⟩
  obtain ⟨r, _, rfl⟩ := mem_pieces.mp hl
  exact piece_nodup r
theorem mem_flat {x : Nat} : x ∈ (piecesLeft n ts som).flatten ↔ x < n ∧ x ∉ som := by
  rw [List.mem_flatten]
  constructor
  · rintro ⟨c, hc, hx⟩
    obtain ⟨r, hr, rfl⟩ := mem_pieces.mp hc
    exact ((mem_piece hr.1 hr.2.1).mp hx).right
  · rintro ⟨h1, h2⟩
    obtain ⟨r, _, b, c⟩ := rep_of (ts := ts) h1 h2
    exact ⟨_, mem_pieces.mpr ⟨r, b, rfl⟩, (mem_piece b.1 b.2.1).mpr c⟩
end
/-- all places stand in the pieces, each once -/
theorem flat_perm (n : Nat) (ts : Ties) : (piecesLeft n ts []).flatten.Perm (List.range n) := by
  rw [List.perm_ext_iff_of_nodup flat_nodup List.nodup_range]
  intro a
  rw [mem_flat, List.mem_range]
  simp
/-- a place's near ones stand in its piece -/
theorem near_in {n : Nat} {ts : Ties} {c : List Nat} (hc : c ∈ piecesLeft n ts []) {x y : Nat} (hx : x ∈ c) (hy : y ∈ nearTo n ts x) : y ∈ c := by
  obtain ⟨r, hr, rfl⟩ := mem_pieces.mp hc
  obtain ⟨h1, h2⟩ := mem_near.mp hy
  exact (mem_piece hr.1 hr.2.1).mpr (.step ((mem_piece hr.1 hr.2.1).mp hx) h2 h1 (by simp))
theorem one_of {α : Type} : ∀ (L : List (List α)) (x : α) (f : List α → Bool), L.flatten.Nodup → x ∈ L.flatten → (∀ c ∈ L, f c = true ↔ x ∈ c) → (L.filter f).length = 1
  | [], x, f, _, hx, _ => by simp at hx
  | c :: L, x, f, nd, hx, hf => by
    rw [List.flatten_cons, List.nodup_append] at nd
    obtain ⟨n1, n2, n3⟩ := nd
    by_cases hc : x ∈ c
    · have e : L.filter f = [] := by
        rw [List.filter_eq_nil_iff]
        intro d hd h
        have := (hf d (List.mem_cons_of_mem _ hd)).mp h
        exact n3 x hc x (List.mem_flatten.mpr ⟨d, hd, this⟩) rfl
      rw [List.filter_cons_of_pos ((hf c List.mem_cons_self).mpr hc), e]
      rfl
    · have : ¬ f c = true := fun h => hc ((hf c List.mem_cons_self).mp h)
      rw [List.filter_cons_of_neg this]
      refine one_of L x f n2 ?_ fun d hd => hf d (List.mem_cons_of_mem _ hd)
      rw [List.flatten_cons] at hx
      exact (List.mem_append.mp hx).resolve_left hc
/-- a piece without some is within just one without fewer -/
theorem within_one {n : Nat} {ts : Ties} {som : List Nat} {c : List Nat} (hc : c ∈ piecesLeft n ts som) :
    ((piecesLeft n ts som.tail).filter fun d => (c.filter fun x => !d.contains x) == []).length = 1 := by
  have hsub : ∀ x ∈ som.tail, x ∈ som := fun x h => List.mem_of_mem_tail h
  obtain ⟨r, hr, rfl⟩ := mem_pieces.mp hc
  refine one_of _ r _ flat_nodup (mem_flat.mpr ⟨hr.1, fun h => hr.2.1 (hsub _ h)⟩) fun d hd => ?_
  obtain ⟨q, hq, rfl⟩ := mem_pieces.mp hd
  have hrr : r ∈ piece n ts som r := (mem_piece hr.1 hr.2.1).mpr (.refl hr.1 hr.2.1)
  rw [beq_iff_eq, List.filter_eq_nil_iff]
  constructor
  · intro h
    have := h r hrr
    simpa using this
  · intro h x hx
    have h1 := (mem_piece hq.1 hq.2.1).mp h
    have h2 := ((mem_piece hr.1 hr.2.1).mp hx).mono hsub
    have h3 := (mem_piece hq.1 hq.2.1).mpr (h1.trans h2)
    simpa using h3

/-! ### a web and one beside it -/
def moved (n : Nat) (ts : Ties) : Ties := ts.map fun t => (n + t.1, n + t.2)
section
variable {n m : Nat} {ts us : Ties}
theorem mem_moved {a b : Nat} : (a, b) ∈ moved n us ↔ n ≤ a ∧ n ≤ b ∧ (a - n, b - n) ∈ us := by
  unfold moved
  rw [List.mem_map]
  constructor
  · rintro ⟨⟨x, y⟩, h, e⟩
    have e1 : n + x = a := congrArg Prod.fst e
    have e2 : n + y = b := congrArg Prod.snd e
    have e3 : a - n = x := by omega
    have e4 : b - n = y := by omega
    rw [e3, e4]
    exact ⟨by omega, by omega, h⟩
  · rintro ⟨h1, h2, h⟩
    refine ⟨_, h, ?_⟩
    show (n + (a - n), n + (b - n)) = (a, b)
    rw [Nat.add_sub_cancel' h1, Nat.add_sub_cancel' h2]
theorem adj_lo (ht : ∀ t ∈ ts, t.1 < t.2 ∧ t.2 < n) {p q : Nat} (hp : p < n) : adj (ts ++ moved n us) p q = adj ts p q := by
  unfold adj
  rw [decide_eq_decide, List.mem_append, mem_moved]
  constructor
  · rintro (h | ⟨h, _⟩)
    · exact h
    · omega
  · exact .inl
theorem adj_lo_lt (ht : ∀ t ∈ ts, t.1 < t.2 ∧ t.2 < n) {p q : Nat} (h : adj ts p q = true) : q < n := by
  unfold adj at h
  have := ht _ (of_decide_eq_true h)
  have h2 : max p q < n := this.2
  omega
theorem adj_hi (ht : ∀ t ∈ ts, t.1 < t.2 ∧ t.2 < n) {p q : Nat} : adj (ts ++ moved n us) (n + p) (n + q) = adj us p q := by
  unfold adj
  rw [decide_eq_decide, List.mem_append, mem_moved]
  have e1 : min (n + p) (n + q) - n = min p q := by omega
  have e2 : max (n + p) (n + q) - n = max p q := by omega
  rw [e1, e2]
  constructor
  · rintro (h | ⟨_, _, h⟩)
    · have := ht _ h
      have h2 : max (n + p) (n + q) < n := this.2
      omega
    · exact h
  · intro h
    exact .inr ⟨by omega, by omega, h⟩
theorem rch_lo (ht : ∀ t ∈ ts, t.1 < t.2 ∧ t.2 < n) {p q : Nat} (hp : p < n) : Rch (n + m) (ts ++ moved n us) [] p q ↔ Rch n ts [] p q := by
  constructor
  · intro h
    induction h with
    | refl => exact .refl hp (by simp)
    | step _ a b _ ih =>
      rw [adj_lo ht ih.right.1] at a
      exact .step ih a (adj_lo_lt ht a) (by simp)
  · intro h
    induction h with
    | refl => exact .refl (by omega) (by simp)
    | step h a b _ ih =>
      rw [← adj_lo (us := us) ht h.right.1] at a
      exact .step ih a (by omega) (by simp)
theorem rch_hi (ht : ∀ t ∈ ts, t.1 < t.2 ∧ t.2 < n) {p q : Nat} (hp : p < m) : Rch (n + m) (ts ++ moved n us) [] (n + p) q ↔ ∃ r, q = n + r ∧ Rch m us [] p r := by
  constructor
  · intro h
    induction h with
    | refl => exact ⟨p, rfl, .refl hp (by simp)⟩
    | @step q r h a b _ ih =>
      obtain ⟨x, rfl, hx⟩ := ih
      have hr : n ≤ r := by
        have := h.right.1
        by_cases hlt : r < n
        · rw [adj_symm, adj_lo ht hlt] at a
          have := adj_lo_lt ht a
          omega
        · omega
      have e : r = n + (r - n) := by omega
      rw [e, adj_hi ht] at a
      exact ⟨r - n, e, .step hx a (by omega) (by simp)⟩
  · rintro ⟨r, rfl, h⟩
    induction h with
    | refl => exact .refl (by omega) (by simp)
    | step _ a b _ ih =>
      rw [← adj_hi (us := us) ht] at a
      exact .step ih a (by omega) (by simp)
theorem piece_lo (ht : ∀ t ∈ ts, t.1 < t.2 ∧ t.2 < n) {p : Nat} (hp : p < n) : piece (n + m) (ts ++ moved n us) [] p = piece n ts [] p := by
  refine List.Perm.eq_of_pairwise (le := (· < ·)) (fun a b _ _ h1 h2 => absurd h1 (Nat.lt_asymm h2)) (piece_inc _) (piece_inc _) ?_
  rw [List.perm_ext_iff_of_nodup (piece_nodup _) (piece_nodup _)]
  intro a
  rw [mem_piece (by omega) (by simp), mem_piece hp (by simp), rch_lo ht hp]
theorem piece_hi (ht : ∀ t ∈ ts, t.1 < t.2 ∧ t.2 < n) {p : Nat} (hp : p < m) : piece (n + m) (ts ++ moved n us) [] (n + p) = (piece m us [] p).map (n + ·) := by
  have inc : ((piece m us [] p).map (n + ·)).Pairwise (· < ·) := by
    rw [List.pairwise_map]
    exact (piece_inc _).imp fun h => by omega
  refine List.Perm.eq_of_pairwise (le := (· < ·)) (fun a b _ _ h1 h2 => absurd h1 (Nat.lt_asymm h2)) (piece_inc _) inc ?_
  rw [List.perm_ext_iff_of_nodup (piece_nodup _) (inc.imp fun h => Nat.ne_of_lt h)]
  intro a
  rw [mem_piece (by omega) (by simp), rch_hi ht hp, List.mem_map]
  constructor
  · rintro ⟨r, rfl, h⟩
    exact ⟨r, (mem_piece hp (by simp)).mpr h, rfl⟩
  · rintro ⟨r, h, rfl⟩
    exact ⟨r, rfl, (mem_piece hp (by simp)).mp h⟩
theorem rep_lo (ht : ∀ t ∈ ts, t.1 < t.2 ∧ t.2 < n) {p : Nat} (hp : p < n) : isRep (n + m) (ts ++ moved n us) [] p = isRep n ts [] p := by
  rw [Bool.eq_iff_iff, isRep_iff (by omega), isRep_iff hp]
  unfold Rep
  constructor
  · rintro ⟨_, h1, h2⟩
    exact ⟨hp, h1, fun q hq h => h2 q hq ((rch_lo ht (by omega)).mpr h)⟩
  · rintro ⟨_, h1, h2⟩
    exact ⟨by omega, h1, fun q hq h => h2 q hq ((rch_lo ht (by omega)).mp h)⟩
theorem rep_hi (ht : ∀ t ∈ ts, t.1 < t.2 ∧ t.2 < n) {p : Nat} (hp : p < m) : isRep (n + m) (ts ++ moved n us) [] (n + p) = isRep m us [] p := by
  rw [Bool.eq_iff_iff, isRep_iff (by omega), isRep_iff hp]
  unfold Rep
  constructor
  · rintro ⟨_, _, h2⟩
    exact ⟨hp, by simp, fun q hq h => h2 (n + q) (by omega) ((rch_hi ht (by omega)).mpr ⟨p, rfl, h⟩)⟩
  · rintro ⟨_, _, h2⟩
    refine ⟨by omega, by simp, fun q hq h => ?_⟩
    by_cases hlt : q < n
    · have := ((rch_lo ht hlt).mp h).right.1
      omega
    · have e : q = n + (q - n) := by omega
      rw [e] at h
      obtain ⟨r, er, hr⟩ := (rch_hi ht (by omega)).mp h
      have : r = p := by omega
      subst this
      exact h2 (q - n) (by omega) hr
theorem pieces_beside (ht : ∀ t ∈ ts, t.1 < t.2 ∧ t.2 < n) : piecesLeft (n + m) (ts ++ moved n us) [] = piecesLeft n ts [] ++ (piecesLeft m us []).map fun c => c.map (n + ·) := by
  rw [pieces_eq, pieces_eq, pieces_eq, List.range_add, List.filter_append, List.map_append, List.filter_map, List.map_map, List.map_map]
  have e1 : (List.range n).filter (isRep (n + m) (ts ++ moved n us) []) = (List.range n).filter (isRep n ts []) := List.filter_congr fun p hp => rep_lo ht (List.mem_range.mp hp)
  have e2 : (List.range m).filter (isRep (n + m) (ts ++ moved n us) [] ∘ fun x => n + x) = (List.range m).filter (isRep m us []) := List.filter_congr fun p hp => rep_hi ht (List.mem_range.mp hp)
  rw [e1, e2]
  congr 1
  · exact List.map_congr_left fun p hp => piece_lo ht (List.mem_range.mp (List.mem_filter.mp hp).1)
  · exact List.map_congr_left fun p hp => piece_hi ht (List.mem_range.mp (List.mem_filter.mp hp).1)
theorem beside_ok (h1 : WebOk n ts) (h2 : WebOk m us) (hl : n + m ≤ 8) : WebOk (n + m) (ts ++ moved n us) where
  pos := by have := h1.pos; omega
  le := hl
  tie := fun t ht => by
    rcases List.mem_append.mp ht with h | h
    · have := h1.tie t h
      exact ⟨this.1, by omega⟩
    · obtain ⟨u, hu, rfl⟩ := List.mem_map.mp h
      have := h2.tie u hu
      exact ⟨by show n + u.1 < n + u.2; omega, by show n + u.2 < n + m; omega⟩
  inc := by
    rw [List.pairwise_append]
    refine ⟨h1.inc, ?_, fun a ha b hb => ?_⟩
    · unfold moved
      rw [List.pairwise_map]
      refine h2.inc.imp fun {a b} h => ?_
      unfold tlt at h ⊢
      show n + a.1 < n + b.1 ∨ (n + a.1 = n + b.1 ∧ n + a.2 < n + b.2)
      omega
    · obtain ⟨u, hu, rfl⟩ := List.mem_map.mp hb
      have := h1.tie a ha
      refine .inl ?_
      show a.1 < n + u.1
      omega
end

/-! ### webs that are made -/
theorem inc_len : ∀ (l : List Nat) (N : Nat), l.Nodup → (∀ x ∈ l, x < N) → l.length ≤ N := fun l N h1 h2 => len_of h1 h2
theorem WebOk.len {n : Nat} {ts : Ties} (h : WebOk n ts) : ts.length ≤ 64 := by
  have e : (ts.map fun t => 8 * t.1 + t.2).length ≤ 64 := by
    refine len_of ?_ fun x hx => ?_
    · unfold List.Nodup
      rw [List.pairwise_map]
      refine h.inc.imp_of_mem fun {a b} ha hb hab => ?_
      have h1 := h.tie a ha
      have h2 := h.tie b hb
      have := h.le
      unfold tlt at hab
      omega
    · obtain ⟨t, ht, rfl⟩ := List.mem_map.mp hx
      have h1 := h.tie t ht
      have := h.le
      omega
  rw [List.length_map] at e
  exact e
/-- sorted of ties that are all unlike makes a web -/
theorem web_of_sorted {n : Nat} {l out : Ties} (h1 : 1 ≤ n) (h2 : n ≤ 8) (nd : l.Nodup) (ht : ∀ t ∈ l, t.1 < t.2 ∧ t.2 < n) (hp : out.Perm l) (hs : out.Pairwise tle) : WebOk n out where
  pos := h1
  le := h2
  tie := fun t h => ht t (hp.mem_iff.mp h)
  inc := by
    have nd' : out.Nodup := hp.nodup_iff.mpr nd
    refine (hs.and nd').imp fun {a b} h => ?_
    obtain ⟨h, ne⟩ := h
    unfold tle at h
    unfold tlt
    by_cases e1 : a.1 = b.1
    · by_cases e2 : a.2 = b.2
      · exact absurd (Prod.ext e1 e2) ne
      · omega
    · omega
theorem web_of_sub {n : Nat} {l out : Ties} (h : WebOk n l) (hs : out.Sublist l) : WebOk n out where
  pos := h.pos
  le := h.le
  tie := fun t ht => h.tie t (hs.subset ht)
  inc := h.inc.sublist hs
/-- the only rising arrangement of ties -/
theorem sorted_eq {l out out' : Ties} (hp : out.Perm l) (hs : out.Pairwise tle) (hp' : out'.Perm l) (hs' : out'.Pairwise tle) : out = out' := by
  refine List.Perm.eq_of_pairwise (le := tle) (fun a b _ _ h1 h2 => ?_) hs hs' (hp.trans hp'.symm)
  unfold tle at h1 h2
  exact Prod.ext (by omega) (by omega)
end Wb
/-! ### what is made by the program and the law, and what is asked of the fixed webs -/
namespace Wb
def rowTies (n : Nat) : Ties := (List.range (n - 1)).map fun k => (k, k + 1)
def ringTies (n : Nat) : Ties := (0, 1) :: (0, n - 1) :: (rowTies n).tail
def pairsOf (one n : Nat) : Ties := (List.range (n - (one + 1))).map fun i => (one, one + 1 + i)
def pairs (n : Nat) : Ties := ((List.range n).map fun one => pairsOf one n).flatten
def sidesOf (a b one : Nat) : Ties := (List.range b).map fun other => (one, a + other)
def sidesTies (a b : Nat) : Ties := ((List.range a).map fun one => sidesOf a b one).flatten
theorem dec9 {P : Nat → Prop} (h : ∀ i : Nat, i < 9 → P i) {n : Nat} (hn : n ≤ 8) : P n := h n (by omega)
theorem row_ok {n : Nat} (h1 : 1 ≤ n) (h2 : n ≤ 8) : WebOk n (rowTies n) := by
  have : ∀ i : Nat, i < 9 → 1 ≤ i → WebOk i (rowTies i) := by decide +kernel
  exact this n (by omega) h1
theorem full_ok {n : Nat} (h1 : 1 ≤ n) (h2 : n ≤ 8) : WebOk n (pairs n) := by
  have : ∀ i : Nat, i < 9 → 1 ≤ i → WebOk i (pairs i) := by decide +kernel
  exact this n (by omega) h1
theorem ring_ok {n : Nat} (h1 : 3 ≤ n) (h2 : n ≤ 8) : WebOk n (ringTies n) := by
  have : ∀ i : Nat, i < 9 → 3 ≤ i → WebOk i (ringTies i) := by decide +kernel
  exact this n (by omega) h1
theorem sides_ok {n : Nat} (h1 : 1 ≤ n) (h2 : n ≤ 7) : WebOk 8 (sidesTies n (8 - n)) := by
  have : ∀ i : Nat, i < 8 → 1 ≤ i → WebOk 8 (sidesTies i (8 - i)) := by decide +kernel
  exact this n (by omega) h1
theorem row_one {n : Nat} (h1 : 1 ≤ n) (h2 : n ≤ 8) : (piecesLeft n (rowTies n) []).length = 1 := by
  have : ∀ i : Nat, i < 9 → 1 ≤ i → (piecesLeft i (rowTies i) []).length = 1 := by decide +kernel
  exact this n (by omega) h1
theorem full_one {n : Nat} (h1 : 1 ≤ n) (h2 : n ≤ 8) : (piecesLeft n (pairs n) []).length = 1 := by
  have : ∀ i : Nat, i < 9 → 1 ≤ i → (piecesLeft i (pairs i) []).length = 1 := by decide +kernel
  exact this n (by omega) h1
theorem row_two {n : Nat} (h1 : 2 < n) (h2 : n ≤ 8) : (piecesLeft n (rowTies n) [1]).length = 2 := by
  have : ∀ i : Nat, i < 9 → 2 < i → (piecesLeft i (rowTies i) [1]).length = 2 := by decide +kernel
  exact this n (by omega) h1
theorem ring_one {n : Nat} (h1 : 2 < n) (h2 : n ≤ 8) : (piecesLeft n (ringTies n) [n - 1]).length = 1 := by
  have : ∀ i : Nat, i < 9 → 2 < i → (piecesLeft i (ringTies i) [i - 1]).length = 1 := by decide +kernel
  exact this n (by omega) h1
theorem full_less {n : Nat} (h1 : 2 < n) (h2 : n ≤ 8) : (piecesLeft n (pairs n) [0]).length = 1 := by
  have : ∀ i : Nat, i < 9 → 2 < i → (piecesLeft i (pairs i) [0]).length = 1 := by decide +kernel
  exact this n (by omega) h1
theorem sides_less {n : Nat} (h1 : 1 ≤ n) (h2 : n ≤ 7) : (piecesLeft 8 (sidesTies n (8 - n)) [0]).length = if n = 1 then 7 else 1 := by
  have : ∀ i : Nat, i < 8 → 1 ≤ i → (piecesLeft 8 (sidesTies i (8 - i)) [0]).length = if i = 1 then 7 else 1 := by decide +kernel
  exact this n (by omega) h1
/-! the law's own webs -/
theorem ring_list {n : Nat} (h1 : 2 < n) (h2 : n ≤ 8) : (rowTies n ++ [(0, n - 1)]).Nodup ∧ (∀ t ∈ rowTies n ++ [(0, n - 1)], t.1 < t.2 ∧ t.2 < n) ∧ (ringTies n).Perm (rowTies n ++ [(0, n - 1)]) ∧ (ringTies n).Pairwise tle := by
  have : ∀ i : Nat, i < 9 → 2 < i → (rowTies i ++ [(0, i - 1)]).Nodup ∧ (∀ t ∈ rowTies i ++ [(0, i - 1)], t.1 < t.2 ∧ t.2 < i) ∧ (ringTies i).Perm (rowTies i ++ [(0, i - 1)]) ∧ (ringTies i).Pairwise tle := by decide +kernel
  exact this n (by omega) h1
def midTies (n : Nat) : Ties := (List.range ((n - 1) - 3)).map fun i => (3 + i, 3 + i + 1)
theorem two_list {n : Nat} (h1 : 5 < n) (h2 : n ≤ 8) : ([(0, 1), (0, 2), (1, 2)] ++ (midTies n ++ [(3, n - 1), (2, 3)])).Nodup ∧ (∀ t ∈ [(0, 1), (0, 2), (1, 2)] ++ (midTies n ++ [(3, n - 1), (2, 3)]), t.1 < t.2 ∧ t.2 < n) := by
  have : ∀ i : Nat, i < 9 → 5 < i → ([(0, 1), (0, 2), (1, 2)] ++ (midTies i ++ [(3, i - 1), (2, 3)])).Nodup ∧ (∀ t ∈ [(0, 1), (0, 2), (1, 2)] ++ (midTies i ++ [(3, i - 1), (2, 3)]), t.1 < t.2 ∧ t.2 < i) := by decide +kernel
  exact this n (by omega) h1
/-- a tie to each place from one ahead -/
theorem tree_nodup (l : Ties) (h : l.map (·.2) = (List.range l.length).map (· + 1)) : l.Nodup := by
  have h2 : (l.map (·.2)).Nodup := by
    rw [h]
    unfold List.Nodup
    rw [List.pairwise_map]
    exact List.nodup_range.imp fun {a b} z e => z (by omega)
  unfold List.Nodup at h2 ⊢
  rw [List.pairwise_map] at h2
  exact h2.imp fun z e => z (by rw [e])
end Wb
/-! Three rules that the layer lacks: a pair looked for in a tuple of pairs; enumerate over a tuple; sum of lists with an empty list to start from. -/
namespace K5
open PySem PySem.Spec PyProof.Rows L2
/-! ### x in t, t a tuple of data of any depth: the library's in_tuple_reads, by the layer's Dp -/
section
variable {X : Cx}
def rInDT (K : PySem.W.Frag) : R2 := fun x t H Q => ∃ (dx : PyData) (dts : List PyData), (Dp K H x dx ∧ SeqAt.shaped dx = true) ∧ (Dp K H t (.tuple dts) ∧ SeqAt.shaped (.tuple dts) = true) ∧ Q (.bl (dts.any fun y => PyData.eqv y dx)) H
theorem op_inDT (room : X.A.units + 65 < cLine) : OpR X (compareOp .In) (rInDT X.K) := fun pins s σ H x t vx vt Q I rx rt ⟨dx, dts, hx, ht, q⟩ =>
  (Dp.reads I _ _ _ ht.1 rt).elim fun _ readT => (Dp.reads I _ _ _ hx.1 rx).elim fun _ readX =>
    SeqAt.in_tuple_reads readT readX (SeqAt.canLay_of_shaped ht.2) (SeqAt.canLay_of_shaped hx.2) (room_in_shaped hx.2 room) ⟨.bl _, H, I, rfl, q⟩
end

/-! ### enumerate over a tuple, by the library's walk of enumerate over whatever draws -/
abbrev itO (t : Addr) : Obj := { cls := .type "tuple_iterator", data := .fields #[.ref t, .int 0 0] }
abbrev enO (it : Addr) : Obj := { cls := .type "enumerate", data := .fields #[.none, .bool false, .ref it, rawInt 0, .none, .none] }
abbrev enH (h : Heap) (t : Addr) : Heap := (h.push (itO t)).push (enO h.objs.size)
theorem new_enum (t : Addr) (items : Array Value) : Meets (Builtin.«enumerate.__new__» ⟨[.type "enumerate", .ref t], []⟩)
    fun _ R s => s.heap.IsTuple t items ∧ R (.ok (.ret (.ref (s.heap.push (itO t)).objs.size))) { s with heap := enH s.heap t } := by
  refine Meets.of_wp fun prog w A R s h => ?_
  rcases s with ⟨hp, gens, drawn, toks, os⟩
  rcases h with ⟨ht, hR⟩
  have isEnum := sub_enumerate
  have tup : Heap.IsTuple (Shared.heap ⟨hp, gens, drawn, toks, os⟩) t items := ht
  wp_walk using wpAny_pyIter_tuple tup
  apply wpAny_stack_any
  intro stack
  refine wpAny_pure ?_
  split
  next c _ _ _ _ _ => cases (c == Value.type "enumerate") <;> (wp_walk using wpAny_pyIter_tuple tup; exact ⟨_, rfl, hR⟩)
  next => (wp_walk using wpAny_pyIter_tuple tup; exact ⟨_, rfl, hR⟩)
theorem enH_at (h : Heap) (t : Addr) : IsEnum (enH h t) (h.objs.size + 1) h.objs.size 0 .none ∧ (enH h t).get? h.objs.size = some (itO t) ∧ ∀ b o, h.get? b = some o → (enH h t).get? b = some o := by
  refine ⟨?_, Heap.get?_push_of_some _ (Heap.get?_push_size _ rfl), fun b o e => Heap.get?_push_of_some _ (Heap.get?_push_of_some _ e)⟩
  have at_ := Heap.get?_push_size (h.push (itO t)) (o := enO h.objs.size) rfl
  rwa [Heap.size_push] at at_
theorem call_enum {prog : Program} {w : World} {A : Around} {E : Value → Shared → Prop} {s : Shared} {t : Addr} {items : Array Value} {Q : Value → Shared → Prop} (ht : s.heap.IsTuple t items)
    (q : Q (.ref (s.heap.objs.size + 1)) { s with heap := enH s.heap t }) : wpAny (model prog w) A (call (.type "enumerate") [.ref t]) Q E s := by
  have place : (s.heap.push (itO t)).objs.size = s.heap.objs.size + 1 := Heap.size_push ..
  have new := (enH_at s.heap t).1
  rw [← place] at new q
  exact callType_new F.called_enumerate (by decide) (F.typeCall_enumerate_1 _) (F.newCall_enumerate_1 _) (fun x => F.args_object_init_2 x _) F.entry_enumerate_new (new_enum t items) ⟨ht, ⟨_, new, rfl⟩, q⟩
/-- the turns: a new pair of the turn's number and the tuple's item -/
def Itet (K : PySem.W.Frag) (t : Addr) : It where
  go := fun i H => ∃ xs, SqT K H t xs ∧ i < xs.length
  yld := fun i H v H' => ∃ T x, v = V.ref T ∧ H T = none ∧ H' = upd H T (.tup [.int (i : Nat), x]) ∧ ∀ xs, SqT K H t xs → xs[i]? = some x
  stop := fun i H => ∃ xs, SqT K H t xs ∧ i = xs.length
/-- the enumerate object at e over the iterator at it over the tuple at t, behind i turns -/
def EnAt (t e it : Addr) (i : Nat) (h : Heap) : Prop := (∃ last, IsEnum h e it ((i : Nat) : Int) last) ∧ h.IsTupleIter it t i ∧ e ≠ it
theorem EnAt.keeps {t e it : Addr} {i : Nat} {h h' : Heap} (s : EnAt t e it i h) (k : ∀ b ∈ [e, it], ∀ o, h.get? b = some o → h'.get? b = some o) : EnAt t e it i h' :=
  ⟨s.1.elim fun last x => ⟨last, k e List.mem_cons_self _ x⟩, s.2.1.at fun o x => k it (List.mem_cons_of_mem _ List.mem_cons_self) o x, s.2.2⟩
theorem not_same {h : Heap} {a b : Addr} {o : Obj} {items : Array Value} {n : String} (ht : h.IsTuple a items) (ho : h.get? b = some o) (hc : o.cls = .type n) (hn : n ≠ "tuple") : b ≠ a := fun e => by
  obtain ⟨o', ho', hc', _⟩ := ht
  have same := (e ▸ ho).symm.trans ho'
  have cls : o.cls = o'.cls := congrArg Obj.cls (Option.some.inj same)
  rw [hc, hc'] at cls
  injection cls with z
  exact hn z
/-- the library's walk, where it stands -/
theorem EnAt.walk {prog : Program} {w : World} {A : Around} {h : Heap} {t e it : Addr} {i : Nat} {items : Array Value} (quiet : A.in1.handled = none) (s : EnAt t e it i h) (ht : h.IsTuple t items) :
    WalksT prog w A e [e, it, t] [e, it] items.size (fun i vals => ∃ tk x, items[i]? = some x ∧ vals = #[.int i tk, x]) (fun i h => (∃ last, IsEnum h e it i last) ∧ h.IsTupleIter it t i ∧ h.IsTuple t items)
      (fun i T h => (∃ x, IsEnumOut h e it ((i : Int) + 1) x T) ∧ (h.IsTupleIter it t (i + 1) ∧ h.IsTuple t items) ∧ T ≠ e ∧ T ≠ it) := by
  have it_t : it ≠ t := s.2.1.elim fun _ x => not_same ht x.1 x.2.1 (by decide)
  have e_t : e ≠ t := s.1.elim fun _ x => not_same ht x rfl (by decide)
  exact WalksT.enumerateD (Draws.tuple quiet it t it_t.symm items) e s.2.2 (by simp [s.2.2, e_t]) (by simp)
theorem turn_enumT {P : Program} {w : World} {K : PySem.W.Frag} {elts : List Expr} {kk : Nat} {tpos : Pos} (t e it : Addr) : Turn P w K (.Tuple elts kk tpos) (Itet K t) [e, it] e (EnAt t e it) where
  mem := List.mem_cons_self
  obj := fun i h s b hb => by
    rcases List.mem_cons.mp hb with rfl | hb
    · exact s.1.elim fun _ x => ⟨_, x, fun _ z => nomatch z⟩
    · obtain rfl := List.mem_singleton.mp hb
      obtain ⟨o, ho, _, hd⟩ := s.2.1
      exact ⟨o, ho, fun v z => nomatch (hd.symm.trans z)⟩
  keep := fun i h h' s k => s.keeps k
  item := fun X hP hw hK calm i pins s σ H E I hf st go => by
    subst hP hw hK
    obtain ⟨xs, sq, lt⟩ := go
    obtain ⟨its, rv, tup, _⟩ := I.tuple sq
    have len := rv.length
    have W := EnAt.walk (prog := X.prog) (w := X.w) (A := X.A) (I.ok.hd calm) st (show s.heap.IsTuple t its.toArray from tup)
    refine W.item i s _ _ (by rw [List.size_toArray, ← len]; exact lt) ⟨st.1, st.2.1, tup⟩ fun T vals h1 tk told high pair mid k1 => ⟨_, rfl, ?_⟩
    obtain ⟨tk0, y, hy, rfl⟩ := told
    refine W.go elts kk tpos i T { s with heap := h1, toks := tk } _ _ mid fun h2 next k2 => ?_
    obtain ⟨u, hu, ru⟩ := rv.get (List.getElem?_eq_getElem lt)
    have yu : y = u := Option.some.inj ((show its[i]? = some y by simpa using hy).symm.trans hu)
    have pair2 : h2.IsTuple T #[.int i tk0, y] := pair.at fun o x => k2 T o (W.apart i T h1 mid) x
    have fresh := I.hok.fresh high
    refine ⟨.ref T, upd H T (.tup [.int (i : Nat), xs[i]]), I.turnedNew (t' := tk) (fun b o hb x => k2 b o hb (k1 b o hb x)) hf high ?_, rfl, ⟨T, xs[i], rfl, fresh, rfl, fun ys hy => ?_⟩, ⟨next.1, next.2.1, st.2.2⟩, fun b hb => ?_⟩
    · exact ⟨by show 2 ≤ sizeLine; decide, [.int i tk0, y], .cons ⟨_, rfl⟩ (.cons (yu ▸ ru) .nil), pair2⟩
    · rw [I.tuple_inj hy sq]
      exact List.getElem?_eq_getElem lt
    · have free := (hf b hb).1
      by_cases z : b = T
      · subst z
        exact absurd hb (W.apart i b h1 mid)
      · rw [upd_ne z]
        exact free
  done := fun X hP hw hK calm i pins s σ H E I hf st stop => by
    subst hP hw hK
    obtain ⟨xs, sq, rfl⟩ := stop
    obtain ⟨its, rv, tup, _⟩ := I.tuple sq
    have W := EnAt.walk (prog := X.prog) (w := X.w) (A := X.A) (I.ok.hd calm) st (show s.heap.IsTuple t its.toArray from tup)
    have size : its.toArray.size = xs.length := by rw [List.size_toArray]; exact rv.length.symm
    refine W.done s _ _ (by rw [size]; exact ⟨st.1, st.2.1, tup⟩) fun h1 tk k1 => ⟨rfl, ?_⟩
    exact I.step (g' := s.gens) (d' := s.drawn) (ch := [e, it]) (fun b hb => ⟨(hf b hb).2.2.2.1, (hf b hb).2.1, (hf b hb).2.2.2.2.1, (hf b hb).2.2.2.2.2⟩)
      (fun b o _ _ hb x _ => k1 b o hb x) (fun b o _ _ hb x _ => ⟨o.slots, k1 b o hb x⟩) (fun _ _ _ _ z => z) (fun b o hb x => ⟨o, k1 b o hb x⟩) (fun _ _ z => z) (fun _ _ _ z => z) (fun b ps z => ⟨#[], by rw [z, Array.append_empty]⟩)
      (fun m ⟨o, es, ep, ho, r⟩ => ⟨o, es, ep, k1 _ o (fun hb => (hf _ hb).2.1 rfl) ho, r⟩)
      (fun b o z => (I.hok b o z).stay (fun c v own x => k1 c v (fun hb => by
        have free := (hf c hb).1
        rcases own with rfl | own
        · rw [free] at z; cases z
        · rw [free] at own; cases own) x) (fun _ z => z) fun _ _ z => z) I.bare
  self := fun A i s Q E st q => st.1.elim fun _ x => wpAny_pyIter_enum x q
def iEnumT (K : PySem.W.Frag) (ta : TA) : TI := fun σ H R => ta σ H fun vs H1 => ∃ t xs, vs = [V.ref t] ∧ SqT K H1 t xs ∧ R (Itet K t) H1
theorem pi_enumT {X : Cx} {e : Expr} {ta : TA} {p pos tpos : Pos} {elts : List Expr} {kk : Nat} (glob : Gl X "enumerate") (own : X.mg "enumerate" = none) (ha : PA X [e] ta) (one : starEach [e] X.env = [(false, eval e X.env)] := by rfl) :
    PI X (.Tuple elts kk tpos) (.Call (.Name "enumerate" p) [e] [] pos) (iEnumT X.K ta) where
  run := fun pins s σ H R I h => Call_ <| ld_blt I glob own boot_enumerate <| PyProof.Rows.callWith_type1 (he := one) (hplain := rfl) <| thn (ha.run pos pins s σ H _ I h) fun us s1 ⟨vs, H1, I1, r1, t, xs, ev, sq, q⟩ => by
    subst ev
    obtain rfl := Vals.ref1 r1
    obtain ⟨its, _, tup, _⟩ := I1.tuple sq
    obtain ⟨isE, isI, keeps⟩ := enH_at s1.heap t
    have fresh : ∀ b ∈ [s1.heap.objs.size + 1, s1.heap.objs.size], s1.heap.objs.size ≤ b := fun b hb => by
      rcases List.mem_cons.mp hb with rfl | hb
      · exact Nat.le_succ _
      · exact Nat.le_of_eq (List.mem_singleton.mp hb).symm
    exact call_enum (show s1.heap.IsTuple t its.toArray from tup) (wpAny_pyIter_enum isE ⟨_, _, _, _, H1, rfl, I1.kept (t' := s1.toks) keeps, turn_enumT t _ s1.heap.objs.size, ⟨⟨_, isE⟩, ⟨_, isI, rfl, rfl⟩, Nat.succ_ne_self _⟩,
      fun b hb => I1.fpOk (fresh b hb) (I1.hok.fresh (fresh b hb)), q⟩)
theorem walk_enumT {K : PySem.W.Frag} {t : Addr} {xs : List V} : Walk (Itet K t) xs.length (fun H => SqT K H t xs) (YPair (fun i => some (.int (i : Nat))) fun i => xs[i]?) where
  goes := fun i H lt sq => ⟨xs, sq, lt⟩
  stops := fun H sq => ⟨xs, sq, rfl⟩
  yields := fun i H v H' lt sq ⟨T, x, ev, new, eh, f⟩ => ⟨T, _, x, ev, new, eh, rfl, f xs sq⟩

/-! ### sum(xs, start=[]), xs a list of lists -/
abbrev lstO (its : List Value) (n : Nat) : Obj := { cls := .type "list", data := .seq its.toArray n }
/-- behind i turns: the iterator at I over the list at l, the state at S, which holds the total at T -/
structure SumAt (h0 : Heap) (l I S : Addr) (i : Nat) (cur : List Value) (T : Addr) (h : Heap) : Prop where
  old : ∀ b o, h0.get? b = some o → h.get? b = some o
  iter : h.IsListIter I l i
  state : ∃ c, h.get? S = some (lstO [.ref T] c)
  total : ∃ n, h.get? T = some (lstO cur n)
  apart : T ≠ S ∧ T ≠ I
/-- where the iterator and the state stand: behind all that was -/
structure SumPl (h0 : Heap) (l I S : Addr) (its : List Value) : Prop where
  list : ∃ n, h0.get? l = some (lstO its n)
  high : h0.objs.size ≤ I ∧ h0.objs.size ≤ S
  apart : I ≠ S
theorem high_ne {h : Heap} {a b : Addr} {o : Obj} (e : h.get? b = some o) (le : h.objs.size ≤ a) : b ≠ a := Nat.ne_of_lt (Nat.lt_of_lt_of_le (Heap.lt_size e) le)
abbrev sumCode (I S : Addr) : Code := .builtin "sum.loop" ⟨[.ref I, .ref S, rawInt 2, rawInt 0], []⟩
section
variable {prog : Program} {w : World} {A : Around} {R : Result → Shared → Prop} {h0 : Heap} {l I S T : Addr} {its cur : List Value} {i : Nat} {s : Shared}
theorem SumAt.isList (a : SumAt h0 l I S i cur T s.heap) (p : SumPl h0 l I S its) : s.heap.IsList l its.toArray := p.list.elim fun n e => ⟨_, a.old _ _ e, rfl, n, rfl⟩
theorem sum_last (quiet : A.in1.handled = none) (p : SumPl h0 l I S its) (a : SumAt h0 l I S its.length cur T s.heap)
    (k : ∀ h n, (∀ b o, h0.get? b = some o → h.get? b = some o) → h.get? T = some (lstO cur n) → R (.ok (.ret (.ref T))) { s with heap := h }) : codeAny (model prog w) A (sumCode I S) R s := by
  obtain ⟨c, hS⟩ := a.state
  obtain ⟨n, hT⟩ := a.total
  refine codeAny_builtin F.entry_sum_loop ?_
  rw [Around.under_plainId F.plain_sum_loop]
  refine wpAny_bind ?_
  refine wpAny_seqItems hS rfl ?_
  refine wpAny_bind ?_
  refine wpAny_tryCatch ?_
  refine wpAny_pyNext_list_end quiet a.iter (a.isList p) (by rw [List.getElem?_toArray]; exact List.getElem?_eq_none (Nat.le_refl _)) fun h1 ext => ?_
  exact wpAny_pure (k h1 n (fun b o e => ext b o (high_ne e p.high.1) (a.old b o e)) (ext T _ a.apart.2 hT))
theorem sum_turn (p : SumPl h0 l I S its) (a : SumAt h0 l I S i cur T s.heap) {x : Addr} {ys : List Value} {nx : Nat} (hx : its[i]? = some (.ref x)) (item : h0.get? x = some (lstO ys nx)) (fits : cur.length + ys.length ≤ sizeLine)
    (k : ∀ h T', SumAt h0 l I S (i + 1) (cur ++ ys) T' h → h0.objs.size ≤ T' → codeAny (model prog w) A (sumCode I S) R { s with heap := h }) : codeAny (model prog w) A (sumCode I S) R s := by
  obtain ⟨c, hS⟩ := a.state
  obtain ⟨n, hT⟩ := a.total
  refine codeAny_builtin F.entry_sum_loop ?_
  rw [Around.under_plainId F.plain_sum_loop]
  refine wpAny_bind ?_
  refine wpAny_seqItems hS rfl ?_
  refine wpAny_bind ?_
  refine wpAny_tryCatch ?_
  refine wpAny_pyNext_list_item (x := .ref x) a.iter (a.isList p) (by rw [List.getElem?_toArray]; exact hx) fun h1 iter1 but => ?_
  have old1 : ∀ b o, h0.get? b = some o → h1.get? b = some o := fun b o e => (but.2 b (high_ne e p.high.1)).trans (a.old b o e)
  have hS1 := (but.2 S (Ne.symm p.apart)).trans hS
  have hT1 := (but.2 T a.apart.2).trans hT
  have hI1 : I < h1.objs.size := iter1.elim fun _ z => Heap.lt_size z.1
  have hS1' : S < h1.objs.size := Heap.lt_size hS1
  -- total + item: a new list behind all
  show wpAny _ A.in1 ((holding [Value.ref x] (binaryOp .Add (.ref T) (.ref x))).attempt >>= _) _ _ { s with heap := h1 }
  refine wpAny_bind ?_
  refine wpAny_attempt ?_
  refine wpAny_holding ?_
  refine PySem.P.add_list (s := { s with heap := h1 }) hT1 (old1 _ _ item) ?_ (by rw [List.size_toArray, List.size_toArray]; exact fits)
  have glue : cur.toArray ++ ys.toArray = (cur ++ ys).toArray := List.append_toArray ..
  rw [glue]
  obtain ⟨h2, e2⟩ : ∃ h2, h2 = h1.push { cls := .type "list", data := .seq (cur ++ ys).toArray } := ⟨_, rfl⟩
  have keep2 : ∀ b o, h1.get? b = some o → h2.get? b = some o := fun b o e => e2 ▸ Heap.get?_push_of_some _ e
  have new2 : h2.get? h1.objs.size = some (lstO (cur ++ ys) 0) := e2 ▸ Heap.get?_push_size _ rfl
  show wpAny _ A.in1 (updateSeq S (fun _ => #[Value.ref h1.objs.size]) >>= _) _ _ { s with heap := h1.push _ }
  rw [← e2]
  -- the state holds it: stored twice
  refine wpAny_bind ?_
  refine wpAny_updateSeq (s := { s with heap := h2 }) (keep2 _ _ hS1) rfl ?_
  refine wpAny_bind ?_
  refine wpAny_letGo ?_
  have hS3 := Heap.get?_update_self (Obj.mapSeq fun _ => #[Value.ref h1.objs.size]) (keep2 _ _ hS1) rfl
  refine wpAny_bind ?_
  refine wpAny_updateSeq hS3 rfl ?_
  have keep4 : ∀ b o, b ≠ S → h2.get? b = some o → ((h2.update S (Obj.mapSeq fun _ => #[Value.ref h1.objs.size])).update S (Obj.mapSeq fun _ => #[Value.ref h1.objs.size])).get? b = some o := fun b o ne e => by
    rw [Heap.get?_update_other _ _ ne.symm, Heap.get?_update_other _ _ ne.symm]
    exact e
  refine wpAny_pure ⟨plainId_quiet F.plain_sum_loop _, k _ h1.objs.size ⟨fun b o e => keep4 b o (high_ne e p.high.2) (keep2 b o (old1 b o e)), iter1.at fun o e => keep4 I o p.apart (keep2 I o e), ⟨_, Heap.get?_update_self _ hS3 rfl⟩,
    ⟨0, keep4 _ _ (Nat.ne_of_gt hS1') new2⟩, Nat.ne_of_gt hS1', Nat.ne_of_gt hI1⟩ (Nat.le_trans p.high.1 (Nat.le_of_lt hI1))⟩
/-- what is left of the list, summed up -/
theorem sum_rest (quiet : A.in1.handled = none) (p : SumPl h0 l I S its) : ∀ (rest : List (List Value)) (i : Nat) (cur : List Value) (T : Addr) (s : Shared), SumAt h0 l I S i cur T s.heap → its.length = i + rest.length →
    (∀ (j : Nat) (ys : List Value), rest[j]? = some ys → ∃ (x : Addr) (n : Nat), its[i + j]? = some (.ref x) ∧ h0.get? x = some (lstO ys n)) → (cur ++ rest.flatten).length ≤ sizeLine → (h0.objs.size ≤ T ∨ rest ≠ []) →
    (∀ h T' n, (∀ b o, h0.get? b = some o → h.get? b = some o) → h.get? T' = some (lstO (cur ++ rest.flatten) n) → h0.objs.size ≤ T' → R (.ok (.ret (.ref T'))) { s with heap := h }) → codeAny (model prog w) A (sumCode I S) R s
  | [], i, cur, T, s, a, len, _, _, hT, k => by
    have e : i = its.length := len.symm
    subst e
    refine sum_last quiet p a fun h n old tot => k h T n old ?_ (hT.resolve_right fun z => z rfl)
    rw [List.flatten_nil, List.append_nil]
    exact tot
  | ys :: rest, i, cur, T, s, a, len, items, fits, _, k => by
    obtain ⟨x, n, hx, item⟩ := items 0 ys rfl
    rw [List.flatten_cons, ← List.append_assoc] at fits k
    have part : cur.length + ys.length ≤ sizeLine := by
      rw [List.length_append, List.length_append] at fits
      omega
    refine sum_turn p a hx item part fun h T' a' high => sum_rest quiet p rest (i + 1) (cur ++ ys) T' _ a' (by rw [len, List.length_cons]; omega) (fun j zs hj => ?_) fits (.inl high) k
    obtain ⟨x', n', h1, h2⟩ := items (j + 1) zs hj
    exact ⟨x', n', by rw [show i + 1 + j = i + (j + 1) by omega]; exact h1, h2⟩
end
theorem list_no_str : isSubtype (.type "list") (.type "str") = pure false := by rw [isSubtype_type]; kernel_rfl
theorem list_no_bytes : isSubtype (.type "list") (.type "bytes") = pure false := by rw [isSubtype_type]; kernel_rfl
theorem list_no_bytearray : isSubtype (.type "list") (.type "bytearray") = pure false := by rw [isSubtype_type]; kernel_rfl
theorem call_sum_lists {prog : Program} {w : World} {A : Around} {E : Value → Shared → Prop} {s : Shared} {l b0 : Addr} {its : List Value} {nl n0 : Nat} {xss : List (List Value)} {Q : Value → Shared → Prop} (quiet : A.in1.handled = none)
    (hl : s.heap.get? l = some (lstO its nl)) (hb : s.heap.get? b0 = some (lstO [] n0)) (len : its.length = xss.length) (items : ∀ (j : Nat) (ys : List Value), xss[j]? = some ys → ∃ (x : Addr) (n : Nat), its[j]? = some (.ref x) ∧ s.heap.get? x = some (lstO ys n))
    (fits : xss.flatten.length ≤ sizeLine) (some_ : xss ≠ [])
    (k : ∀ h T n, (∀ b o, s.heap.get? b = some o → h.get? b = some o) → h.get? T = some (lstO xss.flatten n) → s.heap.objs.size ≤ T → Q (.ref T) { s with heap := h }) :
    wpAny (model prog w) A (call (.builtin "sum") [.ref l] [(Str.ofString "start", .ref b0)]) Q E s := by
  have asked : checkBuiltinCall "sum" ⟨[.ref l], [(Str.ofString "start", .ref b0)]⟩ = pure () := by kernel_rfl
  refine wpAny_call (codeAny_call_builtin F.plain_sum F.entry_sum ?_)
  rw [asked]
  refine wpAny_pure ?_
  unfold Builtin.«sum»
  simp only [List.length_cons, List.length_nil]
  rw [if_neg (by decide)]
  refine wpAny_bind ?_
  refine wpAny_of_eq (show Builtin.Builtins.bindParams "sum" ["start"] 0 ⟨[], [(Str.ofString "start", .ref b0)]⟩ = pure [some (.ref b0)] from rfl) ?_
  refine wpAny_bind ?_
  refine wpAny_pyIter_list (items := its.toArray) ⟨_, hl, rfl, nl, rfl⟩ ?_
  refine wpAny_bind ?_
  refine wpAny_pure ?_
  obtain ⟨h1, e1⟩ : ∃ h1, h1 = s.heap.push { cls := .type "list_iterator", data := .fields #[.ref l, .int 0 0] } := ⟨_, rfl⟩
  have keep1 : ∀ b o, s.heap.get? b = some o → h1.get? b = some o := fun b o e => e1 ▸ Heap.get?_push_of_some _ e
  have size1 : h1.objs.size = s.heap.objs.size + 1 := e1 ▸ Heap.size_push ..
  have iter1 : h1.get? s.heap.objs.size = some { cls := .type "list_iterator", data := .fields #[.ref l, .int 0 0] } := e1 ▸ Heap.get?_push_size _ rfl
  rw [← e1]
  have isL : Shared.TypeIs { s with heap := h1 } (.ref b0) "list" := ⟨_, keep1 _ _ hb, rfl⟩
  simp only [List.forIn_cons, List.forIn_nil]
  -- the start is no text, no bytes
  refine wpAny_bind ?_
  iterate 3
    refine wpAny_bind ?_
    refine wpAny_bind ?_
    first
      | refine wpAny_isInstance isL list_no_str ?_
      | refine wpAny_isInstance isL list_no_bytes ?_
      | refine wpAny_isInstance isL list_no_bytearray ?_
    simp only [Bool.false_eq_true, if_false]
    refine wpAny_pure ?_
  refine wpAny_pure ?_
  refine wpAny_bind ?_
  refine wpAny_newObj_type ?_
  have below : s.heap.objs.size < h1.objs.size := size1 ▸ Nat.lt_succ_self _
  have low : b0 < s.heap.objs.size := Heap.lt_size hb
  refine wpAny_pure ⟨plainId_quiet F.plain_sum_loop _, sum_rest (h0 := s.heap) (I := s.heap.objs.size) (S := h1.objs.size) quiet ⟨⟨nl, hl⟩, ⟨Nat.le_refl _, Nat.le_of_lt below⟩, Nat.ne_of_lt below⟩ xss 0 [] b0 _
    ⟨fun b o e => Heap.get?_push_of_some _ (keep1 b o e), ⟨_, Heap.get?_push_of_some _ iter1, rfl, rfl⟩, ⟨_, Heap.get?_push_size _ rfl⟩, ⟨n0, Heap.get?_push_of_some _ (keep1 _ _ hb)⟩, Nat.ne_of_lt (Nat.lt_trans low below), Nat.ne_of_lt low⟩
    (by rw [Nat.zero_add]; exact len) (fun j ys hj => by rw [Nat.zero_add]; exact items j ys hj) fits (.inr some_) fun h T n old tot high => k h T n old tot high⟩
/-- one list at least, each of them tracked -/
def rSumL (K : PySem.W.Frag) : List V → List V → Hp → VK → Prop := fun vs zs H Q => ∃ (a b : Addr) (xs : List V) (xss : List (List V)), vs = [.ref a] ∧ zs = [.ref b] ∧ H a = some (.lst xs) ∧ H b = some (.lst []) ∧ xs ≠ [] ∧
  Paired (fun x ys => ∃ p, x = V.ref p ∧ H p = some (.lst ys)) xs xss ∧ xss.flatten.length ≤ sizeLine ∧ ∀ p, H p = none → Q (.ref p) (upd H p (.lst xss.flatten))
theorem raw_lists {X : Cx} {pins : List (Addr × Obj)} {σ : L2.St} {H : Hp} {s : Shared} (I : Inv X pins σ H s) : ∀ {xs : List V} {us : List Value} {xss : List (List V)}, Vals xs us → Paired (fun x ys => ∃ p, x = V.ref p ∧ H p = some (.lst ys)) xs xss →
    ∃ uss : List (List Value), us.length = uss.length ∧ (∀ (j : Nat) (ys : List Value), uss[j]? = some ys → ∃ (x : Addr) (n : Nat), us[j]? = some (.ref x) ∧ s.heap.get? x = some (lstO ys n)) ∧ Vals xss.flatten uss.flatten
  | _, _, _, .nil, .nil => ⟨[], rfl, (fun j ys h => by simp at h), .nil⟩
  | _, _, _, .cons r t, .cons ⟨p, e, hp⟩ pt => by
    obtain ⟨uss, len, at_, flat⟩ := raw_lists I t pt
    subst e
    obtain rfl := r
    obtain ⟨_, raw, n, vals, _, obj⟩ := I.lstM hp
    refine ⟨raw :: uss, congrArg (· + 1) len, fun j ys hj => ?_, List.flatten_cons ▸ List.flatten_cons ▸ vals.append flat⟩
    match j, hj with
    | 0, hj => exact ⟨p, n, rfl, by rw [obj, Option.some.inj hj]⟩
    | j + 1, hj => exact at_ j ys hj
theorem cr_sumL {X : Cx} (calm : X.calm = true) : CallRK X (.builtin "sum") [Str.ofString "start"] (rSumL X.K) := fun pins s σ H vs zs us ws Q I rv rz ⟨a, b, xs, xss, ev, ez, ha, hb, ne, hp, fits, q⟩ => by
  subst ev ez
  obtain rfl := Vals.ref1 rv
  obtain rfl := Vals.ref1 rz
  obtain ⟨_, its, n, vals, _, obj⟩ := I.lstM ha
  obtain ⟨_, none_, n0, vals0, _, obj0⟩ := I.lstM hb
  cases vals0
  obtain ⟨uss, len, at_, flat⟩ := raw_lists I vals hp
  refine call_sum_lists (I.ok.hd calm) obj obj0 len at_ (flat.length ▸ fits) (fun z => ne ?_) fun h T m old tot high => ?_
  · rw [z] at len
    exact List.eq_nil_of_length_eq_zero (vals.length.trans len)
  · exact ⟨.ref T, upd H T (.lst xss.flatten), I.laid (t' := s.toks) old high ⟨fits, uss.flatten, m, flat, tot⟩, rfl, q T (I.hok.fresh high)⟩
end K5
/-! What stands in the heap: webs, places, pieces; what is kept; the text's statements by their places. -/
namespace K5
open PySem PySem.Spec PyProof.Rows L2
open Wb (WebOk Ties tlt tle adj nearTo bfs fresh srt piece piecesLeft)

abbrev nV (n : Nat) : V := V.int (n : Int)
/-! ### what is kept -/
def KeepT (K : PySem.W.Frag) (H H' : Hp) : Prop := ∀ a xs, SqT K H a xs → SqT K H' a xs
theorem KeepT.refl {K : PySem.W.Frag} {H : Hp} : KeepT K H H := fun _ _ h => h
theorem KeepT.trans {K : PySem.W.Frag} {H H1 H2 : Hp} (h : KeepT K H H1) (k : KeepT K H1 H2) : KeepT K H H2 := fun a xs q => k a xs (h a xs q)
theorem keep_same {K : PySem.W.Frag} {H H' : Hp} (e : Same H H') : KeepT K H H' := fun a xs h => by
  rcases h with (h | ⟨o, h⟩) | h
  · exact .inl (.inl (e _ _ h))
  · exact .inl (.inr ⟨o, e _ _ h⟩)
  · exact .inr h
/-- all but p is kept -/
def SameX (p : Addr) (H H' : Hp) : Prop := ∀ b o, b ≠ p → H b = some o → H' b = some o
theorem SameX.refl (p : Addr) (H : Hp) : SameX p H H := fun _ _ _ h => h
theorem SameX.trans {p : Addr} {H H1 H2 : Hp} (a : SameX p H H1) (b : SameX p H1 H2) : SameX p H H2 := fun c o n h => b c o n (a c o n h)
theorem Same.x {p : Addr} {H H' : Hp} (h : Same H H') : SameX p H H' := fun b o _ e => h b o e
theorem SameX.keep {K : PySem.W.Frag} {p : Addr} {xs : List V} {H H' : Hp} (e : SameX p H H') (hp : H p = some (.lst xs)) : KeepT K H H' := fun a ys h => by
  rcases h with (h | ⟨o, h⟩) | h
  · exact .inl (.inl (e _ _ (ne_of h hp (by intro z; cases z)) h))
  · exact .inl (.inr ⟨o, e _ _ (ne_of h hp (by intro z; cases z)) h⟩)
  · exact .inr h
/-- an object that is new at H's time is no part of H -/
theorem same_new {H H' : Hp} {p : Addr} {o : HO} (e : Same H H') (n : H p = none) : Same H (upd H' p o) := fun b u q => by
  rw [upd_ne (ne_of_none q n)]
  exact e b u q
theorem same_upd {H : Hp} {p : Addr} {o : HO} (n : H p = none) : Same H (upd H p o) := same_new (Same.refl H) n
theorem same_none {H H' : Hp} {p : Addr} (e : Same H H') (n : H' p = none) : H p = none := e.free n
theorem samex_new {q : Addr} {H H' : Hp} {p : Addr} {o : HO} (e : SameX q H H') (n : H p = none) : SameX q H (upd H' p o) := fun b u nb h => by
  rw [upd_ne (ne_of_none h n)]
  exact e b u nb h
theorem samex_none {q : Addr} {xs : List V} {H H' : Hp} {p : Addr} (e : SameX q H H') (hq : H' q = some (.lst xs)) (n : H' p = none) : H p = none := by
  cases h : H p with
  | none => rfl
  | some o =>
    have hne : p ≠ q := fun z => by
      rw [z, hq] at n
      cases n
    rw [e p o hne h] at n
    cases n

/-! ### webs in the heap -/
def TieAt (K : PySem.W.Frag) (H : Hp) (v : V) (t : Nat × Nat) : Prop := ∃ a, v = V.ref a ∧ SqT K H a [nV t.1, nV t.2]
def TiesAt (K : PySem.W.Frag) (H : Hp) (a : Addr) (ts : Ties) : Prop := ∃ vs, SqT K H a vs ∧ Paired (TieAt K H) vs ts
def WebAt (K : PySem.W.Frag) (H : Hp) (v : V) (n : Nat) (ts : Ties) : Prop := ∃ a b, v = V.ref a ∧ SqT K H a [nV n, .ref b] ∧ TiesAt K H b ts
def PlacesAt (K : PySem.W.Frag) (H : Hp) (v : V) (ps : List Nat) : Prop := ∃ a, v = V.ref a ∧ SqT K H a (ps.map nV)
def PiecesAt (K : PySem.W.Frag) (H : Hp) (a : Addr) (L : List (List Nat)) : Prop := ∃ vs, H a = some (.lst vs) ∧ Paired (PlacesAt K H) vs L
/-- a list of new ties -/
def TieH (H : Hp) (v : V) (t : Nat × Nat) : Prop := ∃ a, v = V.ref a ∧ H a = some (.tup [nV t.1, nV t.2])
def TiesH (H : Hp) (a : Addr) (ts : Ties) : Prop := ∃ vs, H a = some (.lst vs) ∧ Paired (TieH H) vs ts
section
variable {K : PySem.W.Frag} {H H' : Hp}
theorem TieAt.keep {v : V} {t : Nat × Nat} (h : TieAt K H v t) (k : KeepT K H H') : TieAt K H' v t := let ⟨a, e, q⟩ := h; ⟨a, e, k _ _ q⟩
theorem TiesAt.keep {a : Addr} {ts : Ties} (h : TiesAt K H a ts) (k : KeepT K H H') : TiesAt K H' a ts := let ⟨vs, q, p⟩ := h; ⟨vs, k _ _ q, Paired.mapP p fun _ _ z => z.keep k⟩
theorem WebAt.keep {v : V} {n : Nat} {ts : Ties} (h : WebAt K H v n ts) (k : KeepT K H H') : WebAt K H' v n ts := let ⟨a, b, e, q, z⟩ := h; ⟨a, b, e, k _ _ q, z.keep k⟩
theorem PlacesAt.keep {v : V} {ps : List Nat} (h : PlacesAt K H v ps) (k : KeepT K H H') : PlacesAt K H' v ps := let ⟨a, e, q⟩ := h; ⟨a, e, k _ _ q⟩
theorem PiecesAt.same {a : Addr} {L : List (List Nat)} (h : PiecesAt K H a L) (k : Same H H') : PiecesAt K H' a L := let ⟨vs, q, p⟩ := h; ⟨vs, k _ _ q, Paired.mapP p fun _ _ z => z.keep (keep_same k)⟩
theorem TieH.same {v : V} {t : Nat × Nat} (h : TieH H v t) (k : Same H H') : TieH H' v t := let ⟨a, e, q⟩ := h; ⟨a, e, k _ _ q⟩
theorem TieH.tie {v : V} {t : Nat × Nat} (h : TieH H v t) : TieAt K H v t := let ⟨a, e, q⟩ := h; ⟨a, e, SqT.of q⟩
end
theorem get_pair {α β : Type} {G : α → β → Prop} : ∀ {l₁ : List α} {l₂ : List β}, Paired G l₁ l₂ → ∀ {i : Nat} {b : β}, l₂[i]? = some b → ∃ a, l₁[i]? = some a ∧ G a b
  | _, _, .nil, i, b, h => by simp at h
  | _, _, .cons g t, 0, b, h => by
    have e := Option.some.inj (show some _ = some b from h)
    subst e
    exact ⟨_, rfl, g⟩
  | _, _, .cons g t, i + 1, b, h => get_pair t (i := i) h
theorem at_nat {xs : List V} {j : Nat} {v : V} {z : Int} (e : z = (j : Int)) (h : xs[j]? = some v) : atI xs z = some v := by
  subst e
  exact atI_nat h

/-! ### a def that stands, with its promise -/
structure Df (P : Program) (w : World) (K : PySem.W.Frag) (mg : Str → Option Value) (base : Heap) (k : Nat) (x : Str) (ps : List Str) (sp : Sp) : Prop where
  ex : ∃ f fd, FnOk P w K mg base CX0 k f fd ps sp ∧ mg x = some (.ref f) ∧ PySem.W.keepIn K (.ref f) = true ∧ Binds K fd ps []
section
variable {X : Cx} {k : Nat} {x : Str} {p pos : Pos} {e : Expr} {es : List Expr} {t : TA} {ps : List Str} {sp : Sp}
theorem pe_df (D : Df X.prog X.w X.K X.mg X.base k x ps sp) (hr : Room k X.A) (hg : Gl X x) (ha : PA X (e :: es) t) (hdb : (x == ("__debug__" : Str)) = false := by decide)
    (he : starEach (e :: es) X.env = (false, eval e X.env) :: starEach es X.env := by rfl) (hpl : (backTo pos (starEach es X.env)).any (·.1) = false := by rfl) : PE X (.Call (.Name x p) (e :: es) [] pos) (tCall sp [] E0 t) := by
  obtain ⟨f, fd, F, m, kp, b⟩ := D.ex
  exact pe_call F hr hg m kp b .nil pass0 ha hdb he hpl
end

/-! ### names of the interpreter's own, and the module's constant -/
structure Txt (mg : Str → Option Value) : Prop where
  isi : mg "isinstance" = none
  int : mg "int" = none
  bool : mg "bool" = none
  tuple : mg "tuple" = none
  list : mg "list" = none
  len : mg "len" = none
  enum : mg "enumerate" = none
  min : mg "min" = none
  max : mg "max" = none
  range : mg "range" = none
  any : mg "any" = none
  sorted : mg "sorted" = none
  sum : mg "sum" = none
  most : ∃ t, mg "MOST" = some (.int 8 t)

/-! ### the text by places -/
def topS (i : Nat) : Stmt := PySem.Challenge.pw_pairwebs_k05_whole_webs_made_of_webs.main.body.getD i (.Pass ⟨0, 0, 0, 0⟩)

theorem tyx_tup {K : PySem.W.Frag} {H : Hp} {a : Addr} {xs : List V} (h : SqT K H a xs) : TyX K H (.ref a) (.type "tuple") := by
  rcases h with (h | ⟨o, h⟩) | ⟨o, its, n, h, c, _⟩
  · exact .base (.tup h)
  · exact .fTuple h
  · exact .kTuple h c
theorem kit_tt {K : PySem.W.Frag} : PySem.W.kitOne K (.type "tuple") (.type "tuple") = some true := kit_ty (by decide +kernel)
theorem kit_ii {K : PySem.W.Frag} : PySem.W.kitOne K (.type "int") (.type "int") = some true := kit_ty (by decide +kernel)
theorem kit_ib {K : PySem.W.Frag} : PySem.W.kitOne K (.type "int") (.type "bool") = some false := kit_ty (by decide +kernel)
theorem ite_pos {c : Bool} {A B : Prop} (hc : c = true) (h : A) : if c = true then A else B := by
  rw [if_pos hc]
  exact h
theorem ite_neg {c : Bool} {A B : Prop} (hc : c = false) (h : B) : if c = true then A else B := by
  rw [hc]
  exact iteF h
theorem inV_nat (x : Nat) (ps : List Nat) : inV (nV x) (ps.map nV) = ps.contains x := by
  unfold inV
  rw [List.any_map]
  induction ps with
  | nil => rfl
  | cons p r ih =>
    rw [List.any_cons, ih, List.contains_cons]
    congr 1
    show ((p : Int) == (x : Int)) = (x == p)
    rw [Bool.eq_iff_iff, beq_iff_eq, beq_iff_eq]
    omega
theorem all_flat (ps : List Nat) : (ps.map nV).all flatV = true := by
  rw [List.all_eq_true]
  intro v hv
  obtain ⟨p, _, rfl⟩ := List.mem_map.mp hv
  rfl
/-! ### rules with the written part told, for use within a comprehension's block -/
theorem ninS (K : PySem.W.Frag) {X : Cx} (h : X.K = K := by rfl) : OpR X (compareOp .NotIn) (rIn K true) := by
  subst h
  exact op_notIn_seq
theorem inS (K : PySem.W.Frag) {X : Cx} (h : X.K = K := by rfl) : OpR X (compareOp .In) (rIn K false) := by
  subst h
  exact op_in_seq
theorem ixT (K : PySem.W.Frag) {X : Cx} (h : X.K = K := by rfl) : IxR X (rIxT K) := by
  subst h
  exact ix_tup
end K5
namespace K5
open PySem PySem.Spec PyProof.Rows L2
open Wb (WebOk Ties tlt tle adj nearTo bfs fresh srt piece piecesLeft)
section
variable {P : Program} {w : World} {K : PySem.W.Frag} {mg : Str → Option Value} {base : Heap} {f : Addr} {fd : FuncData}
/-! ### is_whole -/
abbrev sWhole : Stmt := topS 9
theorem scWhole : FnScope ["thing"] ["thing"] (defScope sWhole) := ⟨rfl, rfl, rfl, by decide +kernel, rfl, by decide +kernel, by decide +kernel⟩
def spWhole : Sp := fun vs H Q _ => ∃ i : Int, vs = [.int i] ∧ Q (.bl true) H
theorem ok_whole (F : Fun K "is_whole" "is_whole" sWhole f fd) (T : Txt mg) : FnOk P w K mg base CX0 1 f fd ["thing"] spWhole := by
  refine F.ok scWhole (fun vs H Q E h => ?_) (fun cdv A outer s H vs Q E hr h => ?_)
  · obtain ⟨i, rfl, _⟩ := h
    rfl
  · obtain ⟨i, rfl, q⟩ := h
    refine ⟨_, pss_one (ps_ret (pe_and (pe_callB call_isi (by rfl) T.isi boot_isinstance (pa_cons (pv 0) (pa_cons (pe_bltn (v := .ty "int") (by rfl) T.int PyProof.Rows.boot_int rfl) pa_nil)))
      (pe_one (pe_not (pe_callB call_isi (by rfl) T.isi boot_isinstance (pa_cons (pv 0) (pa_cons (pe_bltn (v := .ty "bool") (by rfl) T.bool PyProof.Rows.boot_bool rfl) pa_nil))))))), ?_⟩
    refine ⟨_, rfl, .int i, .ty "int", _, _, true, rfl, .ty _, .base (.int i), kit_ii, true, rfl, iteT ?_⟩
    refine ⟨_, rfl, .int i, .ty "bool", _, _, false, rfl, .ty _, .base (.int i), kit_ib, false, rfl, ?_⟩
    exact q
/-! ### is_from -/
abbrev sFrom : Stmt := topS 10
theorem scFrom : FnScope ["thing", "low", "high"] ["thing", "low", "high"] (defScope sFrom) := ⟨rfl, rfl, rfl, by decide +kernel, rfl, by decide +kernel, by decide +kernel⟩
def spFrom : Sp := fun vs H Q _ => ∃ i lo hi : Int, vs = [.int i, .int lo, .int hi] ∧ Q (.bl (decide (lo ≤ i) && decide (i ≤ hi))) H
theorem ok_from (F : Fun K "is_from" "is_from" sFrom f fd) (DW : Df P w K mg base 1 "is_whole" ["thing"] spWhole) : FnOk P w K mg base CX0 2 f fd ["thing", "low", "high"] spFrom := by
  refine F.ok scFrom (fun vs H Q E h => ?_) (fun cdv A outer s H vs Q E hr h => ?_)
  · obtain ⟨i, lo, hi, rfl, _⟩ := h
    rfl
  · obtain ⟨i, lo, hi, rfl, q⟩ := h
    refine ⟨_, pss_one (ps_ret (pe_and (pe_df DW hr (by rfl) (pa_cons (pv 0) pa_nil)) (pe_one (pe_chain op_le op_le (pv 1) (pv 0) (pv 2))))), ?_⟩
    refine ⟨_, rfl, i, rfl, true, rfl, iteT ?_⟩
    refine ⟨_, rfl, _, rfl, _, _, rfl, rfl, _, rfl, ?_⟩
    by_cases h1 : lo ≤ i
    · rw [decide_eq_true h1, Bool.true_and] at q
      refine ite_pos (decide_eq_true h1) ?_
      exact ⟨_, rfl, _, _, rfl, rfl, q⟩
    · rw [decide_eq_false h1, Bool.false_and] at q
      exact ite_neg (decide_eq_false h1) q
/-! ### is_tie -/
abbrev sTie : Stmt := topS 11
theorem scTie : FnScope ["thing", "many"] ["thing", "many"] (defScope sTie) := ⟨rfl, rfl, rfl, by decide +kernel, rfl, by decide +kernel, by decide +kernel⟩
def spTie (K : PySem.W.Frag) : Sp := fun vs H Q _ => ∃ (v : V) (t : Nat × Nat) (m : Nat), vs = [v, nV m] ∧ TieAt K H v t ∧ t.1 < t.2 ∧ t.2 < m ∧ Q (.bl true) H
theorem ok_tie (F : Fun K "is_tie" "is_tie" sTie f fd) (T : Txt mg) (DF : Df P w K mg base 2 "is_from" ["thing", "low", "high"] spFrom) : FnOk P w K mg base CX0 3 f fd ["thing", "many"] (spTie K) := by
  refine F.ok scTie (fun vs H Q E h => ?_) (fun cdv A outer s H vs Q E hr h => ?_)
  · obtain ⟨v, t, m, rfl, _⟩ := h
    rfl
  · obtain ⟨v, t, m, rfl, ⟨a, rfl, ha⟩, h1, h2, q⟩ := h
    refine ⟨_, pss_cons (ps_if (PW.pt (pw_or (pt_not (pt_val (pe_callB call_isi (by rfl) T.isi boot_isinstance (pa_cons (pv 0) (pa_cons (pe_bltn (v := .ty "tuple") (by rfl) T.tuple PyProof.Rows.boot_tuple rfl) pa_nil)))))
        (pw_or1 (pt_cmpR op_ne (pe_callB call_len_seq (by rfl) T.len PySem.boot_len (pa_cons (pv 0) pa_nil)) pe_int (nomark _))))) (pss_one (ps_ret pe_bl)) pss_nil)
      (pss_one (ps_ret (pe_and (pe_df DF hr (by rfl) (pa_cons (pe_ix ix_tup (pv 0) pe_int (fun _ _ => rfl)) (pa_cons pe_int (pa_cons (pe_op op_sub (pv 1) pe_int) pa_nil))))
        (pe_one (pe_df DF hr (by rfl) (pa_cons (pe_ix ix_tup (pv 0) pe_int (fun _ _ => rfl)) (pa_cons (pe_op op_add (pe_ix ix_tup (pv 0) pe_int (fun _ _ => rfl)) pe_int) (pa_cons (pe_op op_sub (pv 1) pe_int) pa_nil)))))))), ?_⟩
    refine ⟨_, rfl, .ref a, .ty "tuple", _, _, true, rfl, .ty _, tyx_tup ha, kit_tt, true, rfl, iteF ?_⟩
    refine ⟨_, rfl, a, _, rfl, .inr ha, rfl, _, rfl, iteNS rfl ?_⟩
    refine ⟨_, rfl, a, _, _, _, rfl, rfl, ha, at_nat (j := 0) rfl rfl, _, rfl, _, _, rfl, rfl, _, _, _, rfl, _, rfl, ite_pos ?_ ?_⟩
    · rw [Bool.and_eq_true, decide_eq_true_eq, decide_eq_true_eq]
      omega
    · refine ⟨_, rfl, a, _, _, _, rfl, rfl, ha, at_nat (j := 1) rfl rfl, _, rfl, a, _, _, _, rfl, rfl, ha, at_nat (j := 0) rfl rfl, _, _, rfl, rfl, _, rfl, _, _, rfl, rfl, _, _, _, rfl, ?_⟩
      have e : (decide ((t.1 : Int) + 1 ≤ (t.2 : Int)) && decide ((t.2 : Int) ≤ (m : Int) - 1)) = true := by
        rw [Bool.and_eq_true, decide_eq_true_eq, decide_eq_true_eq]
        omega
      show Q (.bl (decide ((t.1 : Int) + 1 ≤ (t.2 : Int)) && decide ((t.2 : Int) ≤ (m : Int) - 1))) H
      rw [e]
      exact q
end
end K5
namespace K5
open PySem PySem.Spec PyProof.Rows L2
open Wb (WebOk Ties tlt tle adj nearTo bfs fresh srt piece piecesLeft)
/-- a tuple of two ints is not at most one that is less -/
theorem lex_not {a b : Nat × Nat} (h : tlt b a) : Ob.lexAt (fun j => decide (([(a.1 : Int), (a.2 : Int)] : List Int).getD j 0 = ([(b.1 : Int), (b.2 : Int)] : List Int).getD j 0)) (fun j => decide (([(a.1 : Int), (a.2 : Int)] : List Int).getD j 0 ≤ ([(b.1 : Int), (b.2 : Int)] : List Int).getD j 0)) (decide ((2 : Nat) ≤ 2)) 0 2 = false := by
  rw [Ob.lexAt_succ]
  show (if decide ((a.1 : Int) = (b.1 : Int)) = true then _ else decide ((a.1 : Int) ≤ (b.1 : Int))) = false
  unfold tlt at h
  by_cases e1 : a.1 = b.1
  · rw [if_pos (by rw [decide_eq_true_eq]; omega), Ob.lexAt_succ]
    show (if decide ((a.2 : Int) = (b.2 : Int)) = true then _ else decide ((a.2 : Int) ≤ (b.2 : Int))) = false
    have : ¬ ((a.2 : Int) = (b.2 : Int)) := by omega
    rw [if_neg (by rw [decide_eq_true_eq]; exact this), decide_eq_false_iff_not]
    omega
  · rw [if_neg (by rw [decide_eq_true_eq]; omega), decide_eq_false_iff_not]
    omega
theorem pw_get {α : Type} {R : α → α → Prop} {l : List α} (h : l.Pairwise R) {i j : Nat} {a b : α} (ha : l[i]? = some a) (hb : l[j]? = some b) (hij : i < j) : R a b := by
  obtain ⟨h1, e1⟩ := List.getElem?_eq_some_iff.mp ha
  obtain ⟨h2, e2⟩ := List.getElem?_eq_some_iff.mp hb
  subst e1 e2
  exact List.pairwise_iff_getElem.mp h i j h1 h2 hij
section
variable {P : Program} {w : World} {K : PySem.W.Frag} {mg : Str → Option Value} {base : Heap} {f : Addr} {fd : FuncData}
/-! ### is_web -/
abbrev sWeb : Stmt := topS 12
theorem scWeb : FnScope ["thing", "at", "tie"] ["thing"] (defScope sWeb) := ⟨rfl, rfl, rfl, by decide +kernel, rfl, by decide +kernel, by decide +kernel⟩
def spIsWeb (K : PySem.W.Frag) : Sp := fun vs H Q _ => ∃ (v : V) (n : Nat) (ts : Ties), vs = [v] ∧ WebAt K H v n ts ∧ WebOk n ts ∧ ∀ H', Same H H' → Q (.bl true) H'
theorem ok_isweb (F : Fun K "is_web" "is_web" sWeb f fd) (T : Txt mg) (DF : Df P w K mg base 2 "is_from" ["thing", "low", "high"] spFrom) (DT : Df P w K mg base 3 "is_tie" ["thing", "many"] (spTie K)) :
    FnOk P w K mg base CX0 4 f fd ["thing"] (spIsWeb K) := by
  refine F.ok scWeb (fun vs H Q E h => ?_) (fun cdv A outer s H vs Q E hr h => ?_)
  · obtain ⟨v, n, ts, rfl, _⟩ := h
    rfl
  · obtain ⟨v, n, ts, rfl, ⟨a, b, rfl, ha, us, hb, hp⟩, ok, q⟩ := h
    obtain ⟨tm, hm⟩ := T.most
    have hr2 : Room 2 _ := hr.mono (by decide)
    refine ⟨_, pss_cons (ps_if (PW.pt (pw_or (pt_not (pt_val (pe_callB call_isi (by rfl) T.isi boot_isinstance (pa_cons (pv 0) (pa_cons (pe_bltn (v := .ty "tuple") (by rfl) T.tuple PyProof.Rows.boot_tuple rfl) pa_nil)))))
        (pw_or (pt_cmpR op_ne (pe_callB call_len_seq (by rfl) T.len PySem.boot_len (pa_cons (pv 0) pa_nil)) pe_int (nomark _))
        (pw_or1 (pt_not (pt_val (pe_df DF hr2 (by rfl) (pa_cons (pe_ix ix_tup (pv 0) pe_int (fun _ _ => rfl)) (pa_cons pe_int (pa_cons (pe_glob (v := .int 8) (by rfl) hm ⟨_, rfl⟩) pa_nil))))))))))
        (pss_one (ps_ret pe_bl)) pss_nil)
      (pss_cons (ps_if (pt_not (pt_val (pe_callB call_isi (by rfl) T.isi boot_isinstance (pa_cons (pe_ix ix_tup (pv 0) pe_int (fun _ _ => rfl)) (pa_cons (pe_bltn (v := .ty "tuple") (by rfl) T.tuple PyProof.Rows.boot_tuple rfl) pa_nil)))))
        (pss_one (ps_ret pe_bl)) pss_nil)
      (pss_cons (ps_for PassesOwn.never rfl (pi_enumT (by rfl) T.enum (pa_cons (pe_ix ix_tup (pv 0) pe_int (fun _ _ => rfl)) pa_nil))
          (pg_tup rfl (pgs_cons (pg_name (i := 1) scWeb.nd rfl (.inl rfl)) (pgs_cons (pg_name (i := 2) scWeb.nd rfl (.inl rfl)) pgs_nil)))
        (pss_one (ps_if (PW.pt (pw_or (pt_not (pt_val (pe_df DT hr (by rfl) (pa_cons (pv 2) (pa_cons (pe_ix ix_tup (pv 0) pe_int (fun _ _ => rfl)) pa_nil)))))
          (pw_or1 (PW.pt (pw_and (pt_cmpR op_gt (pv 1) pe_int (nomark _))
            (pw_and1 (pt_cmpR (op_leT hr.units0) (pv 2) (pe_ix ix_tup (pe_ix ix_tup (pv 0) pe_int (fun _ _ => rfl)) (pe_op op_sub (pv 1) pe_int) (fun _ _ => rfl)) (nomark _))))))))
          (pss_one (ps_ret pe_bl)) pss_nil)))
      (pss_one (ps_ret pe_bl)))), ?_⟩
    refine ⟨_, rfl, .ref a, .ty "tuple", _, _, true, rfl, .ty _, tyx_tup ha, kit_tt, true, rfl, iteF ?_⟩
    refine ⟨_, rfl, a, _, rfl, .inr ha, rfl, _, rfl, iteNS rfl ?_⟩
    refine ⟨_, rfl, a, _, _, _, rfl, rfl, ha, at_nat (j := 0) rfl rfl, _, _, _, rfl, _, rfl, ?_⟩
    have e8 : (decide ((1 : Int) ≤ (n : Int)) && decide ((n : Int) ≤ 8)) = true := by
      have h1 := ok.pos
      have h2 := ok.le
      rw [Bool.and_eq_true, decide_eq_true_eq, decide_eq_true_eq]
      omega
    refine ite_neg (by rw [e8]; rfl) ?_
    refine ⟨_, rfl, a, _, _, _, rfl, rfl, ha, at_nat (j := 1) rfl rfl, .ref b, .ty "tuple", _, _, true, rfl, .ty _, tyx_tup hb, kit_tt, true, rfl, iteF ?_⟩
    have hl := Paired.length hp
    refine ⟨_, rfl, a, _, _, _, rfl, rfl, ha, at_nat (j := 1) rfl rfl, b, us, rfl, hb, for_it (walk_enumT (K := K) (t := b) (xs := us)) (fun i σ H' => ∃ y1 y2, σ = [some (.ref a), y1, y2] ∧ Same H H')
      ⟨none, none, rfl, Same.refl H⟩ (fun i σ H' _ ⟨_, _, _, s'⟩ => keep_same s' _ _ hb) ?_ ?_⟩
    · rintro i _ σ H' _ _ ⟨y1, y2, rfl, s'⟩ ⟨T', u0, x, rfl, nT, rfl, hu0, hx⟩
      obtain rfl : V.int (i : Nat) = u0 := Option.some.inj hu0
      replace hx : us[i]? = some x := hx
      have s2 : Same H (upd H' T' (.tup [.int (i : Nat), x])) := same_new s' (same_none s' nT)
      have ha2 := keep_same s2 _ _ ha
      have hb2 := keep_same s2 _ _ hb
      obtain ⟨t, ht, hxt⟩ := paired_get hp hx
      obtain ⟨ta, rfl, hta⟩ := hxt.keep (keep_same s2)
      have o1 := ok.tie t (List.mem_of_getElem? ht)
      refine ⟨T', [.int (i : Nat), .ref ta], rfl, SqT.of upd_same, rfl, .int (i : Nat), [.ref ta], rfl, .ref ta, [], rfl, rfl, ?_⟩
      refine ⟨_, rfl, _, rfl, a, _, _, _, rfl, rfl, ha2, at_nat (j := 0) rfl rfl, .ref ta, t, n, rfl, ⟨ta, rfl, hta⟩, o1.1, o1.2, true, rfl, iteF ?_⟩
      refine ⟨_, rfl, _, _, rfl, rfl, _, rfl, ?_⟩
      by_cases hi : 0 < i
      · refine ite_pos (decide_eq_true (by omega)) ?_
        have hx1 : ∃ u, us[i - 1]? = some u := by
          have hlt := (List.getElem?_eq_some_iff.mp hx).1
          exact ⟨_, List.getElem?_eq_getElem (by omega)⟩
        obtain ⟨u, hu⟩ := hx1
        obtain ⟨t', ht', hut⟩ := paired_get hp hu
        obtain ⟨ua, rfl, hua⟩ := hut.keep (keep_same s2)
        have hlt : tlt t' t := pw_get ok.inc ht' ht (by omega)
        refine ⟨_, rfl, _, rfl, a, _, _, _, rfl, rfl, ha2, at_nat (j := 1) rfl rfl, _, rfl, _, _, rfl, rfl, b, us, _, _, rfl, rfl, hb2, at_nat (j := i - 1) (by omega) hu, ?_⟩
        refine ⟨ta, ua, [(t.1 : Int), (t.2 : Int)], [(t'.1 : Int), (t'.2 : Int)], rfl, rfl, hta, hua, _, rfl, ?_⟩
        refine ite_neg (lex_not hlt) ?_
        exact ⟨_, _, rfl, s2⟩
      · refine ite_neg (decide_eq_false (by omega)) ?_
        refine iteF ?_
        exact ⟨_, _, rfl, s2⟩
    · rintro σ H' ⟨y1, y2, rfl, s'⟩
      exact q H' s'
/-! ### must_web -/
abbrev sMustWeb : Stmt := topS 13
theorem scMustWeb : FnScope ["web"] ["web"] (defScope sMustWeb) := ⟨rfl, rfl, rfl, by decide +kernel, rfl, by decide +kernel, by decide +kernel⟩
def spMustWeb (K : PySem.W.Frag) : Sp := fun vs H Q _ => ∃ (v : V) (n : Nat) (ts : Ties), vs = [v] ∧ WebAt K H v n ts ∧ WebOk n ts ∧ ∀ H', Same H H' → Q .non H'
theorem ok_mustweb (F : Fun K "must_web" "must_web" sMustWeb f fd) (DW : Df P w K mg base 4 "is_web" ["thing"] (spIsWeb K)) : FnOk P w K mg base CX0 5 f fd ["web"] (spMustWeb K) := by
  refine F.ok scMustWeb (fun vs H Q E h => ?_) (fun cdv A outer s H vs Q E hr h => ?_)
  · obtain ⟨v, n, ts, rfl, _⟩ := h
    rfl
  · obtain ⟨v, n, ts, rfl, hw, ok, q⟩ := h
    refine ⟨_, pss_one (ps_if (pt_not (pt_val (pe_df DW hr (by rfl) (pa_cons (pv 0) pa_nil)))) (pss_one ps_never) pss_nil), ?_⟩
    refine ⟨_, rfl, v, n, ts, rfl, hw, ok, fun H' s' => ⟨true, rfl, iteF ?_⟩⟩
    exact q H' s'
/-! ### is_place -/
abbrev sPlace : Stmt := topS 14
theorem scPlace : FnScope ["web", "thing"] ["web", "thing"] (defScope sPlace) := ⟨rfl, rfl, rfl, by decide +kernel, rfl, by decide +kernel, by decide +kernel⟩
def spPlace (K : PySem.W.Frag) : Sp := fun vs H Q _ => ∃ (v : V) (n : Nat) (ts : Ties) (p : Nat), vs = [v, nV p] ∧ WebAt K H v n ts ∧ p < n ∧ Q (.bl true) H
theorem ok_place (F : Fun K "is_place" "is_place" sPlace f fd) (DF : Df P w K mg base 2 "is_from" ["thing", "low", "high"] spFrom) : FnOk P w K mg base CX0 3 f fd ["web", "thing"] (spPlace K) := by
  refine F.ok scPlace (fun vs H Q E h => ?_) (fun cdv A outer s H vs Q E hr h => ?_)
  · obtain ⟨v, n, ts, p, rfl, _⟩ := h
    rfl
  · obtain ⟨v, n, ts, p, rfl, ⟨a, b, rfl, ha, _⟩, hp, q⟩ := h
    refine ⟨_, pss_one (ps_ret (pe_df DF hr (by rfl) (pa_cons (pv 1) (pa_cons pe_int (pa_cons (pe_op op_sub (pe_ix ix_tup (pv 0) pe_int (fun _ _ => rfl)) pe_int) pa_nil))))), ?_⟩
    refine ⟨_, rfl, _, rfl, a, _, _, _, rfl, rfl, ha, at_nat (j := 0) rfl rfl, _, _, rfl, rfl, _, _, _, rfl, ?_⟩
    have e : (decide ((0 : Int) ≤ (p : Int)) && decide ((p : Int) ≤ (n : Int) - 1)) = true := by
      rw [Bool.and_eq_true, decide_eq_true_eq, decide_eq_true_eq]
      omega
    show Q (.bl (decide ((0 : Int) ≤ (p : Int)) && decide ((p : Int) ≤ (n : Int) - 1))) H
    rw [e]
    exact q
/-! ### must_place -/
abbrev sMustPlace : Stmt := topS 15
theorem scMustPlace : FnScope ["web", "place"] ["web", "place"] (defScope sMustPlace) := ⟨rfl, rfl, rfl, by decide +kernel, rfl, by decide +kernel, by decide +kernel⟩
def spMustPlace (K : PySem.W.Frag) : Sp := fun vs H Q _ => ∃ (v : V) (n : Nat) (ts : Ties) (p : Nat), vs = [v, nV p] ∧ WebAt K H v n ts ∧ p < n ∧ Q .non H
theorem ok_mustplace (F : Fun K "must_place" "must_place" sMustPlace f fd) (DP : Df P w K mg base 3 "is_place" ["web", "thing"] (spPlace K)) : FnOk P w K mg base CX0 4 f fd ["web", "place"] (spMustPlace K) := by
  refine F.ok scMustPlace (fun vs H Q E h => ?_) (fun cdv A outer s H vs Q E hr h => ?_)
  · obtain ⟨v, n, ts, p, rfl, _⟩ := h
    rfl
  · obtain ⟨v, n, ts, p, rfl, hw, hp, q⟩ := h
    refine ⟨_, pss_one (ps_if (pt_not (pt_val (pe_df DP hr (by rfl) (pa_cons (pv 0) (pa_cons (pv 1) pa_nil))))) (pss_one ps_never) pss_nil), ?_⟩
    exact ⟨_, rfl, _, rfl, v, n, ts, p, rfl, hw, hp, true, rfl, iteF q⟩
/-! ### are_places -/
abbrev sPlaces : Stmt := topS 16
theorem scPlaces : FnScope ["web", "thing", "at", "place"] ["web", "thing"] (defScope sPlaces) := ⟨rfl, rfl, rfl, by decide +kernel, rfl, by decide +kernel, by decide +kernel⟩
def spPlaces (K : PySem.W.Frag) : Sp := fun vs H Q _ => ∃ (v u : V) (n : Nat) (ts : Ties) (ps : List Nat), vs = [v, u] ∧ WebAt K H v n ts ∧ PlacesAt K H u ps ∧ ps.Pairwise (· < ·) ∧ (∀ p ∈ ps, p < n) ∧ ∀ H', Same H H' → Q (.bl true) H'
theorem ok_places (F : Fun K "are_places" "are_places" sPlaces f fd) (T : Txt mg) (DP : Df P w K mg base 3 "is_place" ["web", "thing"] (spPlace K)) : FnOk P w K mg base CX0 4 f fd ["web", "thing"] (spPlaces K) := by
  refine F.ok scPlaces (fun vs H Q E h => ?_) (fun cdv A outer s H vs Q E hr h => ?_)
  · obtain ⟨v, u, n, ts, ps, rfl, _⟩ := h
    rfl
  · obtain ⟨v, u, n, ts, ps, rfl, hw, ⟨b, rfl, hb⟩, inc, hlt, q⟩ := h
    refine ⟨_, pss_cons (ps_if (pt_not (pt_val (pe_callB call_isi (by rfl) T.isi boot_isinstance (pa_cons (pv 1) (pa_cons (pe_bltn (v := .ty "tuple") (by rfl) T.tuple PyProof.Rows.boot_tuple rfl) pa_nil)))))
        (pss_one (ps_ret pe_bl)) pss_nil)
      (pss_cons (ps_for PassesOwn.never rfl (pi_enumT (by rfl) T.enum (pa_cons (pv 1) pa_nil))
          (pg_tup rfl (pgs_cons (pg_name (i := 2) scPlaces.nd rfl (.inl rfl)) (pgs_cons (pg_name (i := 3) scPlaces.nd rfl (.inl rfl)) pgs_nil)))
        (pss_one (ps_if (PW.pt (pw_or (pt_not (pt_val (pe_df DP hr (by rfl) (pa_cons (pv 0) (pa_cons (pv 3) pa_nil)))))
          (pw_or1 (PW.pt (pw_and (pt_cmpR op_gt (pv 2) pe_int (nomark _))
            (pw_and1 (pt_cmpR op_le (pv 3) (pe_ix ix_tup (pv 1) (pe_op op_sub (pv 2) pe_int) (fun _ _ => rfl)) (nomark _))))))))
          (pss_one (ps_ret pe_bl)) pss_nil)))
      (pss_one (ps_ret pe_bl))), ?_⟩
    refine ⟨_, rfl, .ref b, .ty "tuple", _, _, true, rfl, .ty _, tyx_tup hb, kit_tt, true, rfl, iteF ?_⟩
    refine ⟨_, rfl, b, _, rfl, hb, for_it (walk_enumT (K := K) (t := b) (xs := ps.map nV)) (fun i σ H' => ∃ y1 y2, σ = [some v, some (.ref b), y1, y2] ∧ Same H H')
      ⟨none, none, rfl, Same.refl H⟩ (fun i σ H' _ ⟨_, _, _, s'⟩ => keep_same s' _ _ hb) ?_ ?_⟩
    · rintro i _ σ H' _ _ ⟨y1, y2, rfl, s'⟩ ⟨T', u0, x, rfl, nT, rfl, hu0, hx⟩
      obtain rfl : V.int (i : Nat) = u0 := Option.some.inj hu0
      replace hx : (ps.map nV)[i]? = some x := hx
      have s2 : Same H (upd H' T' (.tup [.int (i : Nat), x])) := same_new s' (same_none s' nT)
      have hb2 := keep_same s2 _ _ hb
      have hw2 := hw.keep (keep_same s2)
      rw [List.getElem?_map] at hx
      obtain ⟨p, hp, rfl⟩ := Option.map_eq_some_iff.mp hx
      refine ⟨T', [.int (i : Nat), nV p], rfl, SqT.of upd_same, rfl, .int (i : Nat), [nV p], rfl, nV p, [], rfl, rfl, ?_⟩
      refine ⟨_, rfl, _, rfl, v, n, ts, p, rfl, hw2, hlt p (List.mem_of_getElem? hp), true, rfl, iteF ?_⟩
      refine ⟨_, rfl, _, _, rfl, rfl, _, rfl, ?_⟩
      by_cases hi : 0 < i
      · refine ite_pos (decide_eq_true (by omega)) ?_
        have hx1 : ∃ u, ps[i - 1]? = some u := by
          have hlt := (List.getElem?_eq_some_iff.mp hp).1
          exact ⟨_, List.getElem?_eq_getElem (by omega)⟩
        obtain ⟨p', hp'⟩ := hx1
        have hlt : p' < p := pw_get inc hp' hp (by omega)
        refine ⟨_, rfl, _, rfl, _, rfl, _, _, rfl, rfl, b, ps.map nV, _, _, rfl, rfl, hb2, at_nat (j := i - 1) (by omega) (by rw [List.getElem?_map, hp']; rfl), ?_⟩
        refine ⟨_, _, rfl, rfl, _, rfl, ?_⟩
        refine ite_neg (decide_eq_false (by omega)) ?_
        exact ⟨_, _, rfl, s2⟩
      · refine ite_neg (decide_eq_false (by omega)) ?_
        refine iteF ?_
        exact ⟨_, _, rfl, s2⟩
    · rintro σ H' ⟨y1, y2, rfl, s'⟩
      exact q H' s'
/-! ### must_places -/
abbrev sMustPlaces : Stmt := topS 17
theorem scMustPlaces : FnScope ["web", "some"] ["web", "some"] (defScope sMustPlaces) := ⟨rfl, rfl, rfl, by decide +kernel, rfl, by decide +kernel, by decide +kernel⟩
def spMustPlaces (K : PySem.W.Frag) : Sp := fun vs H Q _ => ∃ (v u : V) (n : Nat) (ts : Ties) (ps : List Nat), vs = [v, u] ∧ WebAt K H v n ts ∧ PlacesAt K H u ps ∧ ps.Pairwise (· < ·) ∧ (∀ p ∈ ps, p < n) ∧ ∀ H', Same H H' → Q .non H'
theorem ok_mustplaces (F : Fun K "must_places" "must_places" sMustPlaces f fd) (DP : Df P w K mg base 4 "are_places" ["web", "thing"] (spPlaces K)) : FnOk P w K mg base CX0 5 f fd ["web", "some"] (spMustPlaces K) := by
  refine F.ok scMustPlaces (fun vs H Q E h => ?_) (fun cdv A outer s H vs Q E hr h => ?_)
  · obtain ⟨v, u, n, ts, ps, rfl, _⟩ := h
    rfl
  · obtain ⟨v, u, n, ts, ps, rfl, hw, hu, inc, hlt, q⟩ := h
    refine ⟨_, pss_one (ps_if (pt_not (pt_val (pe_df DP hr (by rfl) (pa_cons (pv 0) (pa_cons (pv 1) pa_nil))))) (pss_one ps_never) pss_nil), ?_⟩
    exact ⟨_, rfl, _, rfl, v, u, n, ts, ps, rfl, hw, hu, inc, hlt, fun H' s' => ⟨true, rfl, iteF (q H' s')⟩⟩
/-! ### must_number -/
abbrev sNumber : Stmt := topS 18
theorem scNumber : FnScope ["number", "low", "high"] ["number", "low", "high"] (defScope sNumber) := ⟨rfl, rfl, rfl, by decide +kernel, rfl, by decide +kernel, by decide +kernel⟩
def spNumber : Sp := fun vs H Q _ => ∃ i lo hi : Int, vs = [.int i, .int lo, .int hi] ∧ lo ≤ i ∧ i ≤ hi ∧ Q .non H
theorem ok_number (F : Fun K "must_number" "must_number" sNumber f fd) (DF : Df P w K mg base 2 "is_from" ["thing", "low", "high"] spFrom) : FnOk P w K mg base CX0 3 f fd ["number", "low", "high"] spNumber := by
  refine F.ok scNumber (fun vs H Q E h => ?_) (fun cdv A outer s H vs Q E hr h => ?_)
  · obtain ⟨i, lo, hi, rfl, _⟩ := h
    rfl
  · obtain ⟨i, lo, hi, rfl, h1, h2, q⟩ := h
    refine ⟨_, pss_one (ps_if (pt_not (pt_val (pe_df DF hr (by rfl) (pa_cons (pv 0) (pa_cons (pv 1) (pa_cons (pv 2) pa_nil)))))) (pss_one ps_never) pss_nil), ?_⟩
    refine ⟨_, rfl, _, rfl, _, rfl, i, lo, hi, rfl, _, rfl, ite_neg ?_ q⟩
    rw [decide_eq_true h1, decide_eq_true h2]
    rfl
end
end K5
namespace K5
open PySem PySem.Spec PyProof.Rows L2
open Wb (WebOk Ties tlt tle adj nearTo bfs fresh srt piece piecesLeft)
/-! ### ties as data -/
def tieD (t : Nat × Nat) : PyData := .tuple [.int (t.1 : Int), .int (t.2 : Int)]
theorem dp_tie {K : PySem.W.Frag} {H : Hp} {v : V} {t : Nat × Nat} (h : TieAt K H v t) : Dp K H v (tieD t) := by
  obtain ⟨a, rfl, ha⟩ := h
  exact .tup ha (.cons (.int _) (.cons (.int _) .nil))
theorem dp_all {K : PySem.W.Frag} {H : Hp} : ∀ {vs : List V} {ts : Ties}, Paired (TieAt K H) vs ts → DpAll K H vs (ts.map tieD)
  | _, _, .nil => .nil
  | _, _, .cons h t => .cons (dp_tie h) (dp_all t)
theorem dp_ties {K : PySem.W.Frag} {H : Hp} {a : Addr} {ts : Ties} (h : TiesAt K H a ts) : Dp K H (.ref a) (.tuple (ts.map tieD)) := by
  obtain ⟨vs, hv, hp⟩ := h
  exact .tup hv (dp_all hp)
theorem lay_ties : ∀ ts : Ties, PyData.canLayAll0 (ts.map tieD) = true
  | [] => rfl
  | t :: r => by
    show (PyData.canLay0 (tieD t) && PyData.canLayAll0 (r.map tieD)) = true
    rw [lay_ties r]
    rfl
theorem depth_ties : ∀ ts : Ties, PyData.depthAll (ts.map tieD) ≤ 1
  | [] => Nat.zero_le _
  | t :: r => by
    show max (PyData.depth (tieD t)) (PyData.depthAll (r.map tieD)) ≤ 1
    have h1 := depth_ties r
    have h2 : PyData.depth (tieD t) = 1 := rfl
    omega
theorem shaped_ties (ts : Ties) : SeqAt.shaped (.tuple (ts.map tieD)) = true := by
  show (PyData.canLayAll0 (ts.map tieD) && decide (PyData.depthAll (ts.map tieD) + 1 ≤ 64)) = true
  have h := depth_ties ts
  rw [lay_ties, Bool.true_and, decide_eq_true_eq]
  omega
theorem eqv_tie (s t : Nat × Nat) : PyData.eqv (tieD s) (tieD t) = decide (s = t) := by
  show (((s.1 : Int) == (t.1 : Int)) && (((s.2 : Int) == (t.2 : Int)) && true)) = decide (s = t)
  rw [Bool.eq_iff_iff, Bool.and_true, Bool.and_eq_true, beq_iff_eq, beq_iff_eq, decide_eq_true_eq]
  constructor
  · rintro ⟨h1, h2⟩
    exact Prod.ext (by omega) (by omega)
  · rintro rfl
    exact ⟨rfl, rfl⟩
theorem any_ties (ts : Ties) (t : Nat × Nat) : ((ts.map tieD).any fun z => PyData.eqv z (tieD t)) = decide (t ∈ ts) := by
  rw [List.any_map, Bool.eq_iff_iff, List.any_eq_true, decide_eq_true_eq]
  constructor
  · rintro ⟨s, hs, h⟩
    have h : PyData.eqv (tieD s) (tieD t) = true := h
    rw [eqv_tie, decide_eq_true_eq] at h
    subst h
    exact hs
  · intro h
    exact ⟨t, h, by show PyData.eqv (tieD t) (tieD t) = true; rw [eqv_tie]; exact decide_eq_true rfl⟩
theorem min_nat (p q : Nat) : (if ((q : Nat) : Int) < (p : Int) then (q : Int) else (p : Int)) = ((min p q : Nat) : Int) := by
  by_cases h : (q : Int) < (p : Int)
  · rw [if_pos h]
    omega
  · rw [if_neg h]
    omega
theorem max_nat (p q : Nat) : (if ((q : Nat) : Int) > (p : Int) then (q : Int) else (p : Int)) = ((max p q : Nat) : Int) := by
  by_cases h : (q : Int) > (p : Int)
  · rw [if_pos h]
    omega
  · rw [if_neg h]
    omega
/-! ### one more item of what is taken by a test -/
theorem filt_t {α : Type} {f : Nat → Bool} {g : Nat → α} {i : Nat} (h : f i = true) : ((List.range (i + 1)).filter f).map g = ((List.range i).filter f).map g ++ [g i] := by
  rw [List.range_succ, List.filter_append, List.map_append, List.filter_cons_of_pos h]
  rfl
theorem filt_f {α : Type} {f : Nat → Bool} {g : Nat → α} {i : Nat} (h : f i = false) : ((List.range (i + 1)).filter f).map g = ((List.range i).filter f).map g := by
  rw [List.range_succ, List.filter_append, List.map_append, List.filter_cons_of_neg (by rw [h]; exact Bool.false_ne_true)]
  simp
theorem filt_le {α : Type} (f : Nat → Bool) (g : Nat → α) (i : Nat) : (((List.range i).filter f).map g).length ≤ i := by
  rw [List.length_map]
  have := (List.filter_sublist (l := List.range i) (p := f)).length_le
  rw [List.length_range] at this
  exact this
theorem take_t {α β : Type} {f : α → Bool} {g : α → β} {l : List α} {i : Nat} {a : α} (e : l[i]? = some a) (h : f a = true) : ((l.take (i + 1)).filter f).map g = ((l.take i).filter f).map g ++ [g a] := by
  rw [List.take_add_one, e, List.filter_append, List.map_append]
  show _ ++ List.map g (List.filter f [a]) = _
  rw [List.filter_cons_of_pos h]
  rfl
theorem take_f {α β : Type} {f : α → Bool} {g : α → β} {l : List α} {i : Nat} {a : α} (e : l[i]? = some a) (h : f a = false) : ((l.take (i + 1)).filter f).map g = ((l.take i).filter f).map g := by
  rw [List.take_add_one, e, List.filter_append, List.map_append]
  show _ ++ List.map g (List.filter f [a]) = _
  rw [List.filter_cons_of_neg (by rw [h]; exact Bool.false_ne_true)]
  simp
theorem take_le {α β : Type} (f : α → Bool) (g : α → β) (l : List α) (i : Nat) : (((l.take i).filter f).map g).length ≤ l.length := by
  rw [List.length_map]
  refine Nat.le_trans (List.filter_sublist.length_le) ?_
  rw [List.length_take]
  exact Nat.min_le_right _ _
theorem map_t {α β : Type} {g : α → β} {l : List α} {i : Nat} {a : α} (e : l[i]? = some a) : (l.take (i + 1)).map g = (l.take i).map g ++ [g a] := by
  rw [List.take_add_one, e, List.map_append]
  rfl
section
variable {P : Program} {w : World} {K : PySem.W.Frag} {mg : Str → Option Value} {base : Heap} {f : Addr} {fd : FuncData}
/-! ### tied -/
abbrev sTied : Stmt := topS 19
theorem scTied : FnScope ["web", "one", "other"] ["web", "one", "other"] (defScope sTied) := ⟨rfl, rfl, rfl, by decide +kernel, rfl, by decide +kernel, by decide +kernel⟩
def spTied (K : PySem.W.Frag) : Sp := fun vs H Q _ => ∃ (v : V) (n : Nat) (ts : Ties) (p q : Nat), vs = [v, nV p, nV q] ∧ WebAt K H v n ts ∧ ∀ H', Same H H' → Q (.bl (adj ts p q)) H'
theorem ok_tied (F : Fun K "tied" "tied" sTied f fd) (T : Txt mg) : FnOk P w K mg base CX0 1 f fd ["web", "one", "other"] (spTied K) := by
  refine F.ok scTied (fun vs H Q E h => ?_) (fun cdv A outer s H vs Q E hr h => ?_)
  · obtain ⟨v, n, ts, p, q, rfl, _⟩ := h
    rfl
  · obtain ⟨v, n, ts, p, q, rfl, ⟨a, b, rfl, ha, hb⟩, k⟩ := h
    have hu : (A.deeper (envOfC "tied" (defScope sTied) s.heap.objs.size f cdv)).units + 65 < cLine := by
      have := hr.un
      omega
    refine ⟨_, pss_one (ps_ret (pe_cmpR (op_inDT hu) (pe_tup (pa_cons (pe_callB (call_min2 rfl) (by rfl) T.min boot_min (pa_cons (pv 1) (pa_cons (pv 2) pa_nil))) (pa_cons (pe_callB (call_max2 rfl) (by rfl) T.max boot_max (pa_cons (pv 1) (pa_cons (pv 2) pa_nil))) pa_nil)))
      (pe_ix ix_tup (pv 0) pe_int (fun _ _ => rfl)) (by rfl))), ?_⟩
    refine ⟨_, rfl, _, rfl, _, _, rfl, _, rfl, _, rfl, _, _, rfl, by show 2 ≤ sizeLine; decide, fun t nt => ?_⟩
    rw [min_nat, max_nat]
    have s1 : Same H (upd H t (.tup [nV (min p q), nV (max p q)])) := L2.Same.trans (Same.refl H) (same_upd nt)
    refine ⟨_, rfl, a, _, _, _, rfl, rfl, keep_same s1 _ _ ha, at_nat (j := 1) rfl rfl, ?_⟩
    refine ⟨tieD (min p q, max p q), ts.map tieD, ⟨dp_tie ⟨t, rfl, SqT.of upd_same⟩, rfl⟩, ⟨dp_ties (hb.keep (keep_same s1)), shaped_ties ts⟩, ?_⟩
    rw [any_ties]
    exact k _ s1
/-! ### near_to -/
abbrev sNearTo : Stmt := topS 20
theorem scNearTo : FnScope ["web", "place", "other"] ["web", "place"] (defScope sNearTo) := ⟨rfl, rfl, rfl, by decide +kernel, rfl, by decide +kernel, by decide +kernel⟩
def spNearTo (K : PySem.W.Frag) : Sp := fun vs H Q _ => ∃ (v : V) (n : Nat) (ts : Ties) (p : Nat), vs = [v, nV p] ∧ WebAt K H v n ts ∧ n ≤ 8 ∧ ∀ H' t, Same H H' → H' t = some (.tup ((nearTo n ts p).map nV)) → Q (.ref t) H'
theorem ok_nearto (F : Fun K "near_to" "near_to" sNearTo f fd) (T : Txt mg) (DT : Df P w K mg base 1 "tied" ["web", "one", "other"] (spTied K)) : FnOk P w K mg base CX0 2 f fd ["web", "place"] (spNearTo K) := by
  refine F.ok scNearTo (fun vs H Q E h => ?_) (fun cdv A outer s H vs Q E hr h => ?_)
  · obtain ⟨v, n, ts, p, rfl, _⟩ := h
    rfl
  · obtain ⟨v, n, ts, p, rfl, hw, hn, k⟩ := h
    obtain ⟨a, b, rfl, ha, hb⟩ := id hw
    refine ⟨_, pss_one (ps_ret (pe_callTy call_tuple_of (by rfl) T.tuple PyProof.Rows.boot_tuple (pa_cons
      (pe_lc (own := [("other", 2)]) (g := gName 2) (by rfl) scNearTo.nd (pi_range1 (by rfl) T.range (pa_cons (pe_ix ix_tup (pv 0) pe_int (fun _ _ => rfl)) pa_nil))
        (blkOk_by (own := [("other", 2)]) (N := ["web", "place", "other"]) (sc := defScope sNearTo) (by decide +kernel))
        (fun _ _ _ _ _ => pg_name (i := 2) scNearTo.nd rfl (Or.inl rfl))
        (fun _ _ _ _ _ => pts_one (pt_val (pe_df DT hr (by rfl) (pa_cons (pv 0) (pa_cons (pv 1) (pa_cons (pv 2) pa_nil))))))
        (fun _ _ _ _ _ => pv 2)) pa_nil))), ?_⟩
    refine ⟨_, rfl, a, _, _, _, rfl, rfl, ha, at_nat (j := 0) rfl rfl, _, rfl, by omega, by omega, fun D nD => ?_⟩
    refine lc_range (lo := 0) (n := n) (fun i H' => Same H H' ∧ H' D = some (.lst (((List.range i).filter (adj ts p)).map nV))) ⟨same_upd nD, upd_same⟩ ?_ ?_
    · rintro i H' hi ⟨s', hD⟩
      rw [Int.zero_add]
      refine ⟨rfl, _, rfl, _, rfl, _, rfl, .ref a, n, ts, p, i, rfl, hw.keep (keep_same s'), fun H2 s2 => ⟨_, rfl, ?_⟩⟩
      have s3 : Same H H2 := L2.Same.trans s' s2
      cases e : adj ts p i with
      | true =>
        refine iteT ⟨_, rfl, _, s2 _ _ hD, ?_, same_new s3 nD, ?_⟩
        · exact small1000 (Nat.le_trans (filt_le _ _ _) (by omega))
        · rw [upd_same, filt_t e]
      | false =>
        refine iteF ⟨s3, ?_⟩
        rw [filt_f e]
        exact s2 _ _ hD
    · rintro H' ⟨s', hD⟩
      refine ⟨D, _, rfl, .inl ⟨SqL.of hD, fun l nl => ?_⟩⟩
      exact k _ l (same_new s' (same_none s' nl)) upd_same
/-! ### near -/
abbrev sNear : Stmt := topS 21
theorem scNear : FnScope ["web", "place"] ["web", "place"] (defScope sNear) := ⟨rfl, rfl, rfl, by decide +kernel, rfl, by decide +kernel, by decide +kernel⟩
def spNear (K : PySem.W.Frag) : Sp := fun vs H Q _ => ∃ (v : V) (n : Nat) (ts : Ties) (p : Nat), vs = [v, nV p] ∧ WebAt K H v n ts ∧ WebOk n ts ∧ p < n ∧ ∀ H' t, Same H H' → H' t = some (.tup ((nearTo n ts p).map nV)) → Q (.ref t) H'
theorem ok_near (F : Fun K "near" "near" sNear f fd) (DW : Df P w K mg base 5 "must_web" ["web"] (spMustWeb K)) (DP : Df P w K mg base 4 "must_place" ["web", "place"] (spMustPlace K)) (DN : Df P w K mg base 2 "near_to" ["web", "place"] (spNearTo K)) :
    FnOk P w K mg base CX0 6 f fd ["web", "place"] (spNear K) := by
  refine F.ok scNear (fun vs H Q E h => ?_) (fun cdv A outer s H vs Q E hr h => ?_)
  · obtain ⟨v, n, ts, p, rfl, _⟩ := h
    rfl
  · obtain ⟨v, n, ts, p, rfl, hw, ok, hp, k⟩ := h
    refine ⟨_, pss_cons (ps_expr (pe_df DW hr (by rfl) (pa_cons (pv 0) pa_nil))) (pss_cons (ps_expr (pe_df DP (hr.mono (by decide)) (by rfl) (pa_cons (pv 0) (pa_cons (pv 1) pa_nil))))
      (pss_one (ps_ret (pe_df DN (hr.mono (by decide)) (by rfl) (pa_cons (pv 0) (pa_cons (pv 1) pa_nil)))))), ?_⟩
    refine ⟨_, rfl, v, n, ts, rfl, hw, ok, fun H1 s1 => ?_⟩
    refine ⟨_, rfl, _, rfl, v, n, ts, p, rfl, hw.keep (keep_same s1), hp, ?_⟩
    refine ⟨_, rfl, _, rfl, v, n, ts, p, rfl, hw.keep (keep_same s1), ok.le, fun H2 t s2 ht => ?_⟩
    exact k H2 t (L2.Same.trans s1 s2) ht
end
end K5
namespace K5
open PySem PySem.Spec PyProof.Rows L2
open Wb (WebOk Ties tlt tle adj nearTo bfs fresh srt piece piecesLeft RowOk stepP)
/-- no test: the item is taken -/
theorem yes_t {A B : Hp → Prop} {σ : L2.St} {H : Hp} (h : A H) : tYes σ H (fun b H3 => if b = true then A H3 else B H3) := by
  show (if true = true then A H else B H)
  exact iteT h
theorem cast_inj {l m : List Nat} (h : l.map (fun n : Nat => (n : Int)) = m.map fun n : Nat => (n : Int)) : l = m := by
  have e : ∀ l : List Nat, (l.map fun n : Nat => (n : Int)).map Int.toNat = l := fun l => by
    rw [List.map_map]
    exact (List.map_congr_left (fun n _ => by show Int.toNat (n : Int) = n; simp)).trans (List.map_id _)
  rw [← e l, h, e m]
theorem nV_map (l : List Nat) : l.map nV = (l.map fun n : Nat => (n : Int)).map V.int := by
  rw [List.map_map]
  rfl
theorem sorted_nat {n : Nat} {row : List Nat} {ns : List Int} (nd : row.Nodup) (hl : ∀ x ∈ row, x < n) (hp : ns.Perm (row.map fun n : Nat => (n : Int))) (hs : ns.Pairwise (· ≤ ·)) : ns = (srt n row).map fun n : Nat => (n : Int) := by
  refine List.Perm.eq_of_pairwise (le := (· ≤ ·)) (fun a b _ _ h1 h2 => Int.le_antisymm h1 h2) hs ?_ (hp.trans ((Wb.srt_perm nd hl).map _).symm)
  rw [List.pairwise_map]
  have h : (srt n row).Pairwise (· ≤ ·) := (List.pairwise_le_range).sublist List.filter_sublist
  exact h.imp fun z => by omega
theorem bfs_end {n : Nat} {ts : Ties} {som row : List Nat} {i : Nat} (h : row.length ≤ i) : ∀ k, bfs n ts som k i row = row
  | 0 => rfl
  | k + 1 => by
    unfold bfs
    rw [if_neg (by omega)]
theorem bfs_next {n : Nat} {ts : Ties} {som row : List Nat} {i x : Nat} (h : row[i]? = some x) (k : Nat) : bfs n ts som (k + 1) i row = bfs n ts som k (i + 1) (row ++ fresh n ts som row x) := by
  have hi := (List.getElem?_eq_some_iff.mp h).1
  have e : row.getD i 0 = x := by
    rw [List.getD_eq_getElem?_getD, h]
    rfl
  rw [bfs, if_pos hi, e]
theorem foldl_snoc {α β : Type} (g : β → α → β) (b : β) (f : Nat → α) (i : Nat) : ((List.range (i + 1)).map f).foldl g b = g (((List.range i).map f).foldl g b) (f i) := by
  rw [List.range_succ, List.map_append, List.foldl_append]
  rfl
def part (n : Nat) (ts : Ties) (som : List Nat) (i : Nat) : List (List Nat) := (List.range i).foldl (stepP n ts som) []
theorem part_succ (n : Nat) (ts : Ties) (som : List Nat) (i : Nat) : part n ts som (i + 1) = stepP n ts som (part n ts som i) i := by
  unfold part
  rw [List.range_succ, List.foldl_append]
  rfl
theorem part_len (n : Nat) (ts : Ties) (som : List Nat) : ∀ i, (part n ts som i).length ≤ i
  | 0 => Nat.le_refl _
  | i + 1 => by
    rw [part_succ]
    unfold stepP
    have := part_len n ts som i
    split
    · rw [List.length_append]
      show _ + 1 ≤ _
      omega
    · omega
section
variable {P : Program} {w : World} {K : PySem.W.Frag} {mg : Str → Option Value} {base : Heap} {f : Addr} {fd : FuncData}
abbrev sLeft : Stmt := topS 22
abbrev nmLeft : List Str := ["web", "some", "found", "place", "row", "at", "piece", "one"]
theorem scLeft : FnScope nmLeft ["web", "some"] (defScope sLeft) := ⟨rfl, rfl, rfl, by decide +kernel, rfl, by decide +kernel, by decide +kernel⟩
def spLeft (K : PySem.W.Frag) : Sp := fun vs H Q _ => ∃ (v u : V) (n : Nat) (ts : Ties) (som : List Nat), vs = [v, u] ∧ WebAt K H v n ts ∧ PlacesAt K H u som ∧ n ≤ 8 ∧ ∀ H' F, Same H H' → H F = none → PiecesAt K H' F (piecesLeft n ts som) → Q (.ref F) H'
theorem ok_left (F : Fun K "pieces_left" "pieces_left" sLeft f fd) (T : Txt mg) (DN : Df P w K mg base 2 "near_to" ["web", "place"] (spNearTo K)) : FnOk P w K mg base CX0 3 f fd ["web", "some"] (spLeft K) := by
  refine F.ok scLeft (fun vs H Q E h => ?_) (fun cdv A outer s H vs Q E hr h => ?_)
  · obtain ⟨v, u, n, ts, som, rfl, _⟩ := h
    rfl
  · obtain ⟨v, u, n, ts, som, rfl, hw, hu, hn, k⟩ := h
    obtain ⟨a, b, rfl, ha, hb⟩ := id hw
    obtain ⟨ua, rfl, hua⟩ := id hu
    refine ⟨_, pss_cons (ps_set (i := 2) scLeft.nd rfl (.inl rfl) (pe_lst pa_nil))
      (pss_cons (ps_for PassesOwn.never rfl (pi_range1 (by rfl) T.range (pa_cons (pe_ix ix_tup (pv 0) pe_int (fun _ _ => rfl)) pa_nil)) (pg_name (i := 3) scLeft.nd rfl (.inr rfl))
        (pss_one (ps_if (PW.pt (pw_and (pt_cmpR op_notIn_seq (pv 3) (pv 1) (by rfl))
            (pw_and1 (pt_not (pt_val (pe_callB (cr_any rfl) (by rfl) T.any boot_any (pa_cons
              (pe_lc (own := [("piece", 6)]) (g := gName 6) (by rfl) scLeft.nd (pi_list (pv 2)) (blkOk_by (own := [("piece", 6)]) (N := nmLeft) (sc := defScope sLeft) (by decide +kernel))
                (fun _ _ _ _ _ => pg_name (i := 6) scLeft.nd rfl (Or.inl rfl)) (fun _ _ _ _ _ => pts_nil) (fun _ _ _ _ _ => pe_cmpR (inS K) (pv 3) (pv 6) (by rfl))) pa_nil)))))))
          (pss_cons (ps_set (i := 4) scLeft.nd rfl (.inr rfl) (pe_lst (pa_cons (pv 3) pa_nil)))
          (pss_cons (ps_set (i := 5) scLeft.nd rfl (.inl rfl) pe_int)
          (pss_cons (ps_while PassesOwn.never (pt_cmpR op_lt (pv 5) (pe_callB call_len_seq (by rfl) T.len PySem.boot_len (pa_cons (pv 4) pa_nil)) (nomark _))
            (pss_cons (ps_expr (pe_bm PySem.F.plainAttrs_list PySem.F.slot_list_extend PySem.F.type_list_extend mt_extend (pv 4) (pa_cons
              (pe_lc (own := [("one", 7)]) (g := gName 7) (by rfl) scLeft.nd (pi_tup (pe_df DN hr (by rfl) (pa_cons (pv 0) (pa_cons (pe_ix ix_list (pv 4) (pv 5) (fun _ _ => rfl)) pa_nil))))
                (blkOk_by (own := [("one", 7)]) (N := nmLeft) (sc := defScope sLeft) (by decide +kernel))
                (fun _ _ _ _ _ => pg_name (i := 7) scLeft.nd rfl (Or.inl rfl))
                (fun _ _ _ _ _ => pts_one (PW.pt (pw_and (pt_cmpR (ninS K) (pv 7) (pv 4) (by rfl)) (pw_and1 (pt_cmpR (ninS K) (pv 7) (pv 1) (by rfl))))))
                (fun _ _ _ _ _ => pv 7)) pa_nil)))
            (pss_one (ps_aug (i := 5) scLeft.nd rfl (.inl rfl) pe_int ip_add))))
          (pss_one (ps_expr (pe_bm PySem.F.plainAttrs_list PySem.F.slot_list_append PySem.F.type_list_append mt_append (pv 2) (pa_cons
            (pe_callTy call_tuple_of (by rfl) T.tuple PyProof.Rows.boot_tuple (pa_cons (pe_callB cr_sortedI (by rfl) T.sorted boot_sorted (pa_cons (pv 4) pa_nil)) pa_nil)) pa_nil)))))))
          pss_nil)))
      (pss_one (ps_ret (pv 2)))), ?_⟩
    -- found = []
    refine ⟨Nat.zero_le _, fun fa nF => ?_⟩
    have s0 : Same H (upd H fa (.lst [])) := same_upd nF
    refine ⟨_, rfl, a, _, _, _, rfl, rfl, keep_same s0 _ _ ha, at_nat (j := 0) rfl rfl, _, rfl, by omega, by omega, ?_⟩
    refine for_range (lo := 0) (n := n) (fun i σ H1 => ∃ y3 y4 y5, σ = [some (.ref a), some (.ref ua), some (.ref fa), y3, y4, y5, none, none] ∧ Same H H1 ∧ PiecesAt K H1 fa (part n ts som i))
      ⟨none, none, none, rfl, s0, ⟨[], upd_same, .nil⟩⟩ ?_ ?_
    · rintro i σ H1 hi ⟨y3, y4, y5, rfl, s1, us, hF, hP⟩
      rw [Int.zero_add]
      have hua1 := keep_same s1 _ _ hua
      -- place not in some
      refine ⟨_, rfl, _, rfl, ua, _, rfl, .inr hua1, rfl, all_flat _, _, rfl, ?_⟩
      rw [inV_nat]
      cases e1 : som.contains i with
      | true =>
        refine iteF (iteF ?_)
        refine ⟨_, _, _, rfl, s1, us, hF, ?_⟩
        rw [part_succ]
        unfold stepP
        rw [e1]
        exact hP
      | false =>
        refine iteT ?_
        -- any([place in piece for piece in found])
        refine ⟨_, rfl, fa, rfl, ⟨_, SqL.of hF⟩, fun D nD => ?_⟩
        have sD : ∀ o, Same H1 (upd H1 D o) := fun o => same_upd nD
        have lenP := part_len n ts som i
        have hlu := Paired.length hP
        refine lc_list (K := K) (a := fa) (xs := us) (fun j H2 => Same H1 H2 ∧ H2 D = some (.lst ((((part n ts som i).take j).map fun c => c.contains i).map V.bl)))
          ⟨sD _, upd_same⟩ (fun j H2 _ q => SqL.of (q.1 _ _ hF)) ?_ ?_
        · rintro j x H2 hx ⟨s2, hD⟩
          obtain ⟨c, hc, hxc⟩ := paired_get hP hx
          obtain ⟨ta, rfl, hta⟩ := hxc.keep (keep_same s2)
          refine ⟨rfl, yes_t ?_⟩
          refine ⟨_, rfl, _, rfl, ta, _, rfl, .inr hta, rfl, all_flat _, ?_⟩
          refine ⟨_, hD, ?_, same_new s2 nD, ?_⟩
          · rw [List.length_map, List.length_map, List.length_take]
            exact small1000 (Nat.le_trans (Nat.min_le_right _ _) (by omega))
          · rw [upd_same, map_t hc, List.map_append]
            show some (HO.lst (_ ++ [V.bl (inV (nV i) (c.map nV))])) = _
            rw [inV_nat]
            rfl
        · rintro H2 ⟨s2, hD⟩
          rw [hlu, List.take_length] at hD
          refine ⟨D, _, rfl, SqL.of hD, _, rfl, ?_⟩
          have s3 : Same H H2 := L2.Same.trans s1 s2
          have e2 : (((part n ts som i).map fun c => c.contains i).any id) = (part n ts som i).any fun c => c.contains i := by
            rw [List.any_map]
            rfl
          rw [e2]
          cases e3 : (part n ts som i).any fun c => c.contains i with
          | true =>
            refine iteF ?_
            refine ⟨_, _, _, rfl, s3, us, s2 _ _ hF, ?_⟩
            rw [part_succ]
            unfold stepP
            rw [e1, e3]
            exact Paired.mapP hP fun _ _ z => z.keep (keep_same s2)
          | false =>
            refine iteT ?_
            -- row = [place]; at = 0
            have his : i ∉ som := fun h => by
              rw [List.contains_iff_mem.mpr h] at e1
              cases e1
            refine ⟨_, rfl, by show 1 ≤ sizeLine; decide, fun R nR => ?_⟩
            have nRF : R ≠ fa := fun z => by
              rw [z, s2 _ _ hF] at nR
              cases nR
            refine ⟨fun m σ H4 => ∃ (at_ : Nat) (row : List Nat), m = n - at_ ∧ σ = [some (.ref a), some (.ref ua), some (.ref fa), some (nV i), some (.ref R), some (nV at_), none, none] ∧ Same H2 H4 ∧ H4 R = some (.lst (row.map nV)) ∧
              RowOk n ts som i at_ row ∧ bfs n ts som (n - at_) at_ row = bfs n ts som n 0 [i], ⟨n, 0, [i], rfl, rfl, same_upd nR, upd_same, RowOk.start hi his, rfl⟩, ?_⟩
            rintro m σ H4 ⟨at_, row, rfl, rfl, s4, hR, ok, eb⟩
            have s5 : Same H H4 := L2.Same.trans s3 s4
            have hlen := ok.len
            refine ⟨_, rfl, _, rfl, R, _, rfl, .inl (SqL.of hR), _, _, rfl, rfl, _, rfl, ?_⟩
            rw [List.length_map]
            by_cases hlt : at_ < row.length
            · refine ite_pos (decide_eq_true (by omega)) ?_
              obtain ⟨x, hx⟩ : ∃ x, row[at_]? = some x := ⟨_, List.getElem?_eq_getElem hlt⟩
              refine ⟨fun σ' H5 => ∃ (row' : List Nat), σ' = [some (.ref a), some (.ref ua), some (.ref fa), some (nV i), some (.ref R), some (nV (at_ + 1)), none, none] ∧ Same H2 H5 ∧ H5 R = some (.lst (row'.map nV)) ∧
                RowOk n ts som i (at_ + 1) row' ∧ bfs n ts som (n - (at_ + 1)) (at_ + 1) row' = bfs n ts som n 0 [i], fun σ' H5 ⟨row', h1, h2, h3, h4, h5⟩ => ⟨n - (at_ + 1), by omega, at_ + 1, row', rfl, h1, h2, h3, h4, h5⟩, ?_⟩
              -- row.extend([..])
              refine ⟨.ref R, rfl, .inl ⟨rfl, _, SqL.of hR⟩, ?_⟩
              refine ⟨_, rfl, _, rfl, _, rfl, R, _, _, _, rfl, rfl, SqL.of hR, at_nat (j := at_) rfl (by rw [List.getElem?_map, hx]; rfl), ?_⟩
              refine ⟨.ref a, n, ts, x, rfl, hw.keep (keep_same s5), hn, fun H5 t s6 ht => ?_⟩
              refine ⟨t, rfl, ⟨_, SqT.of ht⟩, fun L nL => ?_⟩
              have nLR : R ≠ L := ne_of_none (s6 _ _ hR) nL
              refine lc_tup (K := K) (a := t) (xs := (nearTo n ts x).map nV) (fun j H6 => Same H5 H6 ∧ H6 L = some (.lst ((((nearTo n ts x).take j).filter fun y => !row.contains y && !som.contains y).map nV)))
                ⟨same_upd nL, upd_same⟩ (fun j H6 _ q => SqT.of (q.1 _ _ ht)) ?_ ?_
              · rintro j y H6 hy ⟨s7, hL⟩
                rw [List.getElem?_map] at hy
                obtain ⟨z, hz, rfl⟩ := Option.map_eq_some_iff.mp hy
                have hR6 : H6 R = some (.lst (row.map nV)) := s7 _ _ (s6 _ _ hR)
                have hua6 := keep_same (L2.Same.trans (L2.Same.trans s5 s6) s7) _ _ hua
                refine ⟨rfl, ?_⟩
                refine ⟨_, rfl, _, rfl, R, _, rfl, .inl (SqL.of hR6), rfl, all_flat _, _, rfl, ?_⟩
                rw [inV_nat]
                have hzn : (nearTo n ts x).length ≤ 8 := by
                  have h1 : (nearTo n ts x).length ≤ n := by
                    have h2 := filt_le (adj ts x) id n
                    rw [List.length_map] at h2
                    exact h2
                  omega
                cases e4 : row.contains z with
                | true =>
                  refine iteF (iteF ⟨s7, ?_⟩)
                  rw [take_f hz (by rw [e4]; rfl)]
                  exact hL
                | false =>
                  refine iteT ?_
                  refine ⟨_, rfl, _, rfl, ua, _, rfl, .inr hua6, rfl, all_flat _, _, rfl, ?_⟩
                  rw [inV_nat]
                  cases e5 : som.contains z with
                  | true =>
                    refine iteF ⟨s7, ?_⟩
                    rw [take_f hz (by rw [e4, e5]; rfl)]
                    exact hL
                  | false =>
                    refine iteT ⟨_, rfl, _, hL, ?_, same_new s7 nL, ?_⟩
                    · exact small1000 (Nat.le_trans (take_le _ _ _ _) (by omega))
                    · rw [upd_same, take_t hz (by rw [e4, e5]; rfl)]
              · rintro H6 ⟨s7, hL⟩
                rw [List.length_map, List.take_length] at hL
                have hR6 : H6 R = some (.lst (row.map nV)) := s7 _ _ (s6 _ _ hR)
                have ok' := ok.next hx
                have hlen' := ok'.len
                refine ⟨R, L, _, _, rfl, rfl, hR6, hL, ?_, ?_⟩
                · have e6 : (row.map nV).length + (((nearTo n ts x).filter fun y => !row.contains y && !som.contains y).map nV).length = (row ++ fresh n ts som row x).length := by
                    rw [List.length_append, List.length_map, List.length_map]
                    rfl
                  rw [e6]
                  exact Nat.le_of_lt (small1000 (by omega))
                · refine ⟨_, rfl, _, _, rfl, rfl, ?_⟩
                  refine ⟨row ++ fresh n ts som row x, rfl, same_new (L2.Same.trans (L2.Same.trans s4 s6) s7) nR, ?_, ok', ?_⟩
                  · rw [upd_same, List.map_append]
                    rfl
                  · have en : n - at_ = (n - (at_ + 1)) + 1 := by omega
                    rw [← eb, en, bfs_next hx]
            · refine ite_neg (decide_eq_false (by omega)) ?_
              -- found.append(tuple(sorted(row)))
              rw [bfs_end (by omega)] at eb
              have hF4 : H4 fa = some (.lst us) := s4 _ _ (s2 _ _ hF)
              refine ⟨.ref fa, rfl, .inl ⟨rfl, _, SqL.of hF4⟩, ?_⟩
              refine ⟨_, rfl, R, row.map fun n : Nat => (n : Int), rfl, SqL.of (by rw [hR, nV_map]), fun ns p hp hs np => ?_⟩
              have ens : ns = (srt n row).map fun n : Nat => (n : Int) := sorted_nat ok.nd (fun y hy => (ok.rch y hy).right.1) hp hs
              refine ⟨p, _, rfl, .inl ⟨SqL.of upd_same, fun l nl => ?_⟩⟩
              have s6 : Same H4 (upd H4 p (.lst (ns.map V.int))) := same_upd np
              have s7 : Same (upd H4 p (.lst (ns.map V.int))) (upd (upd H4 p (.lst (ns.map V.int))) l (.tup (ns.map V.int))) := same_upd nl
              have s8 : Same H1 (upd (upd H4 p (.lst (ns.map V.int))) l (.tup (ns.map V.int))) := L2.Same.trans (L2.Same.trans (L2.Same.trans s2 s4) s6) s7
              refine ⟨fa, us, _, rfl, rfl, s8 _ _ hF, small1000 (by rw [hlu]; omega), ?_⟩
              refine ⟨_, _, _, rfl, same_new (L2.Same.trans s1 s8) nF, us ++ [.ref l], upd_same, ?_⟩
              rw [part_succ]
              unfold stepP
              rw [e1, e3]
              have nlF : l ≠ fa := fun z => by
                rw [z, s6 _ _ hF4] at nl
                cases nl
              have kf : KeepT K H1 (upd (upd (upd H4 p (.lst (ns.map V.int))) l (.tup (ns.map V.int))) fa (.lst (us ++ [.ref l]))) := SameX.keep (p := fa) (xs := us) (fun b o nb e => by
                rw [upd_ne nb]
                exact s8 b o e) hF
              refine Paired.snoc (Paired.mapP hP fun _ _ z => z.keep kf) ⟨l, rfl, ?_⟩
              refine SqT.of ?_
              rw [upd_ne nlF, upd_same]
              show some (HO.tup (ns.map V.int)) = some (HO.tup ((srt n (bfs n ts som n 0 [i])).map nV))
              rw [ens, ← eb, nV_map]
    · rintro σ H1 ⟨y3, y4, y5, rfl, s1, hP⟩
      exact ⟨_, rfl, k H1 fa s1 nF hP⟩
/-! ### pieces -/
abbrev sPieces : Stmt := topS 23
theorem scPieces : FnScope ["web"] ["web"] (defScope sPieces) := ⟨rfl, rfl, rfl, by decide +kernel, rfl, by decide +kernel, by decide +kernel⟩
def spPieces (K : PySem.W.Frag) : Sp := fun vs H Q _ => ∃ (v : V) (n : Nat) (ts : Ties), vs = [v] ∧ WebAt K H v n ts ∧ WebOk n ts ∧ ∀ H' F, Same H H' → H F = none → PiecesAt K H' F (piecesLeft n ts []) → Q (.ref F) H'
theorem ok_pieces (F : Fun K "pieces" "pieces" sPieces f fd) (DW : Df P w K mg base 5 "must_web" ["web"] (spMustWeb K)) (DL : Df P w K mg base 3 "pieces_left" ["web", "some"] (spLeft K)) : FnOk P w K mg base CX0 6 f fd ["web"] (spPieces K) := by
  refine F.ok scPieces (fun vs H Q E h => ?_) (fun cdv A outer s H vs Q E hr h => ?_)
  · obtain ⟨v, n, ts, rfl, _⟩ := h
    rfl
  · obtain ⟨v, n, ts, rfl, hw, ok, k⟩ := h
    refine ⟨_, pss_cons (ps_expr (pe_df DW hr (by rfl) (pa_cons (pv 0) pa_nil))) (pss_one (ps_ret (pe_df DL (hr.mono (by decide)) (by rfl) (pa_cons (pv 0) (pa_cons (pe_tup pa_nil) pa_nil))))), ?_⟩
    refine ⟨_, rfl, v, n, ts, rfl, hw, ok, fun H1 s1 => ?_⟩
    refine ⟨_, rfl, Nat.zero_le _, fun p np => ?_⟩
    have s2 : Same H (upd H1 p (.tup [])) := L2.Same.trans s1 (same_upd np)
    refine ⟨v, .ref p, n, ts, [], rfl, hw.keep (keep_same s2), ⟨p, rfl, SqT.of upd_same⟩, ok.le, fun H2 F2 s3 nF hP => ?_⟩
    exact k H2 F2 (L2.Same.trans s2 s3) (same_none s2 nF) hP
/-! ### pieces_without -/
abbrev sWithout : Stmt := topS 24
theorem scWithout : FnScope ["web", "some"] ["web", "some"] (defScope sWithout) := ⟨rfl, rfl, rfl, by decide +kernel, rfl, by decide +kernel, by decide +kernel⟩
def spWithout (K : PySem.W.Frag) : Sp := fun vs H Q _ => ∃ (v u : V) (n : Nat) (ts : Ties) (som : List Nat), vs = [v, u] ∧ WebAt K H v n ts ∧ WebOk n ts ∧ PlacesAt K H u som ∧ som.Pairwise (· < ·) ∧ (∀ p ∈ som, p < n) ∧
  ∀ H' F, Same H H' → H F = none → PiecesAt K H' F (piecesLeft n ts som) → Q (.ref F) H'
theorem ok_without (F : Fun K "pieces_without" "pieces_without" sWithout f fd) (DW : Df P w K mg base 5 "must_web" ["web"] (spMustWeb K)) (DP : Df P w K mg base 5 "must_places" ["web", "some"] (spMustPlaces K))
    (DL : Df P w K mg base 3 "pieces_left" ["web", "some"] (spLeft K)) : FnOk P w K mg base CX0 6 f fd ["web", "some"] (spWithout K) := by
  refine F.ok scWithout (fun vs H Q E h => ?_) (fun cdv A outer s H vs Q E hr h => ?_)
  · obtain ⟨v, u, n, ts, som, rfl, _⟩ := h
    rfl
  · obtain ⟨v, u, n, ts, som, rfl, hw, ok, hu, inc, hlt, k⟩ := h
    refine ⟨_, pss_cons (ps_expr (pe_df DW hr (by rfl) (pa_cons (pv 0) pa_nil))) (pss_cons (ps_expr (pe_df DP hr (by rfl) (pa_cons (pv 0) (pa_cons (pv 1) pa_nil))))
      (pss_one (ps_ret (pe_df DL (hr.mono (by decide)) (by rfl) (pa_cons (pv 0) (pa_cons (pv 1) pa_nil)))))), ?_⟩
    refine ⟨_, rfl, v, n, ts, rfl, hw, ok, fun H1 s1 => ?_⟩
    refine ⟨_, rfl, _, rfl, v, u, n, ts, som, rfl, hw.keep (keep_same s1), hu.keep (keep_same s1), inc, hlt, fun H2 s2 => ?_⟩
    have s3 := L2.Same.trans s1 s2
    refine ⟨_, rfl, _, rfl, v, u, n, ts, som, rfl, hw.keep (keep_same s3), hu.keep (keep_same s3), ok.le, fun H3 F3 s4 nF hP => ?_⟩
    exact k H3 F3 (L2.Same.trans s3 s4) (same_none s3 nF) hP
end
end K5
namespace K5
open PySem PySem.Spec PyProof.Rows L2
open Wb (WebOk Ties tlt tle adj nearTo bfs fresh srt piece piecesLeft rowTies ringTies pairsOf pairs sidesOf sidesTies moved)
/-! ### lists of new ties -/
theorem TieH.x {p : Addr} {xs : List V} {H H' : Hp} {v : V} {t : Nat × Nat} (h : TieH H v t) (e : SameX p H H') (hp : H p = some (.lst xs)) : TieH H' v t := by
  obtain ⟨a, rfl, ha⟩ := h
  exact ⟨a, rfl, e a _ (ne_of ha hp (by intro z; cases z)) ha⟩
theorem upd_x {H : Hp} {D : Addr} {o : HO} : SameX D H (upd H D o) := fun b u nb e => by
  rw [upd_ne nb]
  exact e
theorem ties_snoc {H : Hp} {D t : Addr} {us : List V} {ts : Ties} {p q : Nat} {x y : V} (hD : H D = some (.lst us)) (hp : Paired (TieH H) us ts) (nt : H t = none) (hx : x = nV p) (hy : y = nV q) :
    Paired (TieH (upd (upd H t (.tup [x, y])) D (.lst (us ++ [.ref t])))) (us ++ [.ref t]) (ts ++ [(p, q)]) := by
  subst hx hy
  have ntD : t ≠ D := fun z => by
    rw [z, hD] at nt
    cases nt
  have s1 : Same H (upd H t (.tup [nV p, nV q])) := same_upd nt
  refine Paired.snoc (Paired.mapP hp fun _ _ z => (z.same s1).x upd_x (s1 _ _ hD)) ⟨t, rfl, ?_⟩
  rw [upd_ne ntD, upd_same]
theorem TiesH.same {H H' : Hp} {a : Addr} {ts : Ties} (h : TiesH H a ts) (k : Same H H') : TiesH H' a ts := let ⟨us, e, p⟩ := h; ⟨us, k _ _ e, Paired.mapP p fun _ _ z => z.same k⟩
theorem TiesH.x {p a : Addr} {xs : List V} {H H' : Hp} {ts : Ties} (h : TiesH H a ts) (e : SameX p H H') (hp : H p = some (.lst xs)) (ne : a ≠ p) : TiesH H' a ts := let ⟨us, q, r⟩ := h; ⟨us, e _ _ ne q, Paired.mapP r fun _ _ z => z.x e hp⟩
theorem ties_len {H : Hp} {a : Addr} {us : List V} {ts : Ties} (h : Paired (TieH H) us ts) : us.length = ts.length := Paired.length h
/-- a new web of a new tuple of new ties -/
theorem web_new {K : PySem.W.Frag} {H : Hp} {l p : Addr} {us : List V} {n : Nat} {ts : Ties} (hp : Paired (TieH H) us ts) (nl : H l = none) (np : upd H l (.tup us) p = none) :
    WebAt K (upd (upd H l (.tup us)) p (.tup [nV n, .ref l])) (.ref p) n ts := by
  have npl : l ≠ p := fun z => by
    rw [z, upd_same] at np
    cases np
  have s1 : Same H (upd (upd H l (.tup us)) p (.tup [nV n, .ref l])) := L2.Same.trans (same_upd nl) (same_upd np)
  refine ⟨p, l, rfl, SqT.of upd_same, us, SqT.of (by rw [upd_ne npl, upd_same]), Paired.mapP hp fun _ _ z => (z.same s1).tie⟩
/-! ### sorted of new ties -/
def rSortT : List V → Hp → VK → Prop := fun vs H Q => ∃ (a : Addr) (xs : List V) (ts : Ties), vs = [.ref a] ∧ H a = some (.lst xs) ∧ Paired (TieH H) xs ts ∧
  ∀ ys out p, Paired (TieH H) ys out → out.Perm ts → out.Pairwise tle → H p = none → Q (.ref p) (upd H p (.lst ys))
def keyT (H : Hp) (v : V) : Int × Int := match v with
  | .ref t => (match H t with
    | some (.tup [.int a, .int b]) => (a, b)
    | _ => (0, 0))
  | _ => (0, 0)
theorem keyT_tie {H : Hp} {v : V} {t : Nat × Nat} (h : TieH H v t) : keyT H v = ((t.1 : Int), (t.2 : Int)) := by
  obtain ⟨a, rfl, ha⟩ := h
  unfold keyT
  simp only
  rw [ha]
def natT (k : Int × Int) : Nat × Nat := (k.1.toNat, k.2.toNat)
theorem paired_map {H : Hp} : ∀ {xs : List V} {ts : Ties}, Paired (TieH H) xs ts → ts = xs.map fun v => natT (keyT H v)
  | _, _, .nil => rfl
  | _, _, .cons h t => by
    rw [List.map_cons, ← paired_map t, keyT_tie h]
    rfl
theorem paired_of {H : Hp} : ∀ (ys : List V), (∀ y ∈ ys, TieH H y (natT (keyT H y))) → Paired (TieH H) ys (ys.map fun v => natT (keyT H v))
  | [], _ => .nil
  | y :: r, h => .cons (h y List.mem_cons_self) (paired_of r fun z hz => h z (List.mem_cons_of_mem _ hz))
theorem paired_mem {α β : Type} {G : α → β → Prop} : ∀ {xs : List α} {ts : List β}, Paired G xs ts → ∀ x ∈ xs, ∃ t ∈ ts, G x t
  | _, _, .nil, x, h => by simp at h
  | _, _, .cons g t, x, h => by
    rcases List.mem_cons.mp h with e | h
    · subst e
      exact ⟨_, List.mem_cons_self, g⟩
    · obtain ⟨t', h1, h2⟩ := paired_mem t x h
      exact ⟨t', List.mem_cons_of_mem _ h1, h2⟩
theorem cr_sortTies {X : Cx} : CallR X (.builtin "sorted") rSortT := by
  intro pins s σ H vs us Q I r h
  obtain ⟨a, xs, ts, rfl, ha, hp, q⟩ := h
  have hk : ∀ x ∈ xs, TieH H x (natT (keyT H x)) := fun x hx => by
    obtain ⟨t, _, ht⟩ := paired_mem hp x hx
    rw [keyT_tie ht]
    show TieH H x (((t.1 : Int)).toNat, ((t.2 : Int)).toNat)
    simp only [Int.toNat_natCast]
    exact ht
  refine cr_sortedPO pins s σ H _ us Q I r ⟨a, xs, keyT H, rfl, SqL.of ha, fun x hx => ?_, fun ys p h1 h2 np => ?_⟩
  · obtain ⟨t, _, ht⟩ := paired_mem hp x hx
    obtain ⟨b, rfl, hb⟩ := id ht
    rw [keyT_tie ht]
    exact ⟨b, rfl, hb⟩
  · have hm : ∀ y ∈ ys, y ∈ xs := fun y hy => h2.perm.mem_iff.mp hy
    refine q ys _ p (paired_of ys fun y hy => hk y (hm y hy)) ?_ ?_ np
    · rw [paired_map hp]
      exact h2.perm.map _
    · rw [List.pairwise_map]
      refine h1.imp_of_mem fun {x y} hx hy h => ?_
      obtain ⟨t, _, ht⟩ := paired_mem hp x (hm x hx)
      obtain ⟨u, _, hu⟩ := paired_mem hp y (hm y hy)
      have h : SrtO.lexB (keyT H y) (keyT H x) = false := h
      rw [keyT_tie ht, keyT_tie hu]
      rw [keyT_tie ht, keyT_tie hu] at h
      show tle (((t.1 : Int)).toNat, ((t.2 : Int)).toNat) (((u.1 : Int)).toNat, ((u.2 : Int)).toNat)
      simp only [Int.toNat_natCast]
      have h' : ¬ ((u.1 : Int) < (t.1 : Int) ∨ ((u.1 : Int) = (t.1 : Int) ∧ (u.2 : Int) < (t.2 : Int))) := fun z => by
        rw [SrtO.lexB_iff.mpr z] at h
        cases h
      unfold tle
      show t.1 < u.1 ∨ (t.1 = u.1 ∧ t.2 ≤ u.2)
      omega
section
variable {P : Program} {w : World} {K : PySem.W.Frag} {mg : Str → Option Value} {base : Heap} {f : Addr} {fd : FuncData}
/-! ### row_ties -/
abbrev sRowT : Stmt := topS 26
theorem scRowT : FnScope ["n", "place"] ["n"] (defScope sRowT) := ⟨rfl, rfl, rfl, by decide +kernel, rfl, by decide +kernel, by decide +kernel⟩
def spRowT : Sp := fun vs H Q _ => ∃ n : Nat, vs = [nV n] ∧ 1 ≤ n ∧ n ≤ 8 ∧ ∀ H' a, Same H H' → H a = none → TiesH H' a (rowTies n) → Q (.ref a) H'
theorem ok_rowt (F : Fun K "row_ties" "row_ties" sRowT f fd) (T : Txt mg) : FnOk P w K mg base CX0 1 f fd ["n"] spRowT := by
  refine F.ok scRowT (fun vs H Q E h => ?_) (fun cdv A outer s H vs Q E hr h => ?_)
  · obtain ⟨n, rfl, _⟩ := h
    rfl
  · obtain ⟨n, rfl, h1, h2, k⟩ := h
    refine ⟨_, pss_one (ps_ret (pe_lc (own := [("place", 1)]) (g := gName 1) (by rfl) scRowT.nd (pi_range1 (by rfl) T.range (pa_cons (pe_op op_sub (pv 0) pe_int) pa_nil))
        (blkOk_by (own := [("place", 1)]) (N := ["n", "place"]) (sc := defScope sRowT) (by decide +kernel))
        (fun _ _ _ _ _ => pg_name (i := 1) scRowT.nd rfl (Or.inl rfl)) (fun _ _ _ _ _ => pts_nil)
        (fun _ _ _ _ _ => pe_tup (pa_cons (pv 1) (pa_cons (pe_op op_add (pv 1) pe_int) pa_nil))))), ?_⟩
    refine ⟨_, rfl, _, _, rfl, rfl, _, rfl, by omega, by omega, ?_⟩
    have e : ((n : Int) - 1).toNat = n - 1 := by omega
    rw [e]
    intro D nD
    refine lc_range (lo := 0) (n := n - 1) (fun i H' => Same H H' ∧ ∃ us, H' D = some (.lst us) ∧ Paired (TieH H') us ((List.range i).map fun k => (k, k + 1))) ⟨same_upd nD, [], upd_same, .nil⟩ ?_ ?_
    · rintro i H' hi ⟨s', us, hD, hp⟩
      rw [Int.zero_add]
      refine ⟨rfl, yes_t ?_⟩
      refine ⟨_, rfl, _, rfl, _, _, rfl, rfl, by show 2 ≤ sizeLine; decide, fun t nt => ?_⟩
      have hl := Paired.length hp
      rw [List.length_map, List.length_range] at hl
      refine ⟨us, same_upd nt _ _ hD, small1000 (by omega), same_new (L2.Same.trans s' (same_upd nt)) nD, _, upd_same, ?_⟩
      rw [List.range_succ, List.map_append]
      exact ties_snoc hD hp nt rfl (by show V.int ((i : Int) + 1) = V.int ((i + 1 : Nat) : Int); rw [Int.natCast_add]; rfl)
    · rintro H' ⟨s', us, hD, hp⟩
      exact k H' D s' nD ⟨us, hD, hp⟩
/-! ### row -/
abbrev sRow : Stmt := topS 27
theorem scRow : FnScope ["n"] ["n"] (defScope sRow) := ⟨rfl, rfl, rfl, by decide +kernel, rfl, by decide +kernel, by decide +kernel⟩
def spRow (K : PySem.W.Frag) : Sp := fun vs H Q _ => ∃ n : Nat, vs = [nV n] ∧ 1 ≤ n ∧ n ≤ 8 ∧ ∀ H' a, Same H H' → WebAt K H' (.ref a) n (rowTies n) → Q (.ref a) H'
theorem ok_row (F : Fun K "row" "row" sRow f fd) (T : Txt mg) (DN : Df P w K mg base 3 "must_number" ["number", "low", "high"] spNumber) (DR : Df P w K mg base 1 "row_ties" ["n"] spRowT) : FnOk P w K mg base CX0 4 f fd ["n"] (spRow K) := by
  refine F.ok scRow (fun vs H Q E h => ?_) (fun cdv A outer s H vs Q E hr h => ?_)
  · obtain ⟨n, rfl, _⟩ := h
    rfl
  · obtain ⟨n, rfl, h1, h2, k⟩ := h
    obtain ⟨tm, hm⟩ := T.most
    refine ⟨_, pss_cons (ps_expr (pe_df DN hr (by rfl) (pa_cons (pv 0) (pa_cons pe_int (pa_cons (pe_glob (v := .int 8) (by rfl) hm ⟨_, rfl⟩) pa_nil)))))
      (pss_one (ps_ret (pe_tup (pa_cons (pv 0) (pa_cons (pe_callTy call_tuple_of (by rfl) T.tuple PyProof.Rows.boot_tuple (pa_cons (pe_df DR (hr.mono (by decide)) (by rfl) (pa_cons (pv 0) pa_nil)) pa_nil)) pa_nil))))), ?_⟩
    refine ⟨_, rfl, _, _, _, rfl, by omega, by omega, ?_⟩
    refine ⟨_, rfl, _, rfl, n, rfl, h1, h2, fun H1 a s1 na ⟨us, ha, hp⟩ => ?_⟩
    refine ⟨a, us, rfl, .inl ⟨SqL.of ha, fun l nl => ?_⟩⟩
    refine ⟨by show 2 ≤ sizeLine; decide, fun p np => ?_⟩
    exact k _ p (L2.Same.trans s1 (L2.Same.trans (same_upd nl) (same_upd np))) (web_new hp nl np)
/-! ### ring -/
abbrev sRing : Stmt := topS 28
theorem scRing : FnScope ["n"] ["n"] (defScope sRing) := ⟨rfl, rfl, rfl, by decide +kernel, rfl, by decide +kernel, by decide +kernel⟩
def spRing (K : PySem.W.Frag) : Sp := fun vs H Q _ => ∃ n : Nat, vs = [nV n] ∧ 3 ≤ n ∧ n ≤ 8 ∧ ∀ H' a, Same H H' → WebAt K H' (.ref a) n (ringTies n) → Q (.ref a) H'
theorem ok_ring (F : Fun K "ring" "ring" sRing f fd) (T : Txt mg) (DN : Df P w K mg base 3 "must_number" ["number", "low", "high"] spNumber) (DR : Df P w K mg base 1 "row_ties" ["n"] spRowT) : FnOk P w K mg base CX0 4 f fd ["n"] (spRing K) := by
  refine F.ok scRing (fun vs H Q E h => ?_) (fun cdv A outer s H vs Q E hr h => ?_)
  · obtain ⟨n, rfl, _⟩ := h
    rfl
  · obtain ⟨n, rfl, h1, h2, k⟩ := h
    obtain ⟨tm, hm⟩ := T.most
    refine ⟨_, pss_cons (ps_expr (pe_df DN hr (by rfl) (pa_cons (pv 0) (pa_cons pe_int (pa_cons (pe_glob (v := .int 8) (by rfl) hm ⟨_, rfl⟩) pa_nil)))))
      (pss_one (ps_ret (pe_tup (pa_cons (pv 0) (pa_cons (pe_callTy call_tuple_of (by rfl) T.tuple PyProof.Rows.boot_tuple (pa_cons
        (pe_callB cr_sortTies (by rfl) T.sorted boot_sorted (pa_cons (pe_op op_cat (pe_df DR (hr.mono (by decide)) (by rfl) (pa_cons (pv 0) pa_nil))
          (pe_lst (pa_cons (pe_tup (pa_cons pe_int (pa_cons (pe_op op_sub (pv 0) pe_int) pa_nil))) pa_nil))) pa_nil)) pa_nil)) pa_nil))))), ?_⟩
    refine ⟨_, rfl, _, _, _, rfl, by omega, by omega, ?_⟩
    refine ⟨_, rfl, _, rfl, n, rfl, by omega, h2, fun H1 a s1 na ⟨us, ha, hp⟩ => ?_⟩
    refine ⟨_, rfl, _, _, rfl, rfl, by show 2 ≤ sizeLine; decide, fun t nt => ?_⟩
    have en : V.int ((n : Int) - 1) = nV (n - 1) := by
      show V.int ((n : Int) - 1) = V.int ((n - 1 : Nat) : Int)
      congr 1
      omega
    have s2 : Same H1 (upd H1 t (.tup [V.int 0, V.int ((n : Int) - 1)])) := same_upd nt
    refine ⟨by show 1 ≤ sizeLine; decide, fun l nl => ?_⟩
    have s3 : Same (upd H1 t (.tup [V.int 0, V.int ((n : Int) - 1)])) (upd (upd H1 t (.tup [V.int 0, V.int ((n : Int) - 1)])) l (.lst [.ref t])) := same_upd nl
    have hl := Paired.length hp
    have hrl : (rowTies n).length ≤ 8 := by
      unfold Wb.rowTies
      rw [List.length_map, List.length_range]
      omega
    refine ⟨a, l, us, [.ref t], rfl, rfl, s3 _ _ (s2 _ _ ha), upd_same, Nat.le_of_lt (small1000 (by rw [List.length_singleton]; omega)), fun c nc => ?_⟩
    have s4 : Same H1 (upd (upd (upd H1 t (.tup [V.int 0, V.int ((n : Int) - 1)])) l (.lst [.ref t])) c (.lst (us ++ [.ref t]))) := L2.Same.trans (L2.Same.trans s2 s3) (same_upd nc)
    have ht : (upd (upd (upd H1 t (.tup [V.int 0, V.int ((n : Int) - 1)])) l (.lst [.ref t])) c (.lst (us ++ [.ref t]))) t = some (.tup [nV 0, nV (n - 1)]) := by
      rw [← en]
      exact (same_upd nc) _ _ (s3 _ _ upd_same)
    refine ⟨c, _, rowTies n ++ [(0, n - 1)], rfl, upd_same, Paired.snoc (Paired.mapP hp fun _ _ z => z.same s4) ⟨t, rfl, ht⟩, fun ys out p hy ho hs np => ?_⟩
    obtain ⟨_, _, q3, q4⟩ := Wb.ring_list (n := n) (by omega) h2
    have eo : out = ringTies n := Wb.sorted_eq ho hs q3 q4
    subst eo
    have s5 := same_upd (o := .lst ys) np
    refine ⟨p, _, rfl, .inl ⟨SqL.of upd_same, fun l2 nl2 => ?_⟩⟩
    refine ⟨by show 2 ≤ sizeLine; decide, fun p2 np2 => ?_⟩
    exact k _ p2 (L2.Same.trans s1 (L2.Same.trans (L2.Same.trans s4 s5) (L2.Same.trans (same_upd nl2) (same_upd np2)))) (web_new (Paired.mapP hy fun _ _ z => z.same s5) nl2 np2)
end
end K5
namespace K5
open PySem PySem.Spec PyProof.Rows L2
open Wb (WebOk Ties tlt tle adj nearTo bfs fresh srt piece piecesLeft rowTies ringTies pairsOf pairs sidesOf sidesTies moved)
/-! ### a comprehension's scope, by its place in the text -/
def noE : Expr := .Constant .none 0 ⟨0, 0, 0, 0⟩
def lcScope : Expr → Scope
  | .ListComp _ _ sc _ => sc
  | _ => { kind := .function, names := [], isGenerator := false, isCoroutine := false }
def retE : Stmt → Expr
  | .Return (some e) _ => e
  | _ => noE
def kidE (i : Nat) : Expr → Expr
  | .Call _ as _ _ => as.getD i noE
  | .Tuple es _ _ => es.getD i noE
  | .Compare a _ _ _ => a
  | .ListComp e _ _ _ => e
  | _ => noE
def bodyAt (s : Stmt) (i : Nat) : Stmt := (defBody s).getD i (.Pass ⟨0, 0, 0, 0⟩)
/-! ### lists of lists of new ties -/
def RowH (D : Addr) (H : Hp) (v : V) (ts : Ties) : Prop := ∃ p, v = V.ref p ∧ p ≠ D ∧ TiesH H p ts
theorem rows_snoc {H : Hp} {D D2 : Addr} {us : List V} {tss : List Ties} {ts : Ties} (hD : H D = some (.lst us)) (hp : Paired (RowH D H) us tss) (ne : D2 ≠ D) (ht : TiesH H D2 ts) :
    Paired (RowH D (upd H D (.lst (us ++ [.ref D2])))) (us ++ [.ref D2]) (tss ++ [ts]) := by
  refine Paired.snoc (Paired.mapP hp fun v t z => ?_) ⟨D2, rfl, ne, ht.x upd_x hD ne⟩
  obtain ⟨p, e, np, h⟩ := z
  exact ⟨p, e, np, h.x upd_x hD np⟩
theorem rows_same {H H' : Hp} {D : Addr} {us : List V} {tss : List Ties} (hp : Paired (RowH D H) us tss) (s : Same H H') : Paired (RowH D H') us tss :=
  Paired.mapP hp fun _ _ ⟨p, e, np, h⟩ => ⟨p, e, np, h.same s⟩
theorem paired_app {α β : Type} {G : α → β → Prop} : ∀ {l₁ m₁ : List α} {l₂ m₂ : List β}, Paired G l₁ l₂ → Paired G m₁ m₂ → Paired G (l₁ ++ m₁) (l₂ ++ m₂)
  | _, _, _, _, .nil, h => h
  | _, _, _, _, .cons g t, h => .cons g (paired_app t h)
theorem rows_flat {H : Hp} {D : Addr} : ∀ {us : List V} {tss : List Ties}, Paired (RowH D H) us tss →
    ∃ xss : List (List V), Paired (fun x ys => ∃ p, x = V.ref p ∧ H p = some (.lst ys)) us xss ∧ Paired (TieH H) xss.flatten tss.flatten
  | _, _, .nil => ⟨[], .nil, .nil⟩
  | _, _, .cons ⟨p, e, _, ws, hw, hp⟩ t => by
    obtain ⟨xss, h1, h2⟩ := rows_flat t
    refine ⟨ws :: xss, .cons ⟨p, e, hw⟩ h1, ?_⟩
    rw [List.flatten_cons, List.flatten_cons]
    exact paired_app hp h2
/-- sum(rows, start=[]) of rows of new ties -/
def rSumT : List V → List V → Hp → VK → Prop := fun vs zs H Q => ∃ (a b D : Addr) (xs : List V) (tss : List Ties), vs = [.ref a] ∧ zs = [.ref b] ∧ H a = some (.lst xs) ∧ H b = some (.lst []) ∧ xs ≠ [] ∧
  Paired (RowH D H) xs tss ∧ tss.flatten.length ≤ 64 ∧ ∀ p us, H p = none → Paired (TieH H) us tss.flatten → Q (.ref p) (upd H p (.lst us))
theorem cr_sumT {X : Cx} (hc : X.calm = true) : CallRK X (.builtin "sum") [Str.ofString "start"] rSumT := by
  intro pins s σ H vs zs us ws Q I r rz h
  obtain ⟨a, b, D, xs, tss, rfl, rfl, ha, hb, hne, hp, hz, q⟩ := h
  obtain ⟨xss, h1, h2⟩ := rows_flat hp
  have hl := Paired.length h2
  exact cr_sumL hc pins s σ H _ _ us ws Q I r rz ⟨a, b, xs, xss, rfl, rfl, ha, hb, hne, h1, Nat.le_of_lt (small1000 (by omega)), fun p np => q p _ np h2⟩
theorem pgT (K : PySem.W.Frag) {X : Cx} {es : List Expr} {k : Nat} {pos : Pos} {t : TGs} {n : Nat} (hc : X.calm = true) (h : PGs X es t) (hk : X.K = K := by rfl)
    (hn : (assignEach es X.env).length = n := by rfl) (hst : (assignEach es X.env).findIdx? (·.1) = none := by rfl) : PG X (.Tuple es k pos) (gTup K n t) := by
  subst hk
  exact pg_tup hc h hn hst
theorem upd_get {H : Hp} {a b : Addr} {o u : HO} (h : H b = some u) (n : H a = none) : upd H a o b = some u := (same_upd n) _ _ h
section
variable {P : Program} {w : World} {K : PySem.W.Frag} {mg : Str → Option Value} {base : Heap} {f : Addr} {fd : FuncData}
/-! ### full -/
abbrev sFull : Stmt := topS 29
abbrev lcFull : Expr := kidE 0 (kidE 0 (kidE 1 (retE (bodyAt sFull 1))))
theorem scFull : FnScope ["n", "one", "other"] ["n"] (defScope sFull) := ⟨rfl, rfl, rfl, by decide +kernel, rfl, by decide +kernel, by decide +kernel⟩
def spFull (K : PySem.W.Frag) : Sp := fun vs H Q _ => ∃ n : Nat, vs = [nV n] ∧ 1 ≤ n ∧ n ≤ 8 ∧ ∀ H' a, Same H H' → WebAt K H' (.ref a) n (pairs n) → Q (.ref a) H'
theorem ok_full (F : Fun K "full" "full" sFull f fd) (T : Txt mg) (DN : Df P w K mg base 3 "must_number" ["number", "low", "high"] spNumber) : FnOk P w K mg base CX0 4 f fd ["n"] (spFull K) := by
  refine F.ok scFull (fun vs H Q E h => ?_) (fun cdv A outer s H vs Q E hr h => ?_)
  · obtain ⟨n, rfl, _⟩ := h
    rfl
  · obtain ⟨n, rfl, h1, h2, k⟩ := h
    obtain ⟨tm, hm⟩ := T.most
    refine ⟨_, pss_cons (ps_expr (pe_df DN hr (by rfl) (pa_cons (pv 0) (pa_cons pe_int (pa_cons (pe_glob (v := .int 8) (by rfl) hm ⟨_, rfl⟩) pa_nil)))))
      (pss_one (ps_ret (pe_tup (pa_cons (pv 0) (pa_cons (pe_callTy call_tuple_of (by rfl) T.tuple PyProof.Rows.boot_tuple (pa_cons
        (pe_callBK (cr_sumT rfl) (by rfl) T.sum boot_sum (pa_cons
          (pe_lc (own := [("one", 1)]) (g := gName 1) (by rfl) scFull.nd (pi_range1 (by rfl) T.range (pa_cons (pv 0) pa_nil))
            (blkOk_by (own := [("one", 1)]) (N := ["n", "one", "other"]) (sc := defScope sFull) (by decide +kernel))
            (fun _ _ _ _ _ => pg_name (i := 1) scFull.nd rfl (Or.inr rfl)) (fun _ _ _ _ _ => pts_nil)
            (fun _ _ _ _ _ => pe_lc (own := [("other", 2)]) (g := gName 2) (by rfl) scFull.nd (pi_range2 (by rfl) T.range (pa_cons (pe_op op_add (pv 1) pe_int) (pa_cons (pv 0) pa_nil)))
              (blkOk_by (own := [("other", 2)]) (N := ["n", "one", "other"]) (sc := relS (lcScope lcFull) (defScope sFull)) (by decide +kernel))
              (fun _ _ _ _ _ => pg_name (i := 2) scFull.nd rfl (Or.inl rfl)) (fun _ _ _ _ _ => pts_nil)
              (fun _ _ _ _ _ => pe_tup (pa_cons (pv 1) (pa_cons (pv 2) pa_nil))))) pa_nil) (pk_cons (pe_lst pa_nil) pk_nil)) pa_nil)) pa_nil))))), ?_⟩
    refine ⟨_, rfl, _, _, _, rfl, by omega, by omega, ?_⟩
    refine ⟨_, rfl, _, rfl, _, rfl, by omega, by omega, fun D nD => ?_⟩
    refine lc_range (lo := 0) (n := n) (fun i H' => Same H H' ∧ ∃ us, H' D = some (.lst us) ∧ Paired (RowH D H') us ((List.range i).map fun one => pairsOf one n)) ⟨same_upd nD, [], upd_same, .nil⟩ ?_ ?_
    · rintro i H' hi ⟨s', us, hD, hp⟩
      rw [Int.zero_add]
      have hlu := Paired.length hp
      rw [List.length_map, List.length_range] at hlu
      refine ⟨rfl, yes_t ?_⟩
      refine ⟨_, rfl, _, _, rfl, rfl, _, rfl, _, _, rfl, ⟨by omega, by omega, by omega, by omega⟩, ?_⟩
      have en : ((n : Int) - ((i : Int) + 1)).toNat = n - (i + 1) := by omega
      rw [en]
      intro D2 nD2
      have ne2 : D2 ≠ D := fun z => by
        rw [z, hD] at nD2
        cases nD2
      refine lc_range (lo := (i : Int) + 1) (n := n - (i + 1)) (fun j H2 => Same H' H2 ∧ ∃ ws, H2 D2 = some (.lst ws) ∧ Paired (TieH H2) ws ((List.range j).map fun m => (i, i + 1 + m))) ⟨same_upd nD2, [], upd_same, .nil⟩ ?_ ?_
      · rintro j H2 hj ⟨s2, ws, hD2, hp2⟩
        refine ⟨rfl, yes_t ?_⟩
        refine ⟨_, rfl, _, rfl, by show 2 ≤ sizeLine; decide, fun t nt => ?_⟩
        have hl := Paired.length hp2
        rw [List.length_map, List.length_range] at hl
        refine ⟨ws, upd_get hD2 nt, small1000 (by omega), same_new (L2.Same.trans s2 (same_upd nt)) nD2, _, upd_same, ?_⟩
        rw [List.range_succ, List.map_append]
        exact ties_snoc hD2 hp2 nt rfl (by show V.int ((i : Int) + 1 + (j : Nat)) = V.int ((i + 1 + j : Nat) : Int); congr 1)
      · rintro H2 ⟨s2, ws, hD2, hp2⟩
        refine ⟨us, s2 _ _ hD, small1000 (by omega), same_new (L2.Same.trans s' s2) nD, _, upd_same, ?_⟩
        rw [List.range_succ, List.map_append]
        exact rows_snoc (s2 _ _ hD) (rows_same hp s2) ne2 ⟨ws, hD2, hp2⟩
    · rintro H1 ⟨s1, us, hD, hp⟩
      have hlu := Paired.length hp
      rw [List.length_map, List.length_range] at hlu
      refine ⟨Nat.zero_le _, fun b nb => ?_⟩
      have s2 : Same H1 (upd H1 b (.lst [])) := same_upd nb
      refine ⟨D, b, D, us, _, rfl, rfl, s2 _ _ hD, upd_same, fun z => ?_, rows_same hp s2, (Wb.full_ok h1 h2).len, fun p ws np hw => ?_⟩
      · rw [z] at hlu
        have : (0 : Nat) = n := hlu
        omega
      · have s3 := same_upd (o := .lst ws) np
        refine ⟨p, ws, rfl, .inl ⟨SqL.of upd_same, fun l nl => ?_⟩⟩
        refine ⟨by show 2 ≤ sizeLine; decide, fun p2 np2 => ?_⟩
        exact k _ p2 (L2.Same.trans (L2.Same.trans (L2.Same.trans s1 s2) s3) (L2.Same.trans (same_upd nl) (same_upd np2))) (web_new (Paired.mapP hw fun _ _ z => z.same s3) nl np2)
/-! ### sides_web -/
abbrev sSides : Stmt := topS 30
abbrev lcSides : Expr := kidE 0 (kidE 0 (kidE 1 (retE (bodyAt sSides 3))))
theorem scSides : FnScope ["a", "b", "one", "other"] ["a", "b"] (defScope sSides) := ⟨rfl, rfl, rfl, by decide +kernel, rfl, by decide +kernel, by decide +kernel⟩
def spSides (K : PySem.W.Frag) : Sp := fun vs H Q _ => ∃ n : Nat, vs = [nV n, nV (8 - n)] ∧ 1 ≤ n ∧ n ≤ 7 ∧ ∀ H' a, Same H H' → WebAt K H' (.ref a) 8 (sidesTies n (8 - n)) → Q (.ref a) H'
theorem ok_sides (F : Fun K "sides_web" "sides_web" sSides f fd) (T : Txt mg) (DF : Df P w K mg base 2 "is_from" ["thing", "low", "high"] spFrom) (DN : Df P w K mg base 3 "must_number" ["number", "low", "high"] spNumber) :
    FnOk P w K mg base CX0 4 f fd ["a", "b"] (spSides K) := by
  refine F.ok scSides (fun vs H Q E h => ?_) (fun cdv A outer s H vs Q E hr h => ?_)
  · obtain ⟨n, rfl, _⟩ := h
    rfl
  · obtain ⟨n, rfl, h1, h2, k⟩ := h
    obtain ⟨tm, hm⟩ := T.most
    refine ⟨_, pss_cons (ps_expr (pe_df DN hr (by rfl) (pa_cons (pv 0) (pa_cons pe_int (pa_cons (pe_glob (v := .int 8) (by rfl) hm ⟨_, rfl⟩) pa_nil)))))
      (pss_cons (ps_expr (pe_df DN hr (by rfl) (pa_cons (pv 1) (pa_cons pe_int (pa_cons (pe_glob (v := .int 8) (by rfl) hm ⟨_, rfl⟩) pa_nil)))))
      (pss_cons (ps_if (pt_not (pt_val (pe_df DF (hr.mono (by decide)) (by rfl) (pa_cons (pe_op op_add (pv 0) (pv 1)) (pa_cons pe_int (pa_cons (pe_glob (v := .int 8) (by rfl) hm ⟨_, rfl⟩) pa_nil)))))) (pss_one ps_never) pss_nil)
      (pss_one (ps_ret (pe_tup (pa_cons (pe_op op_add (pv 0) (pv 1)) (pa_cons (pe_callTy call_tuple_of (by rfl) T.tuple PyProof.Rows.boot_tuple (pa_cons
        (pe_callBK (cr_sumT rfl) (by rfl) T.sum boot_sum (pa_cons
          (pe_lc (own := [("one", 2)]) (g := gName 2) (by rfl) scSides.nd (pi_range1 (by rfl) T.range (pa_cons (pv 0) pa_nil))
            (blkOk_by (own := [("one", 2)]) (N := ["a", "b", "one", "other"]) (sc := defScope sSides) (by decide +kernel))
            (fun _ _ _ _ _ => pg_name (i := 2) scSides.nd rfl (Or.inr rfl)) (fun _ _ _ _ _ => pts_nil)
            (fun _ _ _ _ _ => pe_lc (own := [("other", 3)]) (g := gName 3) (by rfl) scSides.nd (pi_range1 (by rfl) T.range (pa_cons (pv 1) pa_nil))
              (blkOk_by (own := [("other", 3)]) (N := ["a", "b", "one", "other"]) (sc := relS (lcScope lcSides) (defScope sSides)) (by decide +kernel))
              (fun _ _ _ _ _ => pg_name (i := 3) scSides.nd rfl (Or.inl rfl)) (fun _ _ _ _ _ => pts_nil)
              (fun _ _ _ _ _ => pe_tup (pa_cons (pv 2) (pa_cons (pe_op op_add (pv 0) (pv 3)) pa_nil))))) pa_nil) (pk_cons (pe_lst pa_nil) pk_nil)) pa_nil)) pa_nil))))))), ?_⟩
    have e8 : (n : Int) + ((8 - n : Nat) : Int) = 8 := by omega
    refine ⟨_, rfl, _, _, _, rfl, by omega, by omega, ?_⟩
    refine ⟨_, rfl, _, _, _, rfl, by omega, by omega, ?_⟩
    refine ⟨_, rfl, _, rfl, _, _, rfl, rfl, _, _, _, rfl, _, rfl, ?_⟩
    refine ite_neg ?_ ?_
    · show (!(decide ((2 : Int) ≤ (n : Int) + ((8 - n : Nat) : Int)) && decide ((n : Int) + ((8 - n : Nat) : Int) ≤ 8))) = false
      rw [e8]
      rfl
    refine ⟨_, rfl, _, rfl, _, _, rfl, rfl, ?_⟩
    refine ⟨_, rfl, _, rfl, by omega, by omega, fun D nD => ?_⟩
    refine lc_range (lo := 0) (n := n) (fun i H' => Same H H' ∧ ∃ us, H' D = some (.lst us) ∧ Paired (RowH D H') us ((List.range i).map fun one => sidesOf n (8 - n) one)) ⟨same_upd nD, [], upd_same, .nil⟩ ?_ ?_
    · rintro i H' hi ⟨s', us, hD, hp⟩
      rw [Int.zero_add]
      have hlu := Paired.length hp
      rw [List.length_map, List.length_range] at hlu
      refine ⟨rfl, yes_t ?_⟩
      refine ⟨_, rfl, _, rfl, by omega, by omega, fun D2 nD2 => ?_⟩
      have ne2 : D2 ≠ D := fun z => by
        rw [z, hD] at nD2
        cases nD2
      refine lc_range (lo := 0) (n := 8 - n) (fun j H2 => Same H' H2 ∧ ∃ ws, H2 D2 = some (.lst ws) ∧ Paired (TieH H2) ws ((List.range j).map fun m => (i, n + m))) ⟨same_upd nD2, [], upd_same, .nil⟩ ?_ ?_
      · rintro j H2 hj ⟨s2, ws, hD2, hp2⟩
        rw [Int.zero_add]
        refine ⟨rfl, yes_t ?_⟩
        refine ⟨_, rfl, _, rfl, _, rfl, _, _, rfl, rfl, by show 2 ≤ sizeLine; decide, fun t nt => ?_⟩
        have hl := Paired.length hp2
        rw [List.length_map, List.length_range] at hl
        refine ⟨ws, upd_get hD2 nt, small1000 (by omega), same_new (L2.Same.trans s2 (same_upd nt)) nD2, _, upd_same, ?_⟩
        rw [List.range_succ, List.map_append]
        exact ties_snoc hD2 hp2 nt rfl (by show V.int ((n : Int) + (j : Nat)) = V.int ((n + j : Nat) : Int); congr 1)
      · rintro H2 ⟨s2, ws, hD2, hp2⟩
        refine ⟨us, s2 _ _ hD, small1000 (by omega), same_new (L2.Same.trans s' s2) nD, _, upd_same, ?_⟩
        rw [List.range_succ, List.map_append]
        exact rows_snoc (s2 _ _ hD) (rows_same hp s2) ne2 ⟨ws, hD2, hp2⟩
    · rintro H1 ⟨s1, us, hD, hp⟩
      have hlu := Paired.length hp
      rw [List.length_map, List.length_range] at hlu
      refine ⟨Nat.zero_le _, fun b nb => ?_⟩
      have s2 : Same H1 (upd H1 b (.lst [])) := same_upd nb
      refine ⟨D, b, D, us, _, rfl, rfl, s2 _ _ hD, upd_same, fun z => ?_, rows_same hp s2, (Wb.sides_ok h1 h2).len, fun p ws np hw => ?_⟩
      · rw [z] at hlu
        have : (0 : Nat) = n := hlu
        omega
      · have s3 := same_upd (o := .lst ws) np
        refine ⟨p, ws, rfl, .inl ⟨SqL.of upd_same, fun l nl => ?_⟩⟩
        refine ⟨by show 2 ≤ sizeLine; decide, fun p2 np2 => ?_⟩
        have e8' : V.int ((n : Int) + ((8 - n : Nat) : Int)) = nV 8 := by rw [e8]; rfl
        have key := k _ p2 (L2.Same.trans (L2.Same.trans (L2.Same.trans s1 s2) s3) (L2.Same.trans (same_upd nl) (same_upd np2))) (web_new (n := 8) (Paired.mapP hw fun _ _ z => z.same s3) nl np2)
        rw [← e8'] at key
        exact key
end
end K5
namespace K5
open PySem PySem.Spec PyProof.Rows L2
open Wb (WebOk Ties tlt tle adj nearTo bfs fresh srt piece piecesLeft rowTies ringTies pairsOf pairs sidesOf sidesTies moved)
/-! ### the pen -/
def PenAt (H : Hp) (a : Addr) : Prop := ∃ x g : Int, H a = some (.lst [.int x, .int g])
theorem PenAt.same {H H' : Hp} {a : Addr} (h : PenAt H a) (s : Same H H') : PenAt H' a := let ⟨x, g, e⟩ := h; ⟨x, g, s _ _ e⟩
theorem PenAt.keep {K : PySem.W.Frag} {H H' : Hp} {a : Addr} (h : PenAt H a) (s : SameX a H H') : KeepT K H H' := let ⟨x, g, e⟩ := h; s.keep e
theorem PenAt.none {H H' : Hp} {a p : Addr} (h : PenAt H' a) (s : SameX a H H') (n : H' p = Option.none) : H p = Option.none := let ⟨x, g, e⟩ := h; samex_none s e n
theorem PenAt.ne {H : Hp} {a p : Addr} (h : PenAt H a) (n : H p = Option.none) : p ≠ a := let ⟨x, g, e⟩ := h; fun z => by
  rw [z, e] at n
  cases n
theorem PenAt.tie {H H' : Hp} {a : Addr} {v : V} {t : Nat × Nat} (h : PenAt H a) (s : SameX a H H') (z : TieH H v t) : TieH H' v t := let ⟨x, g, e⟩ := h; z.x s e
theorem penx_new {q : Addr} {H H' : Hp} {p : Addr} {o : HO} (e : SameX q H H') (n : H p = none) : SameX q H (upd H' p o) := samex_new e n
theorem flat_len {g : Nat → Ties} {c : Nat} (h : ∀ x, (g x).length ≤ c) : ∀ i, ((List.range i).map g).flatten.length ≤ i * c
  | 0 => Nat.zero_le _
  | i + 1 => by
    rw [List.range_succ, List.map_append, List.flatten_append, List.length_append]
    have h1 := flat_len h i
    have h2 : (List.map g [i]).flatten.length ≤ c := by
      show ((g i) ++ []).length ≤ c
      rw [List.append_nil]
      exact h i
    rw [Nat.succ_mul]
    omega
theorem pairsOf_len (n x : Nat) (hn : n ≤ 8) : (pairsOf x n).length ≤ 8 := by
  unfold Wb.pairsOf
  rw [List.length_map, List.length_range]
  omega
theorem sub_snoc {α : Type} {ts l : List α} {j : Nat} {t : α} (h : ts.Sublist (l.take j)) (e : l[j]? = some t) : (ts ++ [t]).Sublist (l.take (j + 1)) := by
  rw [List.take_add_one, e]
  exact h.append (List.Sublist.refl _)
theorem sub_skip {α : Type} {ts l : List α} {j : Nat} (h : ts.Sublist (l.take j)) : ts.Sublist (l.take (j + 1)) := by
  rw [List.take_add_one]
  exact h.trans (List.sublist_append_left _ _)
section
variable {P : Program} {w : World} {K : PySem.W.Frag} {mg : Str → Option Value} {base : Heap} {f : Addr} {fd : FuncData}
/-! ### beside -/
abbrev sBeside : Stmt := topS 31
theorem scBeside : FnScope ["web", "other", "one", "two"] ["web", "other"] (defScope sBeside) := ⟨rfl, rfl, rfl, by decide +kernel, rfl, by decide +kernel, by decide +kernel⟩
def spBeside (K : PySem.W.Frag) : Sp := fun vs H Q _ => ∃ (v u : V) (n m : Nat) (ts us : Ties), vs = [v, u] ∧ WebAt K H v n ts ∧ WebAt K H u m us ∧ WebOk n ts ∧ WebOk m us ∧ n + m ≤ 8 ∧ ∀ H' a, Same H H' → WebAt K H' (.ref a) (n + m) (ts ++ moved n us) → Q (.ref a) H'
theorem ok_beside (F : Fun K "beside" "beside" sBeside f fd) (T : Txt mg) (DW : Df P w K mg base 5 "must_web" ["web"] (spMustWeb K)) : FnOk P w K mg base CX0 6 f fd ["web", "other"] (spBeside K) := by
  refine F.ok scBeside (fun vs H Q E h => ?_) (fun cdv A outer s H vs Q E hr h => ?_)
  · obtain ⟨v, u, n, m, ts, us, rfl, _⟩ := h
    rfl
  · obtain ⟨v, u, n, m, ts, us, rfl, hw, hu, ok1, ok2, h8, k⟩ := h
    obtain ⟨tm, hm⟩ := T.most
    refine ⟨_, pss_cons (ps_expr (pe_df DW hr (by rfl) (pa_cons (pv 0) pa_nil))) (pss_cons (ps_expr (pe_df DW hr (by rfl) (pa_cons (pv 1) pa_nil)))
      (pss_cons (ps_if (pt_cmpR op_gt (pe_op op_add (pe_ix ix_tup (pv 0) pe_int (fun _ _ => rfl)) (pe_ix ix_tup (pv 1) pe_int (fun _ _ => rfl))) (pe_glob (v := .int 8) (by rfl) hm ⟨_, rfl⟩) (nomark _)) (pss_one ps_never) pss_nil)
      (pss_one (ps_ret (pe_tup (pa_cons (pe_op op_add (pe_ix ix_tup (pv 0) pe_int (fun _ _ => rfl)) (pe_ix ix_tup (pv 1) pe_int (fun _ _ => rfl))) (pa_cons
        (pe_op op_catA (pe_ix ix_tup (pv 0) pe_int (fun _ _ => rfl)) (pe_callTy call_tuple_of (by rfl) T.tuple PyProof.Rows.boot_tuple (pa_cons
          (pe_lc (own := [("one", 2), ("two", 3)]) (g := gTup K 2 (gCons (gName 2) (gCons (gName 3) gNil))) (by rfl) scBeside.nd (pi_tup (pe_ix ix_tup (pv 1) pe_int (fun _ _ => rfl)))
            (blkOk_by (own := [("one", 2), ("two", 3)]) (N := ["web", "other", "one", "two"]) (sc := defScope sBeside) (by decide +kernel))
            (fun _ _ _ _ _ => pgT K rfl (pgs_cons (pg_name (i := 2) scBeside.nd rfl (.inl rfl)) (pgs_cons (pg_name (i := 3) scBeside.nd rfl (.inl rfl)) pgs_nil))) (fun _ _ _ _ _ => pts_nil)
            (fun _ _ _ _ _ => pe_tup (pa_cons (pe_op op_add (pe_ix (ixT K) (pv 0) pe_int (fun _ _ => rfl)) (pv 2)) (pa_cons (pe_op op_add (pe_ix (ixT K) (pv 0) pe_int (fun _ _ => rfl)) (pv 3)) pa_nil)))) pa_nil))) pa_nil))))))), ?_⟩
    refine ⟨_, rfl, v, n, ts, rfl, hw, ok1, fun H0 s0 => ?_⟩
    refine ⟨_, rfl, u, m, us, rfl, hu.keep (keep_same s0), ok2, fun H1 s01 => ?_⟩
    have s1 : Same H H1 := L2.Same.trans s0 s01
    obtain ⟨a, b, rfl, ha, ws, hb, hp⟩ := hw.keep (keep_same s1)
    obtain ⟨c, d, rfl, hc, zs, hd, hq⟩ := hu.keep (keep_same s1)
    refine ⟨_, rfl, a, _, _, _, rfl, rfl, ha, at_nat (j := 0) rfl rfl, _, rfl, c, _, _, _, rfl, rfl, hc, at_nat (j := 0) rfl rfl, _, _, rfl, rfl, _, _, rfl, rfl, _, rfl, ?_⟩
    refine ite_neg (decide_eq_false (by omega)) ?_
    refine ⟨_, rfl, a, _, _, _, rfl, rfl, ha, at_nat (j := 0) rfl rfl, _, rfl, c, _, _, _, rfl, rfl, hc, at_nat (j := 0) rfl rfl, _, _, rfl, rfl, ?_⟩
    have fin : ∀ H3 b', Same H H3 → TiesAt K H3 b' (ts ++ moved n us) → ∀ p, H3 p = none → Q (.ref p) (upd H3 p (.tup [V.int ((n : Int) + (m : Int)), .ref b'])) := fun H3 b' s3 h3 p np => by
      refine k _ p (L2.Same.trans s3 (same_upd np)) ⟨p, b', rfl, SqT.of ?_, h3.keep (keep_same (same_upd np))⟩
      rw [upd_same]
      rfl
    refine ⟨_, rfl, a, _, _, _, rfl, rfl, ha, at_nat (j := 1) rfl rfl, ?_⟩
    refine ⟨_, rfl, c, _, _, _, rfl, rfl, hc, at_nat (j := 1) rfl rfl, d, rfl, ⟨_, hd⟩, fun D nD => ?_⟩
    have hlq := Paired.length hq
    have hlu := ok2.len
    refine lc_tup (K := K) (a := d) (xs := zs) (fun j H2 => Same H1 H2 ∧ ∃ xs, H2 D = some (.lst xs) ∧ Paired (TieH H2) xs ((us.take j).map fun t => (n + t.1, n + t.2))) ⟨same_upd nD, [], upd_same, .nil⟩ (fun j H2 _ q => keep_same q.1 _ _ hd) ?_ ?_
    · rintro j x H2 hx ⟨s2, xs, hD, hxs⟩
      obtain ⟨t, ht, hxt⟩ := paired_get hq hx
      obtain ⟨td, rfl, htd⟩ := hxt.keep (keep_same s2)
      have ha2 := keep_same s2 _ _ ha
      refine ⟨td, [nV t.1, nV t.2], rfl, htd, rfl, nV t.1, [nV t.2], rfl, nV t.2, [], rfl, rfl, ?_⟩
      refine ⟨rfl, yes_t ?_⟩
      refine ⟨_, rfl, a, _, _, _, rfl, rfl, ha2, at_nat (j := 0) rfl rfl, _, rfl, _, _, rfl, rfl, _, rfl, a, _, _, _, rfl, rfl, ha2, at_nat (j := 0) rfl rfl, _, rfl, _, _, rfl, rfl, by show 2 ≤ sizeLine; decide, fun t' nt => ?_⟩
      have hl := Paired.length hxs
      rw [List.length_map, List.length_take] at hl
      refine ⟨xs, upd_get hD nt, small1000 (by omega), same_new (L2.Same.trans s2 (same_upd nt)) nD, _, upd_same, ?_⟩
      rw [map_t ht]
      exact ties_snoc hD hxs nt rfl rfl
    · rintro H2 ⟨s2, xs, hD, hxs⟩
      rw [hlq, List.take_length] at hxs
      refine ⟨D, xs, rfl, .inl ⟨SqL.of hD, fun l nl => ?_⟩⟩
      have s3 : Same H2 (upd H2 l (.tup xs)) := same_upd nl
      have s4 : Same H (upd H2 l (.tup xs)) := L2.Same.trans s1 (L2.Same.trans s2 s3)
      have kb := keep_same (K := K) (L2.Same.trans s2 s3)
      have hl1 := Paired.length hp
      have hl2 := Paired.length hxs
      rw [List.length_map] at hl2
      have hl3 := ok1.len
      have hxs' : Paired (TieAt K (upd H2 l (.tup xs))) xs (moved n us) := Paired.mapP hxs fun _ _ z => (z.same s3).tie
      have hp' : Paired (TieAt K (upd H2 l (.tup xs))) ws ts := Paired.mapP hp fun _ _ z => z.keep kb
      refine ⟨b, l, ws, xs, rfl, rfl, kb _ _ hb, SqT.of upd_same, Nat.le_of_lt (small1000 (by omega)), fun e => ?_, fun _ e => ?_, fun _ _ p np => ?_⟩
      · refine ⟨by show 2 ≤ sizeLine; decide, fin _ _ s4 ⟨xs, SqT.of upd_same, ?_⟩⟩
        rw [e] at hp'
        cases hp'
        exact hxs'
      · refine ⟨by show 2 ≤ sizeLine; decide, fin _ _ s4 ⟨ws, kb _ _ hb, ?_⟩⟩
        rw [e] at hxs'
        have e2 : moved n us = [] := by
          generalize moved n us = z at hxs'
          cases hxs'
          rfl
        rw [e2, List.append_nil]
        exact hp'
      · have s5 := same_upd (o := .tup (ws ++ xs)) np
        refine ⟨by show 2 ≤ sizeLine; decide, fin _ _ (L2.Same.trans s4 s5) ⟨ws ++ xs, SqT.of upd_same, ?_⟩⟩
        exact Paired.mapP (paired_app hp' hxs') fun _ _ z => z.keep (keep_same s5)
/-! ### _law_draw -/
abbrev sDraw : Stmt := topS 33
theorem scDraw : FnScope ["_law_pen_here", "_law_many", "_law_found"] ["_law_pen_here", "_law_many"] (defScope sDraw) := ⟨rfl, rfl, rfl, by decide +kernel, rfl, by decide +kernel, by decide +kernel⟩
def spDraw : Sp := fun vs H Q _ => ∃ (a : Addr) (m : Nat), vs = [.ref a, nV m] ∧ PenAt H a ∧ 1 ≤ m ∧ m ≤ 100 ∧ ∀ H' v, SameX a H H' → PenAt H' a → v < m → Q (nV v) H'
theorem nat_of_mod (i : Int) {m : Nat} (h : 1 ≤ m) : ∃ v : Nat, v < m ∧ V.int (i % (m : Int)) = nV v := by
  have h1 : 0 ≤ i % (m : Int) := Int.emod_nonneg _ (by omega)
  have h2 : i % (m : Int) < (m : Int) := Int.emod_lt_of_pos _ (by omega)
  refine ⟨(i % (m : Int)).toNat, by omega, ?_⟩
  show V.int (i % (m : Int)) = V.int (((i % (m : Int)).toNat : Nat) : Int)
  rw [Int.toNat_of_nonneg h1]
theorem ok_draw (F : Fun K "_law_draw" "_law_draw" sDraw f fd) : FnOk P w K mg base CX0 1 f fd ["_law_pen_here", "_law_many"] spDraw := by
  refine F.ok scDraw (fun vs H Q E h => ?_) (fun cdv A outer s H vs Q E hr h => ?_)
  · obtain ⟨a, m, rfl, _⟩ := h
    rfl
  · obtain ⟨a, m, rfl, ⟨x, g, hH⟩, h1, h2, k⟩ := h
    refine ⟨_, pss_cons (ps_if (pt_cmpR op_eq (pe_ix ix_list (pv 0) pe_int (fun _ _ => rfl)) pe_int (nomark _))
        (pss_cons (ps_set (i := 2) scDraw.nd rfl (.inl rfl) (pe_op op_mod (pe_ix ix_list (pv 0) pe_int (fun _ _ => rfl)) (pv 1)))
        (pss_cons (ps_asg (pe_op op_fdivN (pe_ix ix_list (pv 0) pe_int (fun _ _ => rfl)) (pv 1)) (pg_sub (pv 0) pe_int set_list))
        (pss_one (ps_ret (pv 2))))) pss_nil)
      (pss_cons (ps_asg (pe_op op_mod (pe_op op_add (pe_op op_mul (pe_op op_mod (pe_ix ix_list (pv 0) pe_int (fun _ _ => rfl)) pe_int) pe_int) pe_int) pe_int) (pg_sub (pv 0) pe_int set_list))
      (pss_one (ps_ret (pe_op op_mod (pe_op op_fdiv (pe_op op_mod (pe_op op_add (pe_op op_mul (pe_ix ix_list (pv 0) pe_int (fun _ _ => rfl)) (pe_ix ix_list (pv 0) pe_int (fun _ _ => rfl)))
        (pe_op op_mul pe_int (pe_ix ix_list (pv 0) pe_int (fun _ _ => rfl)))) pe_int) pe_int) (pv 1))))), ?_⟩
    have hm : (0 : Int) < (m : Int) := by omega
    refine ⟨_, rfl, a, _, _, _, rfl, rfl, SqL.of hH, at_nat (j := 1) rfl rfl, rfl, _, rfl, ?_⟩
    refine ite2 (fun _ => ?_) (fun _ => ?_)
    · refine ⟨_, rfl, a, _, _, _, rfl, rfl, SqL.of hH, at_nat (j := 0) rfl rfl, _, rfl, _, _, rfl, rfl, hm, ?_⟩
      refine ⟨_, rfl, a, _, _, _, rfl, rfl, SqL.of hH, at_nat (j := 0) rfl rfl, _, rfl, _, _, rfl, rfl, ⟨by omega, by omega⟩, ?_⟩
      refine ⟨_, rfl, a, _, 0, 0, rfl, rfl, hH, rfl, ?_⟩
      obtain ⟨v, hv, ev⟩ := nat_of_mod x h1
      refine ⟨_, rfl, ?_⟩
      show Q (V.int (x % (m : Int))) _
      rw [ev]
      exact k _ v upd_x ⟨_, _, upd_same⟩ hv
    · refine ⟨_, rfl, a, _, _, _, rfl, rfl, SqL.of hH, at_nat (j := 0) rfl rfl, _, _, rfl, rfl, (by show (0 : Int) < 2147483629; decide), ?_⟩
      have b1 : 0 ≤ x % 2147483629 := Int.emod_nonneg _ (by decide)
      have b2 : x % 2147483629 < 2147483629 := Int.emod_lt_of_pos _ (by decide)
      refine ⟨_, _, rfl, rfl, .inl ⟨by omega, by omega⟩, _, _, rfl, rfl, _, _, rfl, rfl, (by show (0 : Int) < 2147483629; decide), ?_⟩
      refine ⟨_, rfl, a, _, 0, 0, rfl, rfl, hH, rfl, ?_⟩
      obtain ⟨y, ey⟩ : ∃ y, y = (x % 2147483629 * 48271 + 11) % 2147483629 := ⟨_, rfl⟩
      have c1 : 0 ≤ y := by rw [ey]; exact Int.emod_nonneg _ (by decide)
      have c2 : y < 2147483629 := by rw [ey]; exact Int.emod_lt_of_pos _ (by decide)
      have hH2 : (upd H a (.lst [.int ((x % 2147483629 * 48271 + 11) % 2147483629), .int g])) a = some (.lst [.int y, .int g]) := by
        rw [ey]
        exact upd_same
      refine ⟨_, rfl, a, _, _, _, rfl, rfl, SqL.of hH2, at_nat (j := 0) rfl rfl, _, rfl, a, _, _, _, rfl, rfl, SqL.of hH2, at_nat (j := 0) rfl rfl, _, _, rfl, rfl, .inl ⟨by omega, by omega⟩, ?_⟩
      refine ⟨_, rfl, a, _, _, _, rfl, rfl, SqL.of hH2, at_nat (j := 0) rfl rfl, _, _, rfl, rfl, .inl ⟨by decide, by decide⟩, _, _, rfl, rfl, _, _, rfl, rfl, (by show (0 : Int) < 2147483647; decide), _, _, rfl, rfl, ⟨by decide, by decide⟩, _, rfl, _, _, rfl, rfl, hm, ?_⟩
      obtain ⟨v, hv, ev⟩ := nat_of_mod ((y * y + 40692 * y) % 2147483647 / 8) h1
      show Q (V.int ((y * y + 40692 * y) % 2147483647 / 8 % (m : Int))) _
      rw [ev]
      exact k _ v upd_x ⟨_, _, upd_same⟩ hv
/-! ### _law_some -/
abbrev sSome : Stmt := topS 34
abbrev nmSome : List Str := ["_law_pen_here", "_law_many", "_law_often", "_law_place"]
theorem scSome : FnScope nmSome ["_law_pen_here", "_law_many"] (defScope sSome) := ⟨rfl, rfl, rfl, by decide +kernel, rfl, by decide +kernel, by decide +kernel⟩
def spSome (K : PySem.W.Frag) : Sp := fun vs H Q _ => ∃ (a : Addr) (n : Nat), vs = [.ref a, nV n] ∧ PenAt H a ∧ n ≤ 8 ∧ ∀ (H' : Hp) (t : Addr) (som : List Nat), SameX a H H' → PenAt H' a → som.Sublist (List.range n) → H' t = some (.tup (som.map nV)) → Q (.ref t) H'
theorem ok_some (F : Fun K "_law_some" "_law_some" sSome f fd) (T : Txt mg) (DD : Df P w K mg base 1 "_law_draw" ["_law_pen_here", "_law_many"] spDraw) : FnOk P w K mg base CX0 2 f fd ["_law_pen_here", "_law_many"] (spSome K) := by
  refine F.ok scSome (fun vs H Q E h => ?_) (fun cdv A outer s H vs Q E hr h => ?_)
  · obtain ⟨a, n, rfl, _⟩ := h
    rfl
  · obtain ⟨a, n, rfl, hp, hn, k⟩ := h
    refine ⟨_, pss_cons (ps_set (i := 2) scSome.nd rfl (.inr rfl) (pe_op op_add pe_int (pe_df DD hr (by rfl) (pa_cons (pv 0) (pa_cons pe_int pa_nil)))))
      (pss_one (ps_ret (pe_callTy call_tuple_of (by rfl) T.tuple PyProof.Rows.boot_tuple (pa_cons
        (pe_lc (own := [("_law_place", 3)]) (g := gName 3) (by rfl) scSome.nd (pi_range1 (by rfl) T.range (pa_cons (pv 1) pa_nil))
          (blkOk_by (own := [("_law_place", 3)]) (N := nmSome) (sc := defScope sSome) (by decide +kernel))
          (fun _ _ _ _ _ => pg_name (i := 3) scSome.nd rfl (Or.inl rfl))
          (fun _ _ _ _ _ => pts_one (pt_cmpR op_lt (pe_df DD hr (by rfl) (pa_cons (pv 0) (pa_cons pe_int pa_nil))) (pv 2) (nomark _)))
          (fun _ _ _ _ _ => pv 3)) pa_nil)))), ?_⟩
    refine ⟨_, rfl, a, 3, rfl, hp, by decide, by decide, fun H1 v sx hp1 hv => ⟨_, _, rfl, rfl, ?_⟩⟩
    refine ⟨_, rfl, _, rfl, by omega, by omega, fun D nD => ?_⟩
    have neD : D ≠ a := hp1.ne nD
    have nD0 : H D = none := hp1.none sx nD
    refine lc_range (lo := 0) (n := n) (fun i H' => SameX a H H' ∧ PenAt H' a ∧ ∃ som, H' D = some (.lst (som.map nV)) ∧ som.Sublist (List.range i)) ⟨samex_new sx nD0, hp1.same (same_upd nD), [], upd_same, List.Sublist.refl _⟩ ?_ ?_
    · rintro i H' hi ⟨s', hp', som, hD, hs⟩
      rw [Int.zero_add]
      refine ⟨rfl, ?_⟩
      refine ⟨_, rfl, a, 4, rfl, hp', by decide, by decide, fun H2 u sx2 hp2 hu => ?_⟩
      have s3 : SameX a H H2 := s'.trans sx2
      have hD2 := sx2 _ _ neD hD
      have hle := hs.length_le
      rw [List.length_range] at hle
      refine ⟨_, rfl, _, _, rfl, rfl, _, rfl, ?_⟩
      refine ite2 (fun _ => ?_) (fun _ => ?_)
      · refine ⟨_, rfl, _, hD2, small1000 (by rw [List.length_map]; omega), samex_new s3 nD0, ?_, som ++ [i], ?_, ?_⟩
        · obtain ⟨x, g, e⟩ := hp2
          exact ⟨x, g, by rw [upd_ne neD.symm]; exact e⟩
        · rw [upd_same, List.map_append]
          rfl
        · rw [List.range_succ]
          exact hs.append (List.Sublist.refl _)
      · refine ⟨s3, hp2, som, hD2, ?_⟩
        rw [List.range_succ]
        exact hs.trans (List.sublist_append_left _ _)
    · rintro H' ⟨s', hp', som, hD, hs⟩
      refine ⟨D, _, rfl, .inl ⟨SqL.of hD, fun l nl => ?_⟩⟩
      exact k _ l som (samex_new s' (hp'.none s' nl)) (hp'.same (same_upd nl)) hs upd_same
/-! ### _law_cell -/
abbrev sCell : Stmt := topS 35
theorem scCell : FnScope ["_law_script", "_law_k"] ["_law_script", "_law_k"] (defScope sCell) := ⟨rfl, rfl, rfl, by decide +kernel, rfl, by decide +kernel, by decide +kernel⟩
def spCell (K : PySem.W.Frag) : Sp := fun vs H Q _ => ∃ (a : Addr) (ns : List Int), vs = [.ref a, nV 0] ∧ SqL K H a (ns.map V.int) ∧ ∀ i : Int, Q (.int i) H
theorem ok_cell (F : Fun K "_law_cell" "_law_cell" sCell f fd) (T : Txt mg) : FnOk P w K mg base CX0 1 f fd ["_law_script", "_law_k"] (spCell K) := by
  refine F.ok scCell (fun vs H Q E h => ?_) (fun cdv A outer s H vs Q E hr h => ?_)
  · obtain ⟨a, ns, rfl, _⟩ := h
    rfl
  · obtain ⟨a, ns, rfl, hS, k⟩ := h
    refine ⟨_, pss_cons (ps_if (pt_cmpR op_lt (pv 1) (pe_callB call_len_seq (by rfl) T.len PySem.boot_len (pa_cons (pv 0) pa_nil)) (nomark _))
        (pss_one (ps_ret (pe_ix ix_list (pv 0) (pv 1) (fun _ _ => rfl)))) pss_nil)
      (pss_one (ps_ret pe_int)), ?_⟩
    refine ⟨_, rfl, _, rfl, a, _, rfl, .inl hS, _, _, rfl, rfl, _, rfl, ?_⟩
    cases ns with
    | nil => exact ite_neg (by rfl) (k 0)
    | cons z r =>
      refine ite_pos (decide_eq_true ?_) ?_
      · show ((0 : Nat) : Int) < (((z :: r).map V.int).length : Nat)
        rw [List.length_map, List.length_cons]
        omega
      · exact ⟨_, rfl, _, rfl, a, _, _, _, rfl, rfl, hS, at_nat (j := 0) rfl rfl, k z⟩
/-! ### _law_pen -/
abbrev sPen : Stmt := topS 36
theorem scPen : FnScope ["_law_cell_here"] ["_law_cell_here"] (defScope sPen) := ⟨rfl, rfl, rfl, by decide +kernel, rfl, by decide +kernel, by decide +kernel⟩
def spPen : Sp := fun vs H Q _ => ∃ x : Int, vs = [.int x] ∧ ∀ H' a, Same H H' → H a = none → PenAt H' a → Q (.ref a) H'
theorem ok_pen (F : Fun K "_law_pen" "_law_pen" sPen f fd) (T : Txt mg) : FnOk P w K mg base CX0 1 f fd ["_law_cell_here"] spPen := by
  refine F.ok scPen (fun vs H Q E h => ?_) (fun cdv A outer s H vs Q E hr h => ?_)
  · obtain ⟨x, rfl, _⟩ := h
    rfl
  · obtain ⟨x, rfl, k⟩ := h
    refine ⟨_, pss_one (ps_ret (pe_lst (pa_cons (pv 0) (pa_cons (pe_callTy call_int1 (by rfl) T.int PyProof.Rows.boot_int (pa_cons (pe_cmpR op_ge (pv 0) (pe_op op_pow pe_int pe_int) (nomark _)) pa_nil)) pa_nil)))), ?_⟩
    refine ⟨_, rfl, _, rfl, _, _, rfl, rfl, ⟨by decide, by decide, by decide⟩, _, _, rfl, rfl, .inr ⟨_, rfl, by show 2 ≤ sizeLine; decide, fun p np => ?_⟩⟩
    exact k _ p (same_upd np) np ⟨_, _, upd_same⟩
/-! ### _law_pairs -/
abbrev sPairs : Stmt := topS 37
abbrev nmPairs : List Str := ["_law_many", "_law_found", "_law_one", "_law_other"]
theorem scPairs : FnScope nmPairs ["_law_many"] (defScope sPairs) := ⟨rfl, rfl, rfl, by decide +kernel, rfl, by decide +kernel, by decide +kernel⟩
def spPairs : Sp := fun vs H Q _ => ∃ n : Nat, vs = [nV n] ∧ n ≤ 8 ∧ ∀ H' a, Same H H' → H a = none → TiesH H' a (pairs n) → Q (.ref a) H'
theorem ok_pairs (F : Fun K "_law_pairs" "_law_pairs" sPairs f fd) (T : Txt mg) : FnOk P w K mg base CX0 1 f fd ["_law_many"] spPairs := by
  refine F.ok scPairs (fun vs H Q E h => ?_) (fun cdv A outer s H vs Q E hr h => ?_)
  · obtain ⟨n, rfl, _⟩ := h
    rfl
  · obtain ⟨n, rfl, hn, k⟩ := h
    refine ⟨_, pss_cons (ps_set (i := 1) scPairs.nd rfl (.inl rfl) (pe_lst pa_nil))
      (pss_cons (ps_for PassesOwn.never rfl (pi_range1 (by rfl) T.range (pa_cons (pv 0) pa_nil)) (pg_name (i := 2) scPairs.nd rfl (.inr rfl))
        (pss_one (ps_set (i := 1) scPairs.nd rfl (.inl rfl) (pe_op op_cat (pv 1)
          (pe_lc (own := [("_law_other", 3)]) (g := gName 3) (by rfl) scPairs.nd (pi_range2 (by rfl) T.range (pa_cons (pe_op op_add (pv 2) pe_int) (pa_cons (pv 0) pa_nil)))
            (blkOk_by (own := [("_law_other", 3)]) (N := nmPairs) (sc := defScope sPairs) (by decide +kernel))
            (fun _ _ _ _ _ => pg_name (i := 3) scPairs.nd rfl (Or.inl rfl)) (fun _ _ _ _ _ => pts_nil)
            (fun _ _ _ _ _ => pe_tup (pa_cons (pv 2) (pa_cons (pv 3) pa_nil))))))))
      (pss_one (ps_ret (pv 1)))), ?_⟩
    refine ⟨Nat.zero_le _, fun F0 nF0 => ?_⟩
    refine ⟨_, rfl, _, rfl, by omega, by omega, ?_⟩
    refine for_range (lo := 0) (n := n) (fun i σ H' => ∃ (B : Addr) (y : Option V), σ = [some (nV n), some (.ref B), y, none] ∧ Same H H' ∧ H B = none ∧ ∃ us, H' B = some (.lst us) ∧ Paired (TieH H') us ((List.range i).map fun one => pairsOf one n).flatten)
      ⟨F0, none, rfl, same_upd nF0, nF0, [], upd_same, .nil⟩ ?_ ?_
    · rintro i σ H' hi ⟨B, y, rfl, s', nB, us, hB, hp⟩
      rw [Int.zero_add]
      refine ⟨_, rfl, ?_⟩
      refine ⟨_, rfl, _, _, rfl, rfl, _, rfl, _, _, rfl, ⟨by omega, by omega, by omega, by omega⟩, ?_⟩
      have en : ((n : Int) - ((i : Int) + 1)).toNat = n - (i + 1) := by omega
      rw [en]
      intro D2 nD2
      refine lc_range (lo := (i : Int) + 1) (n := n - (i + 1)) (fun j H2 => Same H' H2 ∧ ∃ ws, H2 D2 = some (.lst ws) ∧ Paired (TieH H2) ws ((List.range j).map fun m => (i, i + 1 + m))) ⟨same_upd nD2, [], upd_same, .nil⟩ ?_ ?_
      · rintro j H2 hj ⟨s2, ws, hD2, hp2⟩
        refine ⟨rfl, yes_t ?_⟩
        refine ⟨_, rfl, _, rfl, by show 2 ≤ sizeLine; decide, fun t nt => ?_⟩
        have hl := Paired.length hp2
        rw [List.length_map, List.length_range] at hl
        refine ⟨ws, upd_get hD2 nt, small1000 (by omega), same_new (L2.Same.trans s2 (same_upd nt)) nD2, _, upd_same, ?_⟩
        rw [List.range_succ, List.map_append]
        exact ties_snoc hD2 hp2 nt rfl (by show V.int ((i : Int) + 1 + (j : Nat)) = V.int ((i + 1 + j : Nat) : Int); congr 1)
      · rintro H2 ⟨s2, ws, hD2, hp2⟩
        have hl1 := Paired.length hp
        have hl2 := Paired.length hp2
        rw [List.length_map, List.length_range] at hl2
        have hl3 := flat_len (fun x => pairsOf_len n x hn) i
        refine ⟨B, D2, us, ws, rfl, rfl, s2 _ _ hB, hD2, Nat.le_of_lt (small1000 (by omega)), fun p np => ?_⟩
        have s3 := same_upd (o := .lst (us ++ ws)) np
        refine ⟨p, _, rfl, L2.Same.trans s' (L2.Same.trans s2 s3), same_none (L2.Same.trans s' s2) np, us ++ ws, upd_same, ?_⟩
        rw [List.range_succ, List.map_append, List.flatten_append]
        refine paired_app (Paired.mapP hp fun _ _ z => (z.same s2).same s3) ?_
        show Paired _ ws (pairsOf i n ++ [])
        rw [List.append_nil]
        exact Paired.mapP hp2 fun _ _ z => z.same s3
    · rintro σ H' ⟨B, y, rfl, s', nB, us, hB, hp⟩
      exact ⟨_, rfl, k H' B s' nB ⟨us, hB, hp⟩⟩
end
end K5
namespace K5
open PySem PySem.Spec PyProof.Rows L2
open Wb (WebOk Ties tlt tle adj nearTo bfs fresh srt piece piecesLeft rowTies ringTies pairsOf pairs sidesOf sidesTies moved midTies)
/-- an operator's value by another name -/
theorem op_as {X : Cx} {g : Value → Value → Sem Value} {r : R2} (h : OpR X g r) : OpR X g (fun x y H Q => ∃ z : V, r x y H fun v H' => v = z ∧ Q z H') := by
  intro pins s σ H x y v u Q I rx ry ⟨z, hz⟩
  refine thn (h pins s σ H x y v u _ I rx ry hz) fun u' s' ⟨v', H', I', r', e, q⟩ => ?_
  subst e
  exact ⟨_, H', I', r', q⟩
theorem nat_eq {p q : Nat} (h : V.int (p : Int) = V.int (q : Int)) : p = q := by
  injection h with h
  omega
section
variable {P : Program} {w : World} {K : PySem.W.Frag} {mg : Str → Option Value} {base : Heap} {f : Addr} {fd : FuncData}
abbrev sLWeb : Stmt := topS 38
abbrev nmLWeb : List Str := ["_law_pen_here", "_law_upto", "_law_many", "_law_way", "_law_rest", "_law_mids", "_law_often", "_law_k", "_law_tie", "_law_place"]
theorem scLWeb : FnScope nmLWeb ["_law_pen_here", "_law_upto"] (defScope sLWeb) := ⟨rfl, rfl, rfl, by decide +kernel, rfl, by decide +kernel, by decide +kernel⟩
def spLWeb (K : PySem.W.Frag) : Sp := fun vs H Q _ => ∃ (a : Addr) (u : Nat), vs = [.ref a, nV u] ∧ PenAt H a ∧ 1 ≤ u ∧ u ≤ 8 ∧ ∀ (H' : Hp) (b : Addr) (n : Nat) (ts : Ties), SameX a H H' → PenAt H' a → WebOk n ts → n ≤ u → WebAt K H' (.ref b) n ts → Q (.ref b) H'
theorem ok_lweb (F : Fun K "_law_web" "_law_web" sLWeb f fd) (T : Txt mg) (DD : Df P w K mg base 1 "_law_draw" ["_law_pen_here", "_law_many"] spDraw) (DP : Df P w K mg base 1 "_law_pairs" ["_law_many"] spPairs) :
    FnOk P w K mg base CX0 2 f fd ["_law_pen_here", "_law_upto"] (spLWeb K) := by
  refine F.ok scLWeb (fun vs H Q E h => ?_) (fun cdv A outer s H vs Q E hr h => ?_)
  · obtain ⟨a, u, rfl, _⟩ := h
    rfl
  · obtain ⟨a, u, rfl, hp, hu1, hu8, k⟩ := h
    refine ⟨_, pss_cons (ps_set (i := 2) scLWeb.nd rfl (.inl rfl) (pe_op (op_as op_sub) (pe_op op_sub (pe_op op_add pe_int (pv 1)) pe_int)
        (pe_op op_mod (pe_ix ix_list (pe_lst (pa_cons pe_int (pa_cons pe_int (pa_cons pe_int (pa_cons pe_int (pa_cons pe_int (pa_cons pe_int (pa_cons pe_int (pa_cons pe_int (pa_cons pe_int (pa_cons pe_int (pa_cons pe_int (pa_cons pe_int pa_nil)))))))))))))
          (pe_df DD hr (by rfl) (pa_cons (pv 0) (pa_cons pe_int pa_nil))) (fun _ _ => rfl)) (pv 1))))
      (pss_cons (ps_set (i := 3) scLWeb.nd rfl (.inl rfl) (pe_df DD hr (by rfl) (pa_cons (pv 0) (pa_cons pe_int pa_nil))))
      -- way 0
      (C8.pss_cut (ps_if (PW.pt (pw_and (pt_cmpR op_eq (pv 3) pe_int (nomark _)) (pw_and1 (pt_cmpR op_gt (pv 2) pe_int (nomark _)))))
        (pss_one (ps_ret (pe_tup (pa_cons (pv 2) (pa_cons (pe_callTy call_tuple_of (by rfl) T.tuple PyProof.Rows.boot_tuple (pa_cons (pe_callB cr_sortTies (by rfl) T.sorted boot_sorted (pa_cons
          (pe_op op_cat (pe_lc (own := [("_law_k", 7)]) (g := gName 7) (by rfl) scLWeb.nd (pi_range1 (by rfl) T.range (pa_cons (pe_op op_sub (pv 2) pe_int) pa_nil))
              (blkOk_by (own := [("_law_k", 7)]) (N := nmLWeb) (sc := defScope sLWeb) (by decide +kernel))
              (fun _ _ _ _ _ => pg_name (i := 7) scLWeb.nd rfl (Or.inl rfl)) (fun _ _ _ _ _ => pts_nil)
              (fun _ _ _ _ _ => pe_tup (pa_cons (pv 7) (pa_cons (pe_op op_add (pv 7) pe_int) pa_nil))))
            (pe_lst (pa_cons (pe_tup (pa_cons pe_int (pa_cons (pe_op (op_as op_sub) (pv 2) pe_int) pa_nil))) pa_nil))) pa_nil)) pa_nil)) pa_nil))))) pss_nil)
      -- way 1
      (C8.pss_cut (ps_if (PW.pt (pw_and (pt_cmpR op_eq (pv 3) pe_int (nomark _)) (pw_and1 (pt_cmpR op_gt (pv 2) pe_int (nomark _)))))
        (pss_cons (ps_set (i := 4) scLWeb.nd rfl (.inl rfl) (pe_op op_cat (pe_lc (own := [("_law_k", 7)]) (g := gName 7) (by rfl) scLWeb.nd (pi_range2 (by rfl) T.range (pa_cons pe_int (pa_cons (pe_op op_sub (pv 2) pe_int) pa_nil)))
              (blkOk_by (own := [("_law_k", 7)]) (N := nmLWeb) (sc := defScope sLWeb) (by decide +kernel))
              (fun _ _ _ _ _ => pg_name (i := 7) scLWeb.nd rfl (Or.inl rfl)) (fun _ _ _ _ _ => pts_nil)
              (fun _ _ _ _ _ => pe_tup (pa_cons (pv 7) (pa_cons (pe_op op_add (pv 7) pe_int) pa_nil))))
            (pe_lst (pa_cons (pe_tup (pa_cons pe_int (pa_cons (pe_op (op_as op_sub) (pv 2) pe_int) pa_nil))) (pa_cons (pe_tup (pa_cons pe_int (pa_cons pe_int pa_nil))) pa_nil)))))
        (pss_one (ps_ret (pe_tup (pa_cons (pv 2) (pa_cons (pe_callTy call_tuple_of (by rfl) T.tuple PyProof.Rows.boot_tuple (pa_cons (pe_callB cr_sortTies (by rfl) T.sorted boot_sorted (pa_cons
          (pe_op op_cat (pe_lst (pa_cons (pe_tup (pa_cons pe_int (pa_cons pe_int pa_nil))) (pa_cons (pe_tup (pa_cons pe_int (pa_cons pe_int pa_nil))) (pa_cons (pe_tup (pa_cons pe_int (pa_cons pe_int pa_nil))) pa_nil)))) (pv 4)) pa_nil)) pa_nil)) pa_nil)))))) pss_nil)
      -- way 2
      (C8.pss_cut (ps_if (PW.pt (pw_and (pt_cmpR op_eq (pv 3) pe_int (nomark _)) (pw_and1 (pt_cmpR op_gt (pv 2) pe_int (nomark _)))))
        (pss_cons (ps_set (i := 5) scLWeb.nd rfl (.inr rfl) (pe_op op_add pe_int (pe_df DD hr (by rfl) (pa_cons (pv 0) (pa_cons pe_int pa_nil)))))
        (pss_one (ps_ret (pe_tup (pa_cons (pv 2) (pa_cons (pe_callTy call_tuple_of (by rfl) T.tuple PyProof.Rows.boot_tuple (pa_cons
          (pe_lc (own := [("_law_tie", 8)]) (g := gName 8) (by rfl) scLWeb.nd (pi_list (pe_df DP hr (by rfl) (pa_cons (pv 2) pa_nil)))
            (blkOk_by (own := [("_law_tie", 8)]) (N := nmLWeb) (sc := defScope sLWeb) (by decide +kernel))
            (fun _ _ _ _ _ => pg_name (i := 8) scLWeb.nd rfl (Or.inl rfl))
            (fun _ _ _ _ _ => pts_one (pt_chain op_lt op_le (pe_ix (ixT K) (pv 8) pe_int (fun _ _ => rfl)) (pv 5) (pe_ix (ixT K) (pv 8) pe_int (fun _ _ => rfl))))
            (fun _ _ _ _ _ => pv 8)) pa_nil)) pa_nil)))))) pss_nil)
      -- way 3
      (C8.pss_cut (ps_if (pt_cmpR op_eq (pv 3) pe_int (nomark _))
        (pss_one (ps_ret (pe_tup (pa_cons (pv 2) (pa_cons (pe_callTy call_tuple_of (by rfl) T.tuple PyProof.Rows.boot_tuple (pa_cons (pe_callB cr_sortTies (by rfl) T.sorted boot_sorted (pa_cons
          (pe_lc (own := [("_law_place", 9)]) (g := gName 9) (by rfl) scLWeb.nd (pi_range2 (by rfl) T.range (pa_cons pe_int (pa_cons (pv 2) pa_nil)))
              (blkOk_by (own := [("_law_place", 9)]) (N := nmLWeb) (sc := defScope sLWeb) (by decide +kernel))
              (fun _ _ _ _ _ => pg_name (i := 9) scLWeb.nd rfl (Or.inl rfl)) (fun _ _ _ _ _ => pts_nil)
              (fun _ _ _ _ _ => pe_tup (pa_cons (pe_df DD hr (by rfl) (pa_cons (pv 0) (pa_cons (pv 9) pa_nil))) (pa_cons (pv 9) pa_nil)))) pa_nil)) pa_nil)) pa_nil))))) pss_nil)
      -- the others
      (pss_cons (ps_set (i := 6) scLWeb.nd rfl (.inr rfl) (pe_ix ix_list (pe_lst (pa_cons pe_int (pa_cons pe_int (pa_cons pe_int (pa_cons pe_int (pa_cons pe_int pa_nil))))))
          (pe_df DD hr (by rfl) (pa_cons (pv 0) (pa_cons pe_int pa_nil))) (fun _ _ => rfl)))
      (pss_one (ps_ret (pe_tup (pa_cons (pv 2) (pa_cons (pe_callTy call_tuple_of (by rfl) T.tuple PyProof.Rows.boot_tuple (pa_cons
          (pe_lc (own := [("_law_tie", 8)]) (g := gName 8) (by rfl) scLWeb.nd (pi_list (pe_df DP hr (by rfl) (pa_cons (pv 2) pa_nil)))
            (blkOk_by (own := [("_law_tie", 8)]) (N := nmLWeb) (sc := defScope sLWeb) (by decide +kernel))
            (fun _ _ _ _ _ => pg_name (i := 8) scLWeb.nd rfl (Or.inl rfl))
            (fun _ _ _ _ _ => pts_one (pt_cmpR op_lt (pe_df DD hr (by rfl) (pa_cons (pv 0) (pa_cons pe_int pa_nil))) (pv 6) (nomark _)))
            (fun _ _ _ _ _ => pv 8)) pa_nil)) pa_nil))))))))))), ?_⟩
    -- many
    refine ⟨_, rfl, _, _, rfl, rfl, _, _, rfl, rfl, by show 12 ≤ sizeLine; decide, fun l nl => ?_⟩
    have nla : l ≠ a := hp.ne nl
    refine ⟨_, rfl, a, 12, rfl, hp.same (same_upd nl), by decide, by decide, fun H1 v sx hp1 hv => ?_⟩
    obtain ⟨z, hz⟩ : ∃ z : Nat, (([0, 0, 1, 0, 2, 1, 3, 4, 5, 6, 7, 0] : List Nat).map nV)[v]? = some (nV z) := by
      have hlt : v < ([0, 0, 1, 0, 2, 1, 3, 4, 5, 6, 7, 0] : List Nat).length := hv
      exact ⟨_, by rw [List.getElem?_map, List.getElem?_eq_getElem hlt]; rfl⟩
    have hl1 : H1 l = some (.lst (([0, 0, 1, 0, 2, 1, 3, 4, 5, 6, 7, 0] : List Nat).map nV)) := sx _ _ nla upd_same
    have sx1 : SameX a H H1 := fun b o nb e => sx b o nb (same_upd nl b o e)
    obtain ⟨n, hn⟩ : ∃ n, n = u - z % u := ⟨_, rfl⟩
    have hzu : z % u < u := Nat.mod_lt _ (by omega)
    have hn1 : 1 ≤ n := by omega
    have hnu : n ≤ u := by omega
    refine ⟨l, _, _, nV z, rfl, rfl, SqL.of hl1, at_nat (j := v) rfl hz, _, rfl, _, _, rfl, rfl, (by show (0 : Int) < (u : Int); omega), nV n, _, _, rfl, rfl, ?_, ?_⟩
    · show V.int ((1 : Int) + (u : Int) - 1 - (z : Int) % (u : Int)) = V.int (n : Int)
      congr 1
      rw [← Int.natCast_emod]
      omega
    clear hl1 hz
    -- way
    refine ⟨_, rfl, a, 9, rfl, hp1, by decide, by decide, fun H2 way sx2 hp2 hway => ?_⟩
    have t2 : SameX a H H2 := sx1.trans sx2
    have fin : ∀ (H3 : Hp) (us : List V) (ts : Ties), SameX a H H3 → PenAt H3 a → Paired (TieH H3) us ts → WebOk n ts → ∀ l, H3 l = none → ∀ p, upd H3 l (.tup us) p = none → Q (.ref p) (upd (upd H3 l (.tup us)) p (.tup [nV n, .ref l])) := fun H3 us ts s3 p3 h3 ok l nl p np => by
      have sl := same_upd (o := .tup us) nl
      have sp := same_upd (o := .tup [nV n, .ref l]) np
      exact k _ p n ts (samex_new (samex_new s3 (p3.none s3 nl)) (p3.none s3 (sl.free np))) ((p3.same sl).same sp) ok hnu (web_new h3 nl np)
    have eD : ∀ {j : Nat}, V.int (way : Int) = V.int (j : Int) → way = j := fun h => nat_eq h
    refine ⟨fun σ' H' => σ' = [some (.ref a), some (nV u), some (nV n), some (nV way), none, none, none, none, none, none] ∧ H2 = H', ?_, ?_⟩
    · refine ⟨_, rfl, rfl, _, rfl, ?_⟩
      refine ite2 (fun _ => ?_) (fun _ => iteF ⟨rfl, rfl⟩)
      refine ⟨_, rfl, _, _, rfl, rfl, _, rfl, ?_⟩
      refine ite2 (fun hc => ?_) (fun _ => ⟨rfl, rfl⟩)
      -- a ring
      have h2n : 2 < n := by
        have := of_decide_eq_true hc
        omega
      refine ⟨_, rfl, _, rfl, _, _, rfl, rfl, _, rfl, by omega, by omega, ?_⟩
      have e : ((n : Int) - 1).toNat = n - 1 := by omega
      rw [e]
      intro D nD
      refine lc_range (lo := 0) (n := n - 1) (fun i H' => Same H2 H' ∧ ∃ us, H' D = some (.lst us) ∧ Paired (TieH H') us ((List.range i).map fun k => (k, k + 1))) ⟨same_upd nD, [], upd_same, .nil⟩ ?_ ?_
      · rintro i H' hi ⟨s', us, hD, hq⟩
        rw [Int.zero_add]
        refine ⟨rfl, yes_t ?_⟩
        refine ⟨_, rfl, _, rfl, _, _, rfl, rfl, by show 2 ≤ sizeLine; decide, fun t nt => ?_⟩
        have hl := Paired.length hq
        rw [List.length_map, List.length_range] at hl
        refine ⟨us, upd_get hD nt, small1000 (by omega), same_new (L2.Same.trans s' (same_upd nt)) nD, _, upd_same, ?_⟩
        rw [List.range_succ, List.map_append]
        exact ties_snoc hD hq nt rfl (by show V.int ((i : Int) + 1) = V.int ((i + 1 : Nat) : Int); congr 1)
      · rintro H3 ⟨s3, us, hD, hq⟩
        refine ⟨_, rfl, nV (n - 1), _, _, rfl, rfl, (by show V.int ((n : Int) - 1) = V.int ((n - 1 : Nat) : Int); congr 1; omega), by show 2 ≤ sizeLine; decide, fun t nt => ?_⟩
        have s4 := same_upd (o := .tup [V.int 0, nV (n - 1)]) nt
        refine ⟨by show 1 ≤ sizeLine; decide, fun l2 nl2 => ?_⟩
        have s5 := same_upd (o := .lst [.ref t]) nl2
        have hl := Paired.length hq
        rw [List.length_map, List.length_range] at hl
        refine ⟨D, l2, us, [.ref t], rfl, rfl, s5 _ _ (s4 _ _ hD), upd_same, Nat.le_of_lt (small1000 (by rw [List.length_singleton]; omega)), fun c nc => ?_⟩
        have s6 := same_upd (o := .lst (us ++ [.ref t])) nc
        have s7 := L2.Same.trans (L2.Same.trans s4 s5) s6
        refine ⟨c, _, rowTies n ++ [(0, n - 1)], rfl, upd_same, Paired.snoc (Paired.mapP hq fun _ _ z => z.same s7) ⟨t, rfl, s6 _ _ (s5 _ _ upd_same)⟩, fun ys out p hy ho hs np => ?_⟩
        have s8 := same_upd (o := .lst ys) np
        obtain ⟨q1, q2, _, _⟩ := Wb.ring_list h2n (by omega)
        have ok := Wb.web_of_sorted hn1 (by omega) q1 q2 ho hs
        have s9 : Same H2 _ := L2.Same.trans (L2.Same.trans s3 s7) s8
        refine ⟨p, _, rfl, .inl ⟨SqL.of upd_same, fun l3 nl3 => ?_⟩⟩
        exact ⟨by show 2 ≤ sizeLine; decide, fin _ _ _ (t2.trans (Same.x s9)) (hp2.same s9) (Paired.mapP hy fun _ _ z => z.same s8) ok l3 nl3⟩
    rintro _ _ ⟨rfl, rfl⟩
    refine ⟨fun σ' H' => σ' = [some (.ref a), some (nV u), some (nV n), some (nV way), none, none, none, none, none, none] ∧ H2 = H', ?_, ?_⟩
    · refine ⟨_, rfl, rfl, _, rfl, ?_⟩
      refine ite2 (fun _ => ?_) (fun _ => iteF ⟨rfl, rfl⟩)
      refine ⟨_, rfl, _, _, rfl, rfl, _, rfl, ?_⟩
      refine ite2 (fun hc => ?_) (fun _ => ⟨rfl, rfl⟩)
      -- two rings
      have h5n : 5 < n := by
        have := of_decide_eq_true hc
        omega
      refine ⟨_, rfl, _, _, rfl, rfl, _, _, rfl, ⟨by omega, by omega, by omega, by omega⟩, ?_⟩
      have e : ((n : Int) - 1 - 3).toNat = n - 1 - 3 := by omega
      rw [e]
      intro D nD
      refine lc_range (lo := 3) (n := n - 1 - 3) (fun i H' => Same H2 H' ∧ ∃ us, H' D = some (.lst us) ∧ Paired (TieH H') us ((List.range i).map fun k => (3 + k, 3 + k + 1))) ⟨same_upd nD, [], upd_same, .nil⟩ ?_ ?_
      · rintro i H' hi ⟨s', us, hD, hq⟩
        refine ⟨rfl, yes_t ?_⟩
        refine ⟨_, rfl, _, rfl, _, _, rfl, rfl, by show 2 ≤ sizeLine; decide, fun t nt => ?_⟩
        have hl := Paired.length hq
        rw [List.length_map, List.length_range] at hl
        refine ⟨us, upd_get hD nt, small1000 (by omega), same_new (L2.Same.trans s' (same_upd nt)) nD, _, upd_same, ?_⟩
        rw [List.range_succ, List.map_append]
        exact ties_snoc hD hq nt (by show V.int ((3 : Int) + (i : Nat)) = V.int ((3 + i : Nat) : Int); congr 1) (by show V.int ((3 : Int) + (i : Nat) + 1) = V.int ((3 + i + 1 : Nat) : Int); congr 1)
      · rintro H3 ⟨s3, us, hD, hq⟩
        refine ⟨_, rfl, nV (n - 1), _, _, rfl, rfl, (by show V.int ((n : Int) - 1) = V.int ((n - 1 : Nat) : Int); congr 1; omega), by show 2 ≤ sizeLine; decide, fun t1 nt1 => ?_⟩
        have s4 := same_upd (o := .tup [V.int 3, nV (n - 1)]) nt1
        refine ⟨by show 2 ≤ sizeLine; decide, fun t2' nt2 => ?_⟩
        have s5 := same_upd (o := .tup [V.int 2, V.int 3]) nt2
        refine ⟨by show 2 ≤ sizeLine; decide, fun l2 nl2 => ?_⟩
        have s6 := same_upd (o := .lst [.ref t1, .ref t2']) nl2
        have hl := Paired.length hq
        rw [List.length_map, List.length_range] at hl
        refine ⟨D, l2, us, [.ref t1, .ref t2'], rfl, rfl, s6 _ _ (s5 _ _ (s4 _ _ hD)), upd_same, Nat.le_of_lt (small1000 (by show us.length + 2 ≤ 1000; omega)), fun c nc => ?_⟩
        have s7 := same_upd (o := .lst (us ++ [.ref t1, .ref t2'])) nc
        have s47 := L2.Same.trans (L2.Same.trans (L2.Same.trans s4 s5) s6) s7
        have hrest := paired_app (Paired.mapP hq fun _ _ z => z.same s47) (.cons (b := (3, n - 1)) ⟨t1, rfl, s7 _ _ (s6 _ _ (s5 _ _ upd_same))⟩ (.cons (b := (2, 3)) ⟨t2', rfl, s7 _ _ (s6 _ _ upd_same)⟩ .nil))
        -- sorted([(0, 1), (0, 2), (1, 2)] + rest)
        refine ⟨_, rfl, by show 2 ≤ sizeLine; decide, fun r1 nr1 => ?_⟩
        have u1 := same_upd (o := .tup [V.int 0, V.int 1]) nr1
        refine ⟨by show 2 ≤ sizeLine; decide, fun r2 nr2 => ?_⟩
        have u2 := same_upd (o := .tup [V.int 0, V.int 2]) nr2
        refine ⟨by show 2 ≤ sizeLine; decide, fun r3 nr3 => ?_⟩
        have u3 := same_upd (o := .tup [V.int 1, V.int 2]) nr3
        refine ⟨by show 3 ≤ sizeLine; decide, fun l4 nl4 => ?_⟩
        have u4 := same_upd (o := .lst [.ref r1, .ref r2, .ref r3]) nl4
        have u14 := L2.Same.trans (L2.Same.trans (L2.Same.trans u1 u2) u3) u4
        refine ⟨_, rfl, l4, c, [.ref r1, .ref r2, .ref r3], us ++ [.ref t1, .ref t2'], rfl, rfl, upd_same, u14 _ _ upd_same, Nat.le_of_lt (small1000 (by rw [List.length_append]; show 3 + (us.length + 2) ≤ 1000; omega)), fun c2 nc2 => ?_⟩
        have u5 := same_upd (o := .lst ([.ref r1, .ref r2, .ref r3] ++ (us ++ [.ref t1, .ref t2']))) nc2
        have u15 := L2.Same.trans u14 u5
        have h3 := Paired.cons (F := TieH _) (a := V.ref r1) (b := ((0, 1) : Nat × Nat)) ⟨r1, rfl, u5 _ _ (u4 _ _ (u3 _ _ (u2 _ _ upd_same)))⟩ (.cons (b := (0, 2)) ⟨r2, rfl, u5 _ _ (u4 _ _ (u3 _ _ upd_same))⟩ (.cons (b := (1, 2)) ⟨r3, rfl, u5 _ _ (u4 _ _ upd_same)⟩ .nil))
        refine ⟨c2, _, [(0, 1), (0, 2), (1, 2)] ++ (midTies n ++ [(3, n - 1), (2, 3)]), rfl, upd_same, paired_app h3 (Paired.mapP hrest fun _ _ z => z.same u15), fun ys out p hy ho hs np => ?_⟩
        have s8 := same_upd (o := .lst ys) np
        obtain ⟨q1, q2⟩ := Wb.two_list h5n (by omega)
        have ok := Wb.web_of_sorted hn1 (by omega) q1 q2 ho hs
        have s9 : Same H2 _ := L2.Same.trans (L2.Same.trans (L2.Same.trans s3 s47) u15) s8
        refine ⟨p, _, rfl, .inl ⟨SqL.of upd_same, fun l3 nl3 => ?_⟩⟩
        exact ⟨by show 2 ≤ sizeLine; decide, fin _ _ _ (t2.trans (Same.x s9)) (hp2.same s9) (Paired.mapP hy fun _ _ z => z.same s8) ok l3 nl3⟩
    rintro _ _ ⟨rfl, rfl⟩
    have fullOk : WebOk n (pairs n) := Wb.full_ok hn1 (by omega)
    have hpl := fullOk.len
    refine ⟨fun σ' H' => σ' = [some (.ref a), some (nV u), some (nV n), some (nV way), none, none, none, none, none, none] ∧ H2 = H', ?_, ?_⟩
    · refine ⟨_, rfl, rfl, _, rfl, ?_⟩
      refine ite2 (fun _ => ?_) (fun _ => iteF ⟨rfl, rfl⟩)
      refine ⟨_, rfl, _, _, rfl, rfl, _, rfl, ?_⟩
      refine ite2 (fun _ => ?_) (fun _ => ⟨rfl, rfl⟩)
      -- places with loose ones
      refine ⟨_, rfl, a, 2, rfl, hp2, by decide, by decide, fun H3 mid sx3 hp3 hmid => ⟨_, _, rfl, rfl, ?_⟩⟩
      have t3 := t2.trans sx3
      refine ⟨_, rfl, _, rfl, n, rfl, by omega, fun H4 pa s4 npa hpa => ?_⟩
      obtain ⟨us, hpa, hq⟩ := hpa
      have hlq := Paired.length hq
      refine ⟨pa, rfl, ⟨_, SqL.of hpa⟩, fun D nD => ?_⟩
      refine lc_list (K := K) (a := pa) (xs := us) (fun j H' => Same H4 H' ∧ ∃ xs ts, H' D = some (.lst xs) ∧ Paired (TieH H') xs ts ∧ ts.Sublist ((pairs n).take j)) ⟨same_upd nD, [], [], upd_same, .nil, List.nil_sublist _⟩ (fun j H' _ q => SqL.of (q.1 _ _ hpa)) ?_ ?_
      · rintro j x H' hx ⟨s', xs, ts, hD, hxs, hsub⟩
        obtain ⟨t, ht, hxt⟩ := paired_get hq hx
        obtain ⟨td, rfl, htd⟩ := hxt.same s'
        have hl1 := Paired.length hxs
        have hl2 := hsub.length_le
        rw [List.length_take] at hl2
        refine ⟨rfl, ?_⟩
        refine ⟨_, rfl, td, _, _, _, rfl, rfl, SqT.of htd, at_nat (j := 0) rfl rfl, _, rfl, _, _, rfl, rfl, _, rfl, ?_⟩
        have skip : Same H4 H' ∧ ∃ xs ts, H' D = some (.lst xs) ∧ Paired (TieH H') xs ts ∧ ts.Sublist ((pairs n).take (j + 1)) := ⟨s', xs, ts, hD, hxs, sub_skip hsub⟩
        refine ite2 (fun _ => ?_) (fun _ => ⟨_, rfl, iteF skip⟩)
        refine ⟨_, rfl, td, _, _, _, rfl, rfl, SqT.of htd, at_nat (j := 1) rfl rfl, _, _, rfl, rfl, _, rfl, ?_⟩
        refine ite2 (fun _ => ?_) (fun _ => skip)
        refine ⟨_, rfl, xs, hD, small1000 (by omega), same_new s' nD, _, ts ++ [t], upd_same, ?_, sub_snoc hsub ht⟩
        exact Paired.snoc (Paired.mapP hxs fun _ _ z => z.x upd_x hD) (TieH.x ⟨td, rfl, htd⟩ upd_x hD)
      · rintro H5 ⟨s5, xs, ts, hD, hxs, hsub⟩
        rw [hlq, List.take_length] at hsub
        refine ⟨D, _, rfl, .inl ⟨SqL.of hD, fun l3 nl3 => ?_⟩⟩
        have s45 := L2.Same.trans s4 s5
        exact ⟨by show 2 ≤ sizeLine; decide, fin _ _ ts (t3.trans (Same.x s45)) (hp3.same s45) hxs (Wb.web_of_sub fullOk hsub) l3 nl3⟩
    rintro _ _ ⟨rfl, rfl⟩
    refine ⟨fun σ' H' => σ' = [some (.ref a), some (nV u), some (nV n), some (nV way), none, none, none, none, none, none] ∧ H2 = H', ?_, ?_⟩
    · refine ⟨_, rfl, rfl, _, rfl, ?_⟩
      refine ite2 (fun _ => ?_) (fun _ => ⟨rfl, rfl⟩)
      -- a tree
      refine ⟨_, rfl, _, rfl, _, _, rfl, ⟨by omega, by omega, by omega, by omega⟩, ?_⟩
      have e : ((n : Int) - 1).toNat = n - 1 := by omega
      rw [e]
      intro D nD
      have neD : D ≠ a := hp2.ne nD
      have nD0 : H D = none := hp2.none t2 nD
      refine lc_range (lo := 1) (n := n - 1) (fun i H' => SameX a H H' ∧ PenAt H' a ∧ ∃ us ts, H' D = some (.lst us) ∧ Paired (TieH H') us ts ∧ ts.map (·.2) = (List.range i).map (· + 1) ∧ ∀ t ∈ ts, t.1 < t.2 ∧ t.2 < n)
        ⟨samex_new t2 nD0, hp2.same (same_upd nD), [], [], upd_same, .nil, rfl, fun _ h => by simp at h⟩ ?_ ?_
      · rintro i H' hi ⟨s', hp', us, ts, hD, hq, hm, ht⟩
        have e1 : V.int ((1 : Int) + (i : Nat)) = nV (i + 1) := by
          show V.int ((1 : Int) + (i : Nat)) = V.int ((i + 1 : Nat) : Int)
          congr 1
          omega
        rw [e1]
        refine ⟨rfl, yes_t ?_⟩
        refine ⟨_, rfl, _, rfl, a, i + 1, rfl, hp', by omega, by omega, fun H5 v5 sx5 hp5 hv5 => ?_⟩
        refine ⟨_, rfl, by show 2 ≤ sizeLine; decide, fun t nt => ?_⟩
        have hD5 : H5 D = some (.lst us) := sx5 _ _ neD hD
        have hq5 : Paired (TieH H5) us ts := Paired.mapP hq fun _ _ z => hp'.tie sx5 z
        have hl := Paired.length hq
        have hl2 : ts.length = i := by
          have := congrArg List.length hm
          rw [List.length_map, List.length_map, List.length_range] at this
          exact this
        have st := same_upd (o := .tup [nV v5, nV (i + 1)]) nt
        refine ⟨us, st _ _ hD5, small1000 (by omega), samex_new ((s'.trans sx5).trans (Same.x st)) nD0, ?_, _, ts ++ [(v5, i + 1)], upd_same, ties_snoc hD5 hq5 nt rfl rfl, ?_, ?_⟩
        · obtain ⟨x, g, ex⟩ := hp5.same st
          exact ⟨x, g, by rw [upd_ne neD.symm]; exact ex⟩
        · rw [List.map_append, hm, List.range_succ, List.map_append]
          rfl
        · intro t' ht'
          rcases List.mem_append.mp ht' with h | h
          · exact ht t' h
          · have : t' = (v5, i + 1) := by simpa using h
            subst this
            exact ⟨hv5, by show i + 1 < n; omega⟩
      · rintro H5 ⟨s5, hp5, us, ts, hD, hq, hm, ht⟩
        have hl2 : ts.length = n - 1 := by
          have := congrArg List.length hm
          rw [List.length_map, List.length_map, List.length_range] at this
          exact this
        refine ⟨D, us, ts, rfl, hD, hq, fun ys out p hy ho hs np => ?_⟩
        have s8 := same_upd (o := .lst ys) np
        have ok := Wb.web_of_sorted hn1 (by omega) (Wb.tree_nodup ts (by rw [hm, hl2])) ht ho hs
        refine ⟨p, _, rfl, .inl ⟨SqL.of upd_same, fun l3 nl3 => ?_⟩⟩
        exact ⟨by show 2 ≤ sizeLine; decide, fin _ _ _ (s5.trans (Same.x s8)) (hp5.same s8) (Paired.mapP hy fun _ _ z => z.same s8) ok l3 nl3⟩
    rintro _ _ ⟨rfl, rfl⟩
    -- ties drawn one by one
    refine ⟨by show 5 ≤ sizeLine; decide, fun l5 nl5 => ?_⟩
    have nla5 : l5 ≠ a := hp2.ne nl5
    refine ⟨_, rfl, a, 5, rfl, hp2.same (same_upd nl5), by decide, by decide, fun H3 v3 sx3 hp3 hv3 => ?_⟩
    obtain ⟨z3, hz3⟩ : ∃ z : Nat, (([2, 3, 4, 6, 8] : List Nat).map nV)[v3]? = some (nV z) := by
      have hlt : v3 < ([2, 3, 4, 6, 8] : List Nat).length := hv3
      exact ⟨_, by rw [List.getElem?_map, List.getElem?_eq_getElem hlt]; rfl⟩
    have hl3 : H3 l5 = some (.lst (([2, 3, 4, 6, 8] : List Nat).map nV)) := sx3 _ _ nla5 upd_same
    have t3 : SameX a H H3 := t2.trans fun b o nb e => sx3 b o nb (same_upd nl5 b o e)
    refine ⟨l5, _, _, nV z3, rfl, rfl, SqL.of hl3, at_nat (j := v3) rfl hz3, ?_⟩
    refine ⟨_, rfl, _, rfl, n, rfl, by omega, fun H4 pa s4 npa hpa => ?_⟩
    obtain ⟨us, hpa, hq⟩ := hpa
    have hlq := Paired.length hq
    have nea : pa ≠ a := hp3.ne npa
    have hp4 := hp3.same s4
    have t4 := t3.trans (Same.x s4)
    refine ⟨pa, rfl, ⟨_, SqL.of hpa⟩, fun D nD => ?_⟩
    have neD : D ≠ a := hp4.ne nD
    have nD0 : H D = none := hp4.none t4 nD
    have nDp : pa ≠ D := ne_of_none hpa nD
    refine lc_list (K := K) (a := pa) (xs := us) (fun j H' => SameX a H4 H' ∧ PenAt H' a ∧ ∃ xs ts, H' D = some (.lst xs) ∧ Paired (TieH H') xs ts ∧ ts.Sublist ((pairs n).take j))
      ⟨Same.x (same_upd nD), hp4.same (same_upd nD), [], [], upd_same, .nil, List.nil_sublist _⟩ (fun j H' _ q => SqL.of (q.1 _ _ nea hpa)) ?_ ?_
    · rintro j x H' hx ⟨s', hp', xs, ts, hD, hxs, hsub⟩
      obtain ⟨t, ht, hxt⟩ := paired_get hq hx
      have hl1 := Paired.length hxs
      have hl2 := hsub.length_le
      rw [List.length_take] at hl2
      refine ⟨rfl, ?_⟩
      refine ⟨_, rfl, a, 8, rfl, hp', by decide, by decide, fun H5 v5 sx5 hp5 hv5 => ?_⟩
      have hD5 := sx5 _ _ neD hD
      have hxs5 : Paired (TieH H5) xs ts := Paired.mapP hxs fun _ _ z => hp'.tie sx5 z
      have s5 := s'.trans sx5
      obtain ⟨td, rfl, htd⟩ := hp4.tie s5 hxt
      refine ⟨_, rfl, _, _, rfl, rfl, _, rfl, ?_⟩
      refine ite2 (fun _ => ?_) (fun _ => ⟨s5, hp5, xs, ts, hD5, hxs5, sub_skip hsub⟩)
      refine ⟨_, rfl, xs, hD5, small1000 (by omega), samex_new s5 nD, ?_, _, ts ++ [t], upd_same, ?_, sub_snoc hsub ht⟩
      · obtain ⟨x, g, ex⟩ := hp5
        exact ⟨x, g, by rw [upd_ne neD.symm]; exact ex⟩
      · exact Paired.snoc (Paired.mapP hxs5 fun _ _ z => z.x upd_x hD5) (TieH.x ⟨td, rfl, htd⟩ upd_x hD5)
    · rintro H5 ⟨s5, hp5, xs, ts, hD, hxs, hsub⟩
      rw [hlq, List.take_length] at hsub
      refine ⟨D, _, rfl, .inl ⟨SqL.of hD, fun l3 nl3 => ?_⟩⟩
      exact ⟨by show 2 ≤ sizeLine; decide, fin _ _ ts (t4.trans s5) hp5 hxs (Wb.web_of_sub fullOk hsub) l3 nl3⟩
end
end K5
namespace K5
open PySem PySem.Spec PyProof.Rows L2
open Wb (WebOk Ties tlt tle adj nearTo bfs fresh srt piece piecesLeft moved)
/-! ### rules with the written part told -/
theorem clL (K : PySem.W.Frag) {X : Cx} (h : X.K = K := by rfl) : CallR X (.type "list") (fun xs H Q => ∃ p ys, xs = [.ref p] ∧ (SqL K H p ys ∨ SqT K H p ys) ∧ ∀ l, H l = none → Q (.ref l) (upd H l (.lst ys))) := by
  subst h
  exact call_list_of
theorem piT (K : PySem.W.Frag) {X : Cx} {tg l : Expr} {tl : TE} (hl : PE X l tl) (h : X.K = K := by rfl) : PI X tg l (iTup K tl) := by
  subst h
  exact pi_tup hl
theorem eqS (K : PySem.W.Frag) {X : Cx} (hu : X.A.units + 64 < cLine) (h : X.K = K := by rfl) : OpR X (compareOp .Eq) (rEqD K) := by
  subst h
  exact op_eqD hu
/-- t[1:], whatever it is -/
def rSlTail (K : PySem.W.Frag) : V → Option Int → Option Int → Hp → VK → Prop := fun x lo hi H Q => ∃ a xs, x = .ref a ∧ lo = some 1 ∧ hi = none ∧ SqT K H a xs ∧ ∀ u H', Same H H' → SqT K H' u xs.tail → Q (.ref u) H'
theorem sl_tail {X : Cx} : SlR X (rSlTail X.K) := by
  intro pins s σ H x v vl vu lo hi sl Q I rx hs pl pu h
  obtain ⟨a, xs, rfl, rfl, rfl, hx, q⟩ := h
  have e1 : HT.sIx xs.length 0 (some 1) = min 1 xs.length := HT.sIx_nat xs.length 0 1
  refine sl_tupA pins s σ H _ v vl vu _ _ sl Q I rx hs pl pu ⟨a, xs, rfl, hx, fun hw => ?_, fun _ p np => ?_⟩
  · refine q a H (Same.refl H) ?_
    have h0 := hw.1
    rw [e1] at h0
    have h1 : xs = [] := List.eq_nil_of_length_eq_zero (by omega)
    rw [h1] at hx ⊢
    exact hx
  · refine q p _ (same_upd np) (SqT.of ?_)
    rw [upd_same]
    unfold cutV
    rw [e1, HT.sIx_none]
    cases xs with
    | nil => rfl
    | cons x r =>
      rw [show min 1 (x :: r).length = 1 by
        rw [List.length_cons]
        omega]
      show some (HO.tup (List.take ((x :: r).length - 1) r)) = some (HO.tup r)
      rw [List.length_cons, Nat.add_sub_cancel, List.take_length]
/-! ### lists of numbers as data -/
def intD (ps : List Nat) : PyData := .list (ps.map fun p : Nat => PyData.int (p : Int))
theorem dpa_ints {K : PySem.W.Frag} {H : Hp} : ∀ ps : List Nat, DpAll K H (ps.map nV) (ps.map fun p : Nat => PyData.int (p : Int))
  | [] => .nil
  | p :: r => .cons (.int _) (dpa_ints r)
theorem dp_ints {K : PySem.W.Frag} {H : Hp} {a : Addr} {ps : List Nat} (h : SqL K H a (ps.map nV)) : Dp K H (.ref a) (intD ps) := .lst h (dpa_ints ps)
theorem lay_ints : ∀ ps : List Nat, PyData.canLayAll0 (ps.map fun p : Nat => PyData.int (p : Int)) = true
  | [] => rfl
  | p :: r => by
    show (true && PyData.canLayAll0 (r.map fun p : Nat => PyData.int (p : Int))) = true
    rw [lay_ints r]
    rfl
theorem depth_ints : ∀ ps : List Nat, PyData.depthAll (ps.map fun p : Nat => PyData.int (p : Int)) = 0
  | [] => rfl
  | p :: r => by
    show max 0 (PyData.depthAll (r.map fun p : Nat => PyData.int (p : Int))) = 0
    rw [depth_ints r]
    rfl
theorem shaped_ints (ps : List Nat) : SeqAt.shaped (intD ps) = true := by
  show (PyData.canLayAll0 (ps.map fun p : Nat => PyData.int (p : Int)) && decide (PyData.depthAll (ps.map fun p : Nat => PyData.int (p : Int)) + 1 ≤ 64)) = true
  rw [lay_ints, depth_ints]
  rfl
theorem eqv_ints (ps : List Nat) : PyData.eqv (intD ps) (intD ps) = true := SeqAt.eqv_refl _ (lay_ints ps)
theorem eqv_nil (ps : List Nat) : PyData.eqv (intD ps) (intD []) = (ps == []) := by
  cases ps with
  | nil => rfl
  | cons p r => rfl
theorem flat_sorted {n : Nat} {L : List (List Nat)} {ns : List Int} (hL : L.flatten.Perm (List.range n)) (hp : ns.Perm (L.flatten.map fun n : Nat => (n : Int))) (hs : ns.Pairwise (· ≤ ·)) : ns = (List.range n).map fun n : Nat => (n : Int) := by
  refine List.Perm.eq_of_pairwise (le := (· ≤ ·)) (fun a b _ _ h1 h2 => Int.le_antisymm h1 h2) hs ?_ (hp.trans (hL.map _))
  rw [List.pairwise_map]
  exact (List.pairwise_le_range (n := n)).imp fun z => by omega
theorem rgV_nat (n : Nat) : rgV 0 (n : Int) = (List.range n).map nV := by
  unfold rgV
  have e : ((n : Int) - 0).toNat = n := by omega
  rw [e]
  exact List.map_congr_left fun i _ => by
    show V.int (0 + (i : Int)) = V.int (i : Int)
    rw [Int.zero_add]
/-- a list of rows, each a new list of the places of a piece -/
def PlcH (D : Addr) (H : Hp) (v : V) (ps : List Nat) : Prop := ∃ p, v = V.ref p ∧ p ≠ D ∧ H p = some (.lst (ps.map nV))
theorem plc_flat {H : Hp} {D : Addr} : ∀ {us : List V} {L : List (List Nat)}, Paired (PlcH D H) us L → Paired (fun x ys => ∃ p, x = V.ref p ∧ H p = some (.lst ys)) us (L.map fun ps => ps.map nV)
  | _, _, .nil => .nil
  | _, _, .cons ⟨p, e, _, h⟩ t => .cons ⟨p, e, h⟩ (plc_flat t)
theorem flat_map (L : List (List Nat)) : (L.map fun ps => ps.map nV).flatten = L.flatten.map nV := by
  rw [List.map_flatten]
section
variable {P : Program} {w : World} {K : PySem.W.Frag} {mg : Str → Option Value} {base : Heap} {f : Addr} {fd : FuncData}
abbrev sRight : Stmt := topS 39
abbrev nmRight : List Str := ["_law_pen_here", "_law_web_here", "_law_one", "_law_other", "_law_rows", "_law_piece", "_law_place", "_law_some_here", "_law_wide"]
theorem scRight : FnScope nmRight ["_law_pen_here", "_law_web_here"] (defScope sRight) := ⟨rfl, rfl, rfl, by decide +kernel, rfl, by decide +kernel, by decide +kernel⟩
def forBody : Stmt → Nat → Stmt
  | .For _ _ body _ _, i => body.getD i (.Pass ⟨0, 0, 0, 0⟩)
  | _, _ => .Pass ⟨0, 0, 0, 0⟩
def ifTest : Stmt → Expr
  | .If c _ _ _ => c
  | _ => noE
/-- the scope of the comprehension over wide -/
abbrev lcWide : Expr := kidE 0 (ifTest (forBody (bodyAt sRight 5) 0))
def spRight (K : PySem.W.Frag) : Sp := fun vs H Q _ => ∃ (a : Addr) (v : V) (n : Nat) (ts : Ties), vs = [.ref a, v] ∧ PenAt H a ∧ WebAt K H v n ts ∧ WebOk n ts ∧ ∀ H', SameX a H H' → PenAt H' a → Q (.bl true) H'
theorem ok_right (F : Fun K "_law_web_right" "_law_web_right" sRight f fd) (T : Txt mg) (DN : Df P w K mg base 6 "near" ["web", "place"] (spNear K)) (DP : Df P w K mg base 6 "pieces" ["web"] (spPieces K))
    (DW : Df P w K mg base 6 "pieces_without" ["web", "some"] (spWithout K)) (DS : Df P w K mg base 2 "_law_some" ["_law_pen_here", "_law_many"] (spSome K)) : FnOk P w K mg base CX0 7 f fd ["_law_pen_here", "_law_web_here"] (spRight K) := by
  refine F.ok scRight (fun vs H Q E h => ?_) (fun cdv A outer s H vs Q E hr h => ?_)
  · obtain ⟨a, v, n, ts, rfl, _⟩ := h
    rfl
  · obtain ⟨a, v, n, ts, rfl, hp, hw, ok, k⟩ := h
    obtain ⟨wa, wb, rfl, hwa, _⟩ := id hw
    have n8 := ok.le
    refine ⟨_, pss_cons (ps_for PassesOwn.never rfl (pi_range1 (by rfl) T.range (pa_cons (pe_ix ix_tup (pv 1) pe_int (fun _ _ => rfl)) pa_nil)) (pg_name (i := 2) scRight.nd rfl (.inl rfl))
        (pss_one (ps_for PassesOwn.never rfl (pi_range1 (by rfl) T.range (pa_cons (pe_ix ix_tup (pv 1) pe_int (fun _ _ => rfl)) pa_nil)) (pg_name (i := 3) scRight.nd rfl (.inl rfl))
          (pss_one (ps_if (PW.pt (pw_or (pt_cmpR op_ne (pe_cmpR op_in_seq (pv 3) (pe_df DN hr (by rfl) (pa_cons (pv 1) (pa_cons (pv 2) pa_nil))) (by rfl))
              (pe_cmpR op_in_seq (pv 2) (pe_df DN hr (by rfl) (pa_cons (pv 1) (pa_cons (pv 3) pa_nil))) (by rfl)) (nomark _))
            (pw_or1 (pt_cmpR op_in_seq (pv 2) (pe_df DN hr (by rfl) (pa_cons (pv 1) (pa_cons (pv 2) pa_nil))) (by rfl))))) (pss_one (ps_ret pe_bl)) pss_nil)))))
      (pss_cons (ps_set (i := 4) scRight.nd rfl (.inl rfl) (pe_df DP hr (by rfl) (pa_cons (pv 1) pa_nil)))
      (pss_cons (ps_if (pt_cmpR (op_neD hr.units) (pe_callB cr_sortedI (by rfl) T.sorted boot_sorted (pa_cons (pe_callBK (cr_sumL rfl) (by rfl) T.sum boot_sum (pa_cons
            (pe_lc (own := [("_law_piece", 5)]) (g := gName 5) (by rfl) scRight.nd (pi_list (pv 4)) (blkOk_by (own := [("_law_piece", 5)]) (N := nmRight) (sc := defScope sRight) (by decide +kernel))
              (fun _ _ _ _ _ => pg_name (i := 5) scRight.nd rfl (Or.inl rfl)) (fun _ _ _ _ _ => pts_nil)
              (fun _ _ _ _ _ => pe_callTy (clL K) (by rfl) T.list PyProof.Rows.boot_list (pa_cons (pv 5) pa_nil))) pa_nil) (pk_cons (pe_lst pa_nil) pk_nil)) pa_nil))
          (pe_listRg rfl (by rfl) T.list (prg_1 (by rfl) T.range (pe_ix ix_tup (pv 1) pe_int (fun _ _ => rfl)))) (nomark _)) (pss_one (ps_ret pe_bl)) pss_nil)
      (pss_cons (ps_for PassesOwn.never rfl (pi_list (pv 4)) (pg_name (i := 5) scRight.nd rfl (.inr rfl))
        (pss_one (ps_for PassesOwn.never rfl (pi_tup (pv 5)) (pg_name (i := 6) scRight.nd rfl (.inl rfl))
          (pss_one (ps_if (pt_cmpR (op_neD hr.units) (pe_lc (own := [("_law_other", 3)]) (g := gName 3) (by rfl) scRight.nd (pi_tup (pe_df DN hr (by rfl) (pa_cons (pv 1) (pa_cons (pv 6) pa_nil))))
              (blkOk_by (own := [("_law_other", 3)]) (N := nmRight) (sc := defScope sRight) (by decide +kernel))
              (fun _ _ _ _ _ => pg_name (i := 3) scRight.nd rfl (Or.inl rfl)) (fun _ _ _ _ _ => pts_one (pt_cmpR (ninS K) (pv 3) (pv 5) (by rfl))) (fun _ _ _ _ _ => pv 3)) (pe_lst pa_nil) (nomark _)) (pss_one (ps_ret pe_bl)) pss_nil)))))
      (pss_cons (ps_set (i := 7) scRight.nd rfl (.inl rfl) (pe_df DS (hr.mono (by decide)) (by rfl) (pa_cons (pv 0) (pa_cons (pe_ix ix_tup (pv 1) pe_int (fun _ _ => rfl)) pa_nil))))
      (pss_cons (ps_for PassesOwn.never rfl (pi_list (pe_df DW hr (by rfl) (pa_cons (pv 1) (pa_cons (pv 7) pa_nil)))) (pg_name (i := 5) scRight.nd rfl (.inr rfl))
        (pss_one (ps_if (pt_cmpR (op_neD hr.units) (pe_lc (own := [("_law_wide", 8)]) (g := gName 8) (by rfl) scRight.nd (pi_list (pe_df DW hr (by rfl) (pa_cons (pv 1) (pa_cons (pe_slice sl_tail (pv 7) (po_some pe_int) po_none) pa_nil))))
              (blkOk_by (own := [("_law_wide", 8)]) (N := nmRight) (sc := defScope sRight) (by decide +kernel))
              (fun _ _ _ _ _ => pg_name (i := 8) scRight.nd rfl (Or.inr rfl))
              (fun _ _ _ _ _ => pts_one (pt_cmpR (eqS K hr.units) (pe_lc (own := [("_law_one", 2)]) (g := gName 2) (by rfl) scRight.nd (piT K (pv 5))
                (blkOk_by (own := [("_law_one", 2)]) (N := nmRight) (sc := relS (lcScope lcWide) (defScope sRight)) (by decide +kernel))
                (fun _ _ _ _ _ => pg_name (i := 2) scRight.nd rfl (Or.inl rfl)) (fun _ _ _ _ _ => pts_one (pt_cmpR (ninS K) (pv 2) (pv 8) (by rfl))) (fun _ _ _ _ _ => pv 2)) (pe_lst pa_nil) (nomark _)))
              (fun _ _ _ _ _ => pe_int)) (pe_lst (pa_cons pe_int pa_nil)) (nomark _)) (pss_one (ps_ret pe_bl)) pss_nil)))
      (pss_one (ps_ret pe_bl))))))), ?_⟩
    -- near, both ways
    refine ⟨_, rfl, wa, _, _, _, rfl, rfl, hwa, at_nat (j := 0) rfl rfl, _, rfl, by omega, by omega, ?_⟩
    refine for_range (lo := 0) (n := n) (fun i σ H' => ∃ y2 y3, σ = [some (.ref a), some (.ref wa), y2, y3, none, none, none, none, none] ∧ Same H H') ⟨none, none, rfl, Same.refl H⟩ ?_ ?_
    · rintro i σ H1 hi ⟨y2, y3, rfl, s1⟩
      rw [Int.zero_add]
      refine ⟨_, rfl, wa, _, _, _, rfl, rfl, keep_same s1 _ _ hwa, at_nat (j := 0) rfl rfl, _, rfl, by omega, by omega, ?_⟩
      refine for_range (lo := 0) (n := n) (fun j σ H' => ∃ y3, σ = [some (.ref a), some (.ref wa), some (nV i), y3, none, none, none, none, none] ∧ Same H H') ⟨y3, rfl, s1⟩ ?_ ?_
      · rintro j σ H2 hj ⟨y3, rfl, s2⟩
        rw [Int.zero_add]
        refine ⟨_, rfl, _, rfl, _, rfl, .ref wa, n, ts, i, rfl, hw.keep (keep_same s2), ok, hi, fun H3 t3 s3 h3 => ?_⟩
        have s23 := L2.Same.trans s2 s3
        refine ⟨t3, _, rfl, .inr (SqT.of h3), rfl, all_flat _, ?_⟩
        refine ⟨_, rfl, _, rfl, _, rfl, .ref wa, n, ts, j, rfl, hw.keep (keep_same s23), ok, hj, fun H4 t4 s4 h4 => ?_⟩
        have s24 := L2.Same.trans s23 s4
        refine ⟨t4, _, rfl, .inr (SqT.of h4), rfl, all_flat _, rfl, _, rfl, ?_⟩
        have e1 : inV (nV j) ((nearTo n ts i).map nV) = adj ts i j := by
          rw [inV_nat, Bool.eq_iff_iff, List.contains_iff_mem, Wb.mem_near]
          exact ⟨fun h => h.2, fun h => ⟨hj, h⟩⟩
        have e2 : inV (nV i) ((nearTo n ts j).map nV) = adj ts j i := by
          rw [inV_nat, Bool.eq_iff_iff, List.contains_iff_mem, Wb.mem_near]
          exact ⟨fun h => h.2, fun h => ⟨hi, h⟩⟩
        have e3 : inV (nV i) ((nearTo n ts i).map nV) = false := by
          rw [inV_nat]
          rw [Bool.eq_false_iff]
          intro h
          have h2 := (Wb.mem_near.mp (List.contains_iff_mem.mp h)).2
          rw [Wb.adj_irr ok.tie] at h2
          cases h2
        refine ite_neg ?_ ?_
        · show (!decide (V.bl (inV (nV j) ((nearTo n ts i).map nV)) = V.bl (inV (nV i) ((nearTo n ts j).map nV)))) = false
          rw [e1, e2, Wb.adj_symm ts j i, decide_eq_true rfl]
          rfl
        refine ⟨_, rfl, _, rfl, _, rfl, .ref wa, n, ts, i, rfl, hw.keep (keep_same s24), ok, hi, fun H5 t5 s5 h5 => ?_⟩
        refine ⟨t5, _, rfl, .inr (SqT.of h5), rfl, all_flat _, _, rfl, ?_⟩
        refine ite_neg e3 ?_
        exact ⟨_, rfl, L2.Same.trans s24 s5⟩
      · rintro σ H2 ⟨y3, rfl, s2⟩
        exact ⟨_, _, rfl, s2⟩
    · rintro σ H1 ⟨y2, y3, rfl, s1⟩
      -- the pieces: all places, each once
      refine ⟨_, rfl, .ref wa, n, ts, rfl, hw.keep (keep_same s1), ok, fun H2 pa s2 npa ⟨us, hpa, hps⟩ => ?_⟩
      have s12 := L2.Same.trans s1 s2
      have hflat := Wb.flat_perm n ts
      have hfl : (piecesLeft n ts []).flatten.length = n := by rw [hflat.length_eq, List.length_range]
      have hlen : (piecesLeft n ts []).length ≤ n := by
        rw [Wb.pieces_eq, List.length_map]
        have := (List.filter_sublist (l := List.range n) (p := Wb.isRep n ts [])).length_le
        rw [List.length_range] at this
        exact this
      have hlu := Paired.length hps
      refine ⟨_, rfl, pa, rfl, ⟨_, SqL.of hpa⟩, fun D nD => ?_⟩
      refine lc_list (K := K) (a := pa) (xs := us) (fun j H' => Same H2 H' ∧ ∃ xs, H' D = some (.lst xs) ∧ Paired (PlcH D H') xs ((piecesLeft n ts []).take j)) ⟨same_upd nD, [], upd_same, .nil⟩ (fun j H' _ q => SqL.of (q.1 _ _ hpa)) ?_ ?_
      · rintro j x H' hx ⟨s', xs, hD, hxs⟩
        obtain ⟨c, hc, hxc⟩ := paired_get hps hx
        obtain ⟨td, rfl, htd⟩ := hxc.keep (keep_same s')
        refine ⟨rfl, yes_t ?_⟩
        refine ⟨_, rfl, td, _, rfl, .inr htd, fun l nl => ?_⟩
        have sl := same_upd (o := .lst (c.map nV)) nl
        have neD : l ≠ D := fun z => by
          rw [z, hD] at nl
          cases nl
        have hl := Paired.length hxs
        rw [List.length_take] at hl
        refine ⟨xs, sl _ _ hD, small1000 (by omega), same_new (L2.Same.trans s' sl) nD, _, upd_same, ?_⟩
        rw [List.take_add_one, hc]
        refine Paired.snoc (Paired.mapP hxs fun v' ps ⟨p, e, np, h⟩ => ⟨p, e, np, ?_⟩) ⟨l, rfl, neD, ?_⟩
        · rw [upd_ne np]
          exact sl _ _ h
        · rw [upd_ne neD, upd_same]
      · rintro H3 ⟨s3, xs, hD, hxs⟩
        rw [hlu, List.take_length] at hxs
        refine ⟨Nat.zero_le _, fun b nb => ?_⟩
        have sb := same_upd (o := .lst []) nb
        have hlx := Paired.length hxs
        have hnz : xs ≠ [] := fun z => by
          rw [z] at hlx
          have h0 : (piecesLeft n ts []).length = 0 := hlx.symm
          have h1 := List.eq_nil_of_length_eq_zero h0
          rw [h1] at hfl
          have h2 : (0 : Nat) = n := hfl
          have := ok.pos
          omega
        refine ⟨D, b, xs, _, rfl, rfl, sb _ _ hD, upd_same, hnz, plc_flat (Paired.mapP hxs fun v' ps ⟨p, e, np, h⟩ => ⟨p, e, np, sb _ _ h⟩), ?_, fun p np => ?_⟩
        · rw [flat_map, List.length_map, hfl]
          exact Nat.le_of_lt (small1000 (by omega))
        rw [flat_map]
        have sp := same_upd (o := .lst ((piecesLeft n ts []).flatten.map nV)) np
        refine ⟨p, (piecesLeft n ts []).flatten.map fun n : Nat => (n : Int), rfl, SqL.of (by rw [upd_same, nV_map]), fun ns q hns hs nq => ?_⟩
        have ens := flat_sorted hflat hns hs
        have sq := same_upd (o := .lst (ns.map V.int)) nq
        have s5 := L2.Same.trans (L2.Same.trans s3 sb) (L2.Same.trans sp sq)
        have s6 := L2.Same.trans s12 s5
        refine ⟨_, rfl, wa, _, _, _, rfl, rfl, keep_same s6 _ _ hwa, at_nat (j := 0) rfl rfl, n, rfl, RgOk.of_le (by decide) (by omega) (by decide) (by omega), fun r nr => ?_⟩
        have sr := same_upd (o := .lst (rgV 0 (n : Int))) nr
        have hq7 : SqL K (upd (upd (upd (upd H3 b (.lst [])) p (.lst ((piecesLeft n ts []).flatten.map nV))) q (.lst (ns.map V.int))) r (.lst (rgV 0 (n : Int)))) q ((List.range n).map nV) := SqL.of (by
          rw [sr _ _ upd_same, ens, ← nV_map])
        have hr7 : SqL K (upd (upd (upd (upd H3 b (.lst [])) p (.lst ((piecesLeft n ts []).flatten.map nV))) q (.lst (ns.map V.int))) r (.lst (rgV 0 (n : Int)))) r ((List.range n).map nV) := SqL.of (by
          rw [upd_same, rgV_nat])
        refine ⟨intD (List.range n), intD (List.range n), dp_ints hq7, dp_ints hr7, shaped_ints _, shaped_ints _, _, rfl, ?_⟩
        rw [eqv_ints]
        refine iteF ?_
        -- places of a piece are near none of another one
        have s7 := L2.Same.trans s6 sr
        have s27 := L2.Same.trans s5 sr
        generalize (upd (upd (upd (upd H3 b (.lst [])) p (.lst ((piecesLeft n ts []).flatten.map nV))) q (.lst (ns.map V.int))) r (.lst (rgV 0 (n : Int)))) = H7 at s7 s27
        have hpa7 := s27 _ _ hpa
        have hps7 : Paired (PlacesAt K H7) us (piecesLeft n ts []) := Paired.mapP hps fun _ _ z => z.keep (keep_same s27)
        refine ⟨_, rfl, pa, rfl, ⟨_, SqL.of hpa7⟩, ?_⟩
        refine for_list (K := K) (a := pa) (xs := us) (fun i σ H' => ∃ y2 y3 y5 y6, σ = [some (.ref a), some (.ref wa), y2, y3, some (.ref pa), y5, y6, none, none] ∧ Same H7 H') ⟨_, _, _, _, rfl, Same.refl _⟩ (fun i σ H' _ ⟨_, _, _, _, _, s'⟩ => SqL.of (s' _ _ hpa7)) ?_ ?_
        · rintro i x σ H8 hx ⟨y2, y3, y5, y6, rfl, s8⟩
          obtain ⟨c, hc, hxc⟩ := paired_get hps7 hx
          obtain ⟨tc, rfl, htc⟩ := hxc.keep (keep_same s8)
          have hcm := List.mem_of_getElem? hc
          refine ⟨_, rfl, tc, rfl, ⟨_, htc⟩, ?_⟩
          refine for_tup (K := K) (a := tc) (xs := c.map nV) (fun i σ H' => ∃ y6, σ = [some (.ref a), some (.ref wa), y2, y3, some (.ref pa), some (.ref tc), y6, none, none] ∧ Same H8 H') ⟨_, rfl, Same.refl _⟩ (fun i σ H' _ ⟨_, _, s'⟩ => keep_same s' _ _ htc) ?_ ?_
          · rintro j y σ H9 hy ⟨y6, rfl, s9⟩
            rw [List.getElem?_map] at hy
            obtain ⟨z, hz, rfl⟩ := Option.map_eq_some_iff.mp hy
            have hzm := List.mem_of_getElem? hz
            have hzn : z < n := by
              obtain ⟨r', hr', e'⟩ := Wb.mem_pieces.mp hcm
              rw [e'] at hzm
              exact Wb.piece_lt hzm
            have s79 := L2.Same.trans s7 (L2.Same.trans s8 s9)
            refine ⟨_, rfl, _, rfl, .ref wa, n, ts, z, rfl, hw.keep (keep_same s79), ok, hzn, fun H10 t10 s10 h10 => ?_⟩
            refine ⟨t10, rfl, ⟨_, SqT.of h10⟩, fun D2 nD2 => ?_⟩
            refine lc_tup (K := K) (a := t10) (xs := (nearTo n ts z).map nV) (fun j H' => Same H10 H' ∧ H' D2 = some (.lst [])) ⟨same_upd nD2, upd_same⟩ (fun j H' _ q => SqT.of (q.1 _ _ h10)) ?_ ?_
            · rintro m y' H' hy' ⟨s', hD2⟩
              rw [List.getElem?_map] at hy'
              obtain ⟨z', hz', rfl⟩ := Option.map_eq_some_iff.mp hy'
              have hin := Wb.near_in hcm hzm (List.mem_of_getElem? hz')
              refine ⟨rfl, ?_⟩
              refine ⟨_, rfl, _, rfl, tc, _, rfl, .inr (keep_same (L2.Same.trans s9 (L2.Same.trans s10 s')) _ _ htc), rfl, all_flat _, _, rfl, ?_⟩
              rw [inV_nat, List.contains_iff_mem.mpr hin]
              exact iteF ⟨s', hD2⟩
            · rintro H11 ⟨s11, hD2⟩
              refine ⟨Nat.zero_le _, fun l nl => ?_⟩
              have sl := same_upd (o := .lst []) nl
              refine ⟨intD [], intD [], dp_ints (SqL.of (sl _ _ hD2)), dp_ints (SqL.of upd_same), shaped_ints _, shaped_ints _, _, rfl, ?_⟩
              rw [eqv_ints]
              refine iteF ?_
              exact ⟨_, rfl, L2.Same.trans (L2.Same.trans s9 s10) (L2.Same.trans s11 sl)⟩
          · rintro σ H9 ⟨y6, rfl, s9⟩
            exact ⟨_, _, _, _, rfl, L2.Same.trans s8 s9⟩
        · rintro σ H8 ⟨y2, y3, y5, y6, rfl, s8⟩
          -- some of the places
          have s78 := L2.Same.trans s7 s8
          refine ⟨_, rfl, _, rfl, wa, _, _, _, rfl, rfl, keep_same s78 _ _ hwa, at_nat (j := 0) rfl rfl, a, n, rfl, hp.same s78, n8, fun H9 t9 som sx9 hp9 hsub h9 => ?_⟩
          have x9 : SameX a H H9 := (Same.x s78).trans sx9
          have hw9 := hw.keep (hp.keep x9)
          have hinc : som.Pairwise (· < ·) := List.pairwise_lt_range.sublist hsub
          have hslt : ∀ p ∈ som, p < n := fun p hp => List.mem_range.mp (hsub.subset hp)
          refine ⟨_, rfl, _, rfl, .ref wa, .ref t9, n, ts, som, rfl, hw9, ok, ⟨t9, rfl, SqT.of h9⟩, hinc, hslt, fun H10 fa s10 nfa ⟨vs, hfa, hvs⟩ => ?_⟩
          refine ⟨fa, rfl, ⟨_, SqL.of hfa⟩, ?_⟩
          refine for_list (K := K) (a := fa) (xs := vs) (fun i σ H' => ∃ y5, σ = [some (.ref a), some (.ref wa), y2, y3, some (.ref pa), y5, y6, some (.ref t9), none] ∧ Same H10 H') ⟨_, rfl, Same.refl _⟩ (fun i σ H' _ ⟨_, _, s'⟩ => SqL.of (s' _ _ hfa)) ?_ ?_
          · rintro i x σ H11 hx ⟨y5, rfl, s11⟩
            obtain ⟨c, hc, hxc⟩ := paired_get hvs hx
            obtain ⟨tc, rfl, htc⟩ := hxc.keep (keep_same s11)
            have hcm := List.mem_of_getElem? hc
            have s911 := L2.Same.trans s10 s11
            have hw11 := hw9.keep (keep_same s911)
            have h11 : H11 t9 = some (.tup (som.map nV)) := s911 _ _ h9
            have hci : ∀ p ∈ som.tail, p < n := fun p hp => hslt p (List.mem_of_mem_tail hp)
            have hti : som.tail.Pairwise (· < ·) := hinc.sublist (List.tail_sublist _)
            -- pieces_without(web, some[1:])
            have hcl : c.length ≤ n := by
              obtain ⟨r', hr', e'⟩ := Wb.mem_pieces.mp hcm
              rw [e']
              exact Wb.srt_len _
            refine ⟨_, rfl, _, rfl, 1, rfl, t9, som.map nV, rfl, rfl, rfl, SqT.of h11, fun u H12 s12 hu => ?_⟩
            rw [← List.map_tail] at hu
            refine ⟨.ref wa, .ref u, n, ts, som.tail, rfl, hw11.keep (keep_same s12), ok, ⟨u, rfl, hu⟩, hti, hci, fun H13 fb s13 nfb ⟨ws, hfb, hws⟩ => ?_⟩
            have s1113 := L2.Same.trans s12 s13
            have htc13 := keep_same s1113 _ _ htc
            have hlw := Paired.length hws
            have hlen2 : (piecesLeft n ts som.tail).length ≤ n := by
              rw [Wb.pieces_eq, List.length_map]
              have := (List.filter_sublist (l := List.range n) (p := Wb.isRep n ts som.tail)).length_le
              rw [List.length_range] at this
              exact this
            refine ⟨fb, rfl, ⟨_, SqL.of hfb⟩, fun D nD => ?_⟩
            refine lc_list (K := K) (a := fb) (xs := ws) (fun j H' => Same H13 H' ∧ H' D = some (.lst ((((piecesLeft n ts som.tail).take j).filter fun d => (c.filter fun x => !d.contains x) == []).map fun _ => nV 1)))
              ⟨same_upd nD, upd_same⟩ (fun j H' _ q => SqL.of (q.1 _ _ hfb)) ?_ ?_
            · rintro j x H' hx ⟨s', hD⟩
              obtain ⟨d, hd, hxd⟩ := paired_get hws hx
              obtain ⟨td, rfl, htd⟩ := hxd.keep (keep_same s')
              refine ⟨rfl, ?_⟩
              refine ⟨_, rfl, tc, rfl, ⟨_, keep_same s' _ _ htc13⟩, fun D3 nD3 => ?_⟩
              refine lc_tup (K := K) (a := tc) (xs := c.map nV) (fun m H'' => Same H' H'' ∧ H'' D3 = some (.lst (((c.take m).filter fun x => !d.contains x).map nV))) ⟨same_upd nD3, upd_same⟩ (fun m H'' _ q => keep_same (L2.Same.trans s' q.1) _ _ htc13) ?_ ?_
              · rintro m y H'' hy ⟨s'', hD3⟩
                rw [List.getElem?_map] at hy
                obtain ⟨z, hz, rfl⟩ := Option.map_eq_some_iff.mp hy
                refine ⟨rfl, ?_⟩
                refine ⟨_, rfl, _, rfl, td, _, rfl, .inr (keep_same s'' _ _ htd), rfl, all_flat _, _, rfl, ?_⟩
                rw [inV_nat]
                cases e4 : d.contains z with
                | true =>
                  refine iteF ⟨s'', ?_⟩
                  rw [take_f hz (by rw [e4]; rfl)]
                  exact hD3
                | false =>
                  refine iteT ⟨_, rfl, _, hD3, ?_, same_new s'' nD3, ?_⟩
                  · exact small1000 (Nat.le_trans (take_le _ _ _ _) (by omega))
                  · rw [upd_same, take_t hz (by rw [e4]; rfl)]
              · rintro H'' ⟨s'', hD3⟩
                rw [List.length_map, List.take_length] at hD3
                refine ⟨Nat.zero_le _, fun l nl => ?_⟩
                have sl := same_upd (o := .lst []) nl
                have s3 := L2.Same.trans s'' sl
                refine ⟨intD (c.filter fun x => !d.contains x), intD [], dp_ints (SqL.of (sl _ _ hD3)), dp_ints (SqL.of upd_same), shaped_ints _, shaped_ints _, _, rfl, ?_⟩
                rw [eqv_nil]
                cases e5 : ((c.filter fun x => !d.contains x) == []) with
                | true =>
                  refine iteT ⟨_, s3 _ _ hD, ?_, same_new (L2.Same.trans s' s3) nD, ?_⟩
                  · exact small1000 (Nat.le_trans (take_le _ _ _ _) (by omega))
                  · rw [upd_same, take_t hd e5]
                    rfl
                | false =>
                  refine iteF ⟨L2.Same.trans s' s3, ?_⟩
                  rw [take_f hd e5]
                  exact s3 _ _ hD
            · rintro H14 ⟨s14, hD⟩
              rw [hlw, List.take_length] at hD
              have h1 := Wb.within_one hcm
              obtain ⟨d0, hd0⟩ := List.length_eq_one_iff.mp h1
              rw [hd0] at hD
              refine ⟨by show 1 ≤ sizeLine; decide, fun l nl => ?_⟩
              have sl := same_upd (o := .lst [V.int 1]) nl
              refine ⟨intD [1], intD [1], dp_ints (SqL.of (sl _ _ hD)), dp_ints (SqL.of upd_same), shaped_ints _, shaped_ints _, _, rfl, ?_⟩
              rw [eqv_ints]
              refine iteF ?_
              exact ⟨_, rfl, L2.Same.trans (L2.Same.trans s11 s1113) (L2.Same.trans s14 sl)⟩
          · rintro σ H11 ⟨y5, rfl, s11⟩
            exact k H11 (x9.trans (Same.x (L2.Same.trans s10 s11))) (hp9.same (L2.Same.trans s10 s11))
end
end K5
namespace K5
open PySem PySem.Spec PyProof.Rows L2
open Wb (WebOk Ties tlt tle adj nearTo bfs fresh srt piece piecesLeft moved rowTies ringTies pairs sidesTies)
/-! ### pieces as data -/
def plcD (ps : List Nat) : PyData := .tuple (ps.map fun p : Nat => PyData.int (p : Int))
def pcsD (L : List (List Nat)) : PyData := .list (L.map plcD)
theorem dp_plc {K : PySem.W.Frag} {H : Hp} {v : V} {ps : List Nat} (h : PlacesAt K H v ps) : Dp K H v (plcD ps) := by
  obtain ⟨a, rfl, ha⟩ := h
  exact .tup ha (dpa_ints ps)
theorem dpa_pcs {K : PySem.W.Frag} {H : Hp} : ∀ {vs : List V} {L : List (List Nat)}, Paired (PlacesAt K H) vs L → DpAll K H vs (L.map plcD)
  | _, _, .nil => .nil
  | _, _, .cons h t => .cons (dp_plc h) (dpa_pcs t)
theorem dp_pcs {K : PySem.W.Frag} {H : Hp} {a : Addr} {L : List (List Nat)} (h : PiecesAt K H a L) : Dp K H (.ref a) (pcsD L) := by
  obtain ⟨vs, hv, hp⟩ := h
  exact .lst (SqL.of hv) (dpa_pcs hp)
theorem lay_pcs : ∀ L : List (List Nat), PyData.canLayAll0 (L.map plcD) = true
  | [] => rfl
  | c :: r => by
    show (PyData.canLayAll0 (c.map fun p : Nat => PyData.int (p : Int)) && PyData.canLayAll0 (r.map plcD)) = true
    rw [lay_ints, lay_pcs r]
    rfl
theorem depth_pcs : ∀ L : List (List Nat), PyData.depthAll (L.map plcD) ≤ 1
  | [] => Nat.zero_le _
  | c :: r => by
    show max (PyData.depthAll (c.map fun p : Nat => PyData.int (p : Int)) + 1) (PyData.depthAll (r.map plcD)) ≤ 1
    have h1 := depth_pcs r
    have h2 := depth_ints c
    omega
theorem shaped_pcs (L : List (List Nat)) : SeqAt.shaped (pcsD L) = true := by
  show (PyData.canLayAll0 (L.map plcD) && decide (PyData.depthAll (L.map plcD) + 1 ≤ 64)) = true
  have h := depth_pcs L
  rw [lay_pcs, Bool.true_and, decide_eq_true_eq]
  omega
theorem eqv_pcs (L : List (List Nat)) : PyData.eqv (pcsD L) (pcsD L) = true := SeqAt.eqv_refl _ (lay_pcs L)
theorem clT (K : PySem.W.Frag) {X : Cx} (h : X.K = K := by rfl) : CallR X (.type "tuple") (fun xs H Q => ∃ p ys, xs = [.ref p] ∧ ((SqL K H p ys ∧ ∀ l, H l = none → Q (.ref l) (upd H l (.tup ys))) ∨ (SqT K H p ys ∧ Q (.ref p) H))) := by
  subst h
  exact call_tuple_of
def asgE : Stmt → Expr
  | .Assign _ v _ => v
  | _ => noE
theorem PlacesAt.x {K : PySem.W.Frag} {H H' : Hp} {D : Addr} {xs : List V} {v : V} {ps : List Nat} (h : PlacesAt K H v ps) (e : SameX D H H') (hD : H D = some (.lst xs)) : PlacesAt K H' v ps := h.keep (e.keep hD)
theorem pieces_len {n : Nat} {ts : Ties} {som : List Nat} : (piecesLeft n ts som).length ≤ n := by
  rw [Wb.pieces_eq, List.length_map]
  have := (List.filter_sublist (l := List.range n) (p := Wb.isRep n ts som)).length_le
  rw [List.length_range] at this
  exact this
theorem ints_cut {ns : List Int} {lo hi : Option Int} : ∀ x ∈ cutV (ns.map V.int) lo hi, ∃ z : Int, x = V.int z := fun x hx => by
  unfold cutV at hx
  have h1 := List.mem_of_mem_drop (List.mem_of_mem_take hx)
  obtain ⟨z, _, rfl⟩ := List.mem_map.mp h1
  exact ⟨z, rfl⟩
theorem cut_len {xs : List V} {lo hi : Option Int} : (cutV xs lo hi).length ≤ xs.length := by
  unfold cutV
  rw [List.length_take, List.length_drop]
  omega
section
variable {P : Program} {w : World} {K : PySem.W.Frag} {mg : Str → Option Value} {base : Heap} {f : Addr} {fd : FuncData}
abbrev sLaw : Stmt := topS 40
abbrev nmLaw : List Str := ["_law_script", "_law_cell_here", "_law_pen_here", "_law_one", "_law_other", "_law_web_here", "_law_both", "_law_moved", "_law_many", "_law_piece", "_law_place"]
theorem scLaw : FnScope nmLaw ["_law_script"] (defScope sLaw) := ⟨rfl, rfl, rfl, by decide +kernel, rfl, by decide +kernel, by decide +kernel⟩
abbrev lcMoved : Expr := asgE (forBody (bodyAt sLaw 0) 3)
def spLaw (K : PySem.W.Frag) : Sp := fun vs H Q _ => ∃ (a : Addr) (ns : List Int), vs = [.ref a] ∧ SqL K H a (ns.map V.int) ∧ ns.length ≤ 63 ∧ ∀ H', Q (.bl true) H'
/-- the defs that the law calls -/
structure Defs (P : Program) (w : World) (K : PySem.W.Frag) (mg : Str → Option Value) (base : Heap) : Prop where
  cell : Df P w K mg base 1 "_law_cell" ["_law_script", "_law_k"] (spCell K)
  pen : Df P w K mg base 1 "_law_pen" ["_law_cell_here"] spPen
  web : Df P w K mg base 2 "_law_web" ["_law_pen_here", "_law_upto"] (spLWeb K)
  beside : Df P w K mg base 6 "beside" ["web", "other"] (spBeside K)
  pieces : Df P w K mg base 6 "pieces" ["web"] (spPieces K)
  without : Df P w K mg base 6 "pieces_without" ["web", "some"] (spWithout K)
  isweb : Df P w K mg base 4 "is_web" ["thing"] (spIsWeb K)
  right : Df P w K mg base 7 "_law_web_right" ["_law_pen_here", "_law_web_here"] (spRight K)
  row : Df P w K mg base 4 "row" ["n"] (spRow K)
  ring : Df P w K mg base 4 "ring" ["n"] (spRing K)
  full : Df P w K mg base 4 "full" ["n"] (spFull K)
  sides : Df P w K mg base 4 "sides_web" ["a", "b"] (spSides K)
theorem ok_law (F : Fun K "law" "law" sLaw f fd) (T : Txt mg) (G : Defs P w K mg base) : FnOk P w K mg base CX0 8 f fd ["_law_script"] (spLaw K) := by
  refine F.ok scLaw (fun vs H Q E h => ?_) (fun cdv A outer s H vs Q E hr h => ?_)
  · obtain ⟨a, ns, rfl, _⟩ := h
    rfl
  · obtain ⟨a, ns, rfl, hS, hlen, k⟩ := h
    have r1 : Room 1 _ := hr.mono (by decide)
    have r2 : Room 2 _ := hr.mono (by decide)
    have r4 : Room 4 _ := hr.mono (by decide)
    have r6 : Room 6 _ := hr.mono (by decide)
    refine ⟨_, pss_cons (ps_for PassesOwn.never rfl (pi_list (pe_op op_cat (pe_lst (pa_cons (pe_df G.cell r1 (by rfl) (pa_cons (pv 0) (pa_cons pe_int pa_nil))) pa_nil)) (pe_slice sl_list (pv 0) (po_some pe_int) (po_some pe_int))))
        (pg_name (i := 1) scLaw.nd rfl (.inl rfl))
        (pss_cons (ps_set (i := 2) scLaw.nd rfl (.inl rfl) (pe_df G.pen r1 (by rfl) (pa_cons (pv 1) pa_nil)))
        (pss_cons (ps_asg (pe_tup (pa_cons (pe_df G.web r2 (by rfl) (pa_cons (pv 2) (pa_cons pe_int pa_nil))) (pa_cons (pe_df G.web r2 (by rfl) (pa_cons (pv 2) (pa_cons pe_int pa_nil))) (pa_cons (pe_df G.web r2 (by rfl) (pa_cons (pv 2) (pa_cons pe_int pa_nil))) pa_nil))))
          (pg_tup rfl (pgs_cons (pg_name (i := 3) scLaw.nd rfl (.inr rfl)) (pgs_cons (pg_name (i := 4) scLaw.nd rfl (.inl rfl)) (pgs_cons (pg_name (i := 5) scLaw.nd rfl (.inl rfl)) pgs_nil)))))
        (pss_cons (ps_set (i := 6) scLaw.nd rfl (.inl rfl) (pe_df G.beside r6 (by rfl) (pa_cons (pv 3) (pa_cons (pv 4) pa_nil))))
        (pss_cons (ps_setLc (i := 7) (own := [("_law_piece", 9)]) (g := gName 9) (by rfl) scLaw.nd rfl rfl (sw_true rfl rfl rfl (by decide +kernel)) (pi_list (pe_df G.pieces r6 (by rfl) (pa_cons (pv 4) pa_nil)))
            (blkOk_by (own := [("_law_piece", 9)]) (N := nmLaw) (sc := defScope sLaw) (by decide +kernel))
            (fun _ _ _ _ _ => pg_name (i := 9) scLaw.nd rfl (Or.inl rfl)) (fun _ _ _ _ _ => pts_nil)
            (fun _ _ _ _ _ => pe_callTy (clT K) (by rfl) T.tuple PyProof.Rows.boot_tuple (pa_cons
              (pe_lc (own := [("_law_place", 10)]) (g := gName 10) (by rfl) scLaw.nd (piT K (pv 9))
                (blkOk_by (own := [("_law_place", 10)]) (N := nmLaw) (sc := relS (lcScope lcMoved) (defScope sLaw)) (by decide +kernel))
                (fun _ _ _ _ _ => pg_name (i := 10) scLaw.nd rfl (Or.inl rfl)) (fun _ _ _ _ _ => pts_nil)
                (fun _ _ _ _ _ => pe_op op_add (pe_ix (ixT K) (pv 3) pe_int (fun _ _ => rfl)) (pv 10))) pa_nil)))
        (pss_cons (ps_if (PW.pt (pw_or (pt_not (pt_val (pe_df G.isweb r4 (by rfl) (pa_cons (pv 6) pa_nil))))
            (pw_or (pt_cmpR (op_neD hr.units) (pe_df G.pieces r6 (by rfl) (pa_cons (pv 6) pa_nil)) (pe_op op_cat (pe_df G.pieces r6 (by rfl) (pa_cons (pv 3) pa_nil)) (pv 7)) (nomark _))
            (pw_or1 (pt_not (pt_val (pe_df G.right hr (by rfl) (pa_cons (pv 2) (pa_cons (pv 5) pa_nil))))))))) (pss_one (ps_ret pe_bl)) pss_nil)
        (pss_one (ps_if (pt_not (pt_val (pe_df G.right hr (by rfl) (pa_cons (pv 2) (pa_cons (pv 6) pa_nil))))) (pss_one (ps_ret pe_bl)) pss_nil))))))))
      (pss_cons (ps_for PassesOwn.never rfl (pi_range2 (by rfl) T.range (pa_cons pe_int (pa_cons pe_int pa_nil))) (pg_name (i := 8) scLaw.nd rfl (.inl rfl))
        (pss_cons (ps_if (PW.pt (pw_or (pt_cmpR op_ne (pe_callB call_len_seq (by rfl) T.len PySem.boot_len (pa_cons (pe_df G.pieces r6 (by rfl) (pa_cons (pe_df G.row r4 (by rfl) (pa_cons (pv 8) pa_nil)) pa_nil)) pa_nil)) pe_int (nomark _))
            (pw_or1 (pt_cmpR op_ne (pe_callB call_len_seq (by rfl) T.len PySem.boot_len (pa_cons (pe_df G.pieces r6 (by rfl) (pa_cons (pe_df G.full r4 (by rfl) (pa_cons (pv 8) pa_nil)) pa_nil)) pa_nil)) pe_int (nomark _))))) (pss_one (ps_ret pe_bl)) pss_nil)
        (C8.pss_cut (ps_if (PW.pt (pw_and (pt_cmpR op_gt (pv 8) pe_int (nomark _)) (pw_and1 (pt_cmpR op_ne (pe_callB call_len_seq (by rfl) T.len PySem.boot_len (pa_cons
            (pe_df G.without r6 (by rfl) (pa_cons (pe_df G.row r4 (by rfl) (pa_cons (pv 8) pa_nil)) (pa_cons (pe_tup (pa_cons pe_int pa_nil)) pa_nil))) pa_nil)) pe_int (nomark _))))) (pss_one (ps_ret pe_bl)) pss_nil)
        (C8.pss_cut (ps_if (PW.pt (pw_and (pt_cmpR op_gt (pv 8) pe_int (nomark _)) (pw_and1 (pt_cmpR op_ne (pe_callB call_len_seq (by rfl) T.len PySem.boot_len (pa_cons
            (pe_df G.without r6 (by rfl) (pa_cons (pe_df G.ring r4 (by rfl) (pa_cons (pv 8) pa_nil)) (pa_cons (pe_tup (pa_cons (pe_op (op_as op_sub) (pv 8) pe_int) pa_nil)) pa_nil))) pa_nil)) pe_int (nomark _))))) (pss_one (ps_ret pe_bl)) pss_nil)
        (C8.pss_cut (ps_if (PW.pt (pw_and (pt_cmpR op_gt (pv 8) pe_int (nomark _)) (pw_and1 (pt_cmpR op_ne (pe_callB call_len_seq (by rfl) T.len PySem.boot_len (pa_cons
            (pe_df G.without r6 (by rfl) (pa_cons (pe_df G.full r4 (by rfl) (pa_cons (pv 8) pa_nil)) (pa_cons (pe_tup (pa_cons pe_int pa_nil)) pa_nil))) pa_nil)) pe_int (nomark _))))) (pss_one (ps_ret pe_bl)) pss_nil)
        (pss_one (ps_if (PW.pt (pw_and (pt_cmpR op_lt (pv 8) pe_int (nomark _)) (pw_and1 (pt_cmpR op_ne (pe_callB call_len_seq (by rfl) T.len PySem.boot_len (pa_cons
            (pe_df G.without r6 (by rfl) (pa_cons (pe_df G.sides r4 (by rfl) (pa_cons (pv 8) (pa_cons (pe_op (op_as op_sub) pe_int (pv 8)) pa_nil))) (pa_cons (pe_tup (pa_cons pe_int pa_nil)) pa_nil))) pa_nil))
            (pe_ix ix_list (pe_lst (pa_cons pe_int (pa_cons pe_int pa_nil))) (pe_callTy call_int1 (by rfl) T.int PyProof.Rows.boot_int (pa_cons (pe_cmpR op_eq (pv 8) pe_int (nomark _)) pa_nil)) (fun _ _ => rfl)) (nomark _))))) (pss_one (ps_ret pe_bl)) pss_nil)))))))
      (pss_one (ps_ret pe_bl))), ?_⟩
    -- the cells
    refine ⟨_, rfl, a, ns, rfl, hS, fun i0 => ⟨by show 1 ≤ sizeLine; decide, fun l0 nl0 => ?_⟩⟩
    have s0 := same_upd (o := .lst [V.int i0]) nl0
    refine ⟨_, rfl, 1, rfl, 6, rfl, a, ns.map V.int, rfl, s0.seq hS, fun c nc => ?_⟩
    have s1 := same_upd (o := .lst (cutV (ns.map V.int) (some 1) (some 6))) nc
    have hcl : (cutV (ns.map V.int) (some 1) (some 6)).length ≤ 63 := by
      have := cut_len (xs := ns.map V.int) (lo := some 1) (hi := some 6)
      rw [List.length_map] at this
      omega
    refine ⟨l0, c, [V.int i0], _, rfl, rfl, s1 _ _ upd_same, upd_same, Nat.le_of_lt (small1000 (by show 1 + _ ≤ 1000; omega)), fun L nL => ?_⟩
    have hitems : ∀ x ∈ [V.int i0] ++ cutV (ns.map V.int) (some 1) (some 6), ∃ z : Int, x = V.int z := fun x hx => by
      rcases List.mem_append.mp hx with h | h
      · exact ⟨i0, by simpa using h⟩
      · exact ints_cut x h
    generalize [V.int i0] ++ cutV (ns.map V.int) (some 1) (some 6) = items at hitems
    refine ⟨L, rfl, ⟨_, SqL.of upd_same⟩, ?_⟩
    refine for_list (K := K) (a := L) (xs := items) (fun i σ H' => ∃ y1 y2 y3 y4 y5 y6 y7, σ = [some (.ref a), y1, y2, y3, y4, y5, y6, y7, none, none, none] ∧ H' L = some (.lst items)) ⟨_, _, _, _, _, _, _, rfl, upd_same⟩ (fun i σ H' _ ⟨_, _, _, _, _, _, _, _, h⟩ => SqL.of h) ?_ ?_
    · rintro i x σ H0 hx ⟨y1, y2, y3, y4, y5, y6, y7, rfl, hL0⟩
      obtain ⟨z, rfl⟩ := hitems x (List.mem_of_getElem? hx)
      refine ⟨_, rfl, z, rfl, fun H1 p s01 np hp1 => ?_⟩
      have neL : L ≠ p := ne_of_none hL0 np
      have hL1 := s01 _ _ hL0
      refine ⟨_, rfl, ?_⟩
      refine ⟨p, 4, rfl, hp1, by decide, by decide, fun H2 b1 n1 ts1 x2 hp2 ok1 le1 w1 => ?_⟩
      refine ⟨_, rfl, p, 4, rfl, hp2, by decide, by decide, fun H3 b2 n2 ts2 x3 hp3 ok2 le2 w2 => ?_⟩
      refine ⟨_, rfl, p, 8, rfl, hp3, by decide, by decide, fun H4 b3 n3 ts3 x4 hp4 ok3 le3 w3 => ?_⟩
      refine ⟨by show 3 ≤ sizeLine; decide, fun t nt => ?_⟩
      have s45 := same_upd (o := .tup [.ref b1, .ref b2, .ref b3]) nt
      refine ⟨t, [.ref b1, .ref b2, .ref b3], rfl, SqT.of upd_same, rfl, .ref b1, _, rfl, .ref b2, _, rfl, .ref b3, [], rfl, rfl, ?_⟩
      have w1' := ((w1.keep (hp2.keep x3)).keep (hp3.keep x4)).keep (keep_same s45)
      have w2' := (w2.keep (hp3.keep x4)).keep (keep_same s45)
      have w3' := w3.keep (keep_same s45)
      have hp5 := hp4.same s45
      have hL5 := s45 _ _ (x4 _ _ neL (x3 _ _ neL (x2 _ _ neL hL1)))
      generalize upd H4 t (.tup [.ref b1, .ref b2, .ref b3]) = H5 at w1' w2' w3' hp5 hL5
      have okb : WebOk (n1 + n2) (ts1 ++ moved n1 ts2) := Wb.beside_ok ok1 ok2 (by omega)
      refine ⟨_, rfl, _, rfl, .ref b1, .ref b2, n1, n2, ts1, ts2, rfl, w1', w2', ok1, ok2, by omega, fun H6 bb s6 wb => ?_⟩
      -- the second one's pieces, moved on
      refine ⟨_, rfl, .ref b2, n2, ts2, rfl, w2'.keep (keep_same s6), ok2, fun H7 pa s7 npa ⟨us, hpa, hps⟩ => ?_⟩
      have s67 := L2.Same.trans s6 s7
      obtain ⟨a1, c1, ea1, ha1, _⟩ := w1'.keep (keep_same s67)
      cases ea1
      refine ⟨pa, rfl, ⟨_, SqL.of hpa⟩, fun D nD => ?_⟩
      have hlu := Paired.length hps
      have hl2 := pieces_len (n := n2) (ts := ts2) (som := [])
      refine lc_list (K := K) (a := pa) (xs := us) (fun j H' => Same H7 H' ∧ ∃ xs, H' D = some (.lst xs) ∧ Paired (PlacesAt K H') xs (((piecesLeft n2 ts2 []).take j).map fun c => c.map (n1 + ·))) ⟨same_upd nD, [], upd_same, .nil⟩ (fun j H' _ q => SqL.of (q.1 _ _ hpa)) ?_ ?_
      · rintro j y H' hy ⟨s', xs, hD, hxs⟩
        obtain ⟨cc, hcc, hyc⟩ := paired_get hps hy
        obtain ⟨td, rfl, htd⟩ := hyc.keep (keep_same s')
        refine ⟨rfl, yes_t ?_⟩
        refine ⟨_, rfl, td, rfl, ⟨_, htd⟩, fun D2 nD2 => ?_⟩
        have hcl8 : cc.length ≤ 8 := by
          obtain ⟨r', _, e'⟩ := Wb.mem_pieces.mp (List.mem_of_getElem? hcc)
          have := Wb.srt_len (n := n2) (bfs n2 ts2 [] n2 0 [r'])
          rw [e']
          show (srt n2 (bfs n2 ts2 [] n2 0 [r'])).length ≤ 8
          omega
        refine lc_tup (K := K) (a := td) (xs := cc.map nV) (fun m H'' => Same H' H'' ∧ H'' D2 = some (.lst ((cc.take m).map fun q => nV (n1 + q)))) ⟨same_upd nD2, upd_same⟩ (fun m H'' _ q => keep_same q.1 _ _ htd) ?_ ?_
        · rintro m u H'' hu ⟨s'', hD2⟩
          rw [List.getElem?_map] at hu
          obtain ⟨q, hq, rfl⟩ := Option.map_eq_some_iff.mp hu
          refine ⟨rfl, yes_t ?_⟩
          refine ⟨_, rfl, b1, _, _, _, rfl, rfl, keep_same (L2.Same.trans s' s'') _ _ ha1, at_nat (j := 0) rfl rfl, _, rfl, _, _, rfl, rfl, _, hD2, ?_, same_new s'' nD2, ?_⟩
          · rw [List.length_map, List.length_take]
            exact small1000 (by omega)
          · rw [upd_same, map_t hq]
            rfl
        · rintro H'' ⟨s'', hD2⟩
          rw [List.length_map, List.take_length] at hD2
          refine ⟨D2, _, rfl, .inl ⟨SqL.of hD2, fun l nl => ?_⟩⟩
          have sl := same_upd (o := .tup (cc.map fun q => nV (n1 + q))) nl
          have s3 := L2.Same.trans s'' sl
          have hl3 := Paired.length hxs
          rw [List.length_map, List.length_take] at hl3
          have hD3 := s3 _ _ hD
          refine ⟨xs, hD3, small1000 (by omega), same_new (L2.Same.trans s' s3) nD, _, upd_same, ?_⟩
          rw [map_t hcc]
          refine Paired.snoc (Paired.mapP hxs fun _ _ z => (z.keep (keep_same s3)).x upd_x hD3) ⟨l, rfl, ?_⟩
          refine (upd_x.keep (K := K) hD3) _ _ (SqT.of ?_)
          rw [upd_same, List.map_map]
          rfl
      · rintro H8 ⟨s8, xs, hD, hxs⟩
        rw [hlu, List.take_length] at hxs
        have s68 := L2.Same.trans s67 s8
        have wb8 := wb.keep (keep_same (L2.Same.trans s7 s8))
        -- is_web(both)
        refine ⟨_, rfl, .ref bb, n1 + n2, _, rfl, wb8, okb, fun H9 s9 => ⟨true, rfl, iteF ?_⟩⟩
        refine ⟨_, rfl, .ref bb, n1 + n2, _, rfl, wb8.keep (keep_same s9), okb, fun H10 p10 s10 np10 hP10 => ?_⟩
        have s610 := L2.Same.trans s68 (L2.Same.trans s9 s10)
        refine ⟨_, rfl, .ref b1, n1, ts1, rfl, w1'.keep (keep_same s610), ok1, fun H11 p11 s11 np11 ⟨vs, h11, hp11⟩ => ?_⟩
        have s811 := L2.Same.trans (L2.Same.trans s9 s10) s11
        have hlv := Paired.length hp11
        have hl1 := pieces_len (n := n1) (ts := ts1) (som := [])
        have hlx := Paired.length hxs
        rw [List.length_map] at hlx
        refine ⟨_, rfl, p11, D, vs, xs, rfl, rfl, h11, s811 _ _ hD, Nat.le_of_lt (small1000 (by omega)), fun cc nc => ?_⟩
        have sc := same_upd (o := .lst (vs ++ xs)) nc
        have hsum : PiecesAt K (upd H11 cc (.lst (vs ++ xs))) cc (piecesLeft (n1 + n2) (ts1 ++ moved n1 ts2) []) := by
          refine ⟨vs ++ xs, upd_same, ?_⟩
          rw [Wb.pieces_beside ok1.tie]
          exact paired_app (Paired.mapP hp11 fun _ _ z => z.keep (keep_same sc)) (Paired.mapP hxs fun _ _ z => z.keep (keep_same (L2.Same.trans s811 sc)))
        refine ⟨_, _, dp_pcs (hP10.same (L2.Same.trans s11 sc)), dp_pcs hsum, shaped_pcs _, shaped_pcs _, _, rfl, ?_⟩
        rw [eqv_pcs]
        refine iteF ?_
        have s12 := L2.Same.trans s610 (L2.Same.trans s11 sc)
        have wb12 := wb8.keep (keep_same (L2.Same.trans s811 sc))
        generalize upd H11 cc (.lst (vs ++ xs)) = H12 at s12 wb12
        refine ⟨_, rfl, _, rfl, p, .ref b3, n3, ts3, rfl, hp5.same s12, w3'.keep (keep_same s12), ok3, fun H13 x13 hp13 => ⟨true, rfl, iteF ?_⟩⟩
        refine ⟨_, rfl, _, rfl, p, .ref bb, n1 + n2, _, rfl, hp13, wb12.keep ((hp5.same s12).keep x13), okb, fun H14 x14 hp14 => ⟨true, rfl, iteF ?_⟩⟩
        exact ⟨_, _, _, _, _, _, _, rfl, x14 _ _ neL (x13 _ _ neL (s12 _ _ hL5))⟩
    · rintro σ H0 ⟨y1, y2, y3, y4, y5, y6, y7, rfl, _⟩
      -- the fixed webs
      refine ⟨_, _, rfl, ⟨by decide, by decide, by decide, by decide⟩, ?_⟩
      refine for_range (lo := 1) (n := 8) (fun i σ H' => ∃ y8, σ = [some (.ref a), y1, y2, y3, y4, y5, y6, y7, y8, none, none]) ⟨_, rfl⟩ ?_ ?_
      · rintro i σ H1 hi ⟨y8, rfl⟩
        obtain ⟨m, em⟩ : ∃ m, m = i + 1 := ⟨_, rfl⟩
        have e1 : V.int ((1 : Int) + (i : Nat)) = nV m := by
          show V.int ((1 : Int) + (i : Nat)) = V.int (m : Int)
          congr 1
          omega
        rw [e1]
        have m1 : 1 ≤ m := by omega
        have m8 : m ≤ 8 := by omega
        -- rows and full webs are one piece
        refine ⟨_, rfl, m, rfl, m1, m8, fun H2 a2 s2 w2 => ?_⟩
        refine ⟨.ref a2, m, _, rfl, w2, Wb.row_ok m1 m8, fun H3 f3 s3 _ ⟨us, h3, hp3⟩ => ?_⟩
        have l3 : us.length = 1 := (Paired.length hp3).trans (Wb.row_one m1 m8)
        refine ⟨f3, us, rfl, .inl (SqL.of h3), rfl, _, rfl, ?_⟩
        rw [l3]
        refine iteF ?_
        refine ⟨_, rfl, m, rfl, m1, m8, fun H4 a4 s4 w4 => ?_⟩
        refine ⟨.ref a4, m, _, rfl, w4, Wb.full_ok m1 m8, fun H5 f5 s5 _ ⟨us5, h5, hp5⟩ => ?_⟩
        have l5 : us5.length = 1 := (Paired.length hp5).trans (Wb.full_one m1 m8)
        refine ⟨f5, us5, rfl, .inl (SqL.of h5), rfl, _, rfl, ?_⟩
        rw [l5]
        refine iteF ?_
        -- a row without an inner place
        refine ⟨fun σ' H' => σ' = [some (.ref a), y1, y2, y3, y4, y5, y6, y7, some (nV m), none, none], ?_, ?_⟩
        · refine ⟨_, rfl, _, _, rfl, rfl, _, rfl, ?_⟩
          refine ite2 (fun hc => ?_) (fun _ => iteF rfl)
          have hm2 : 2 < m := by
            have := of_decide_eq_true hc
            omega
          refine ⟨_, rfl, m, rfl, m1, m8, fun H6 a6 s6 w6 => ?_⟩
          refine ⟨by show 1 ≤ sizeLine; decide, fun t nt => ?_⟩
          refine ⟨.ref a6, .ref t, m, _, [1], rfl, w6.keep (keep_same (same_upd nt)), Wb.row_ok m1 m8, ⟨t, rfl, SqT.of upd_same⟩, by simp, by simp; omega, fun H7 f7 s7 _ ⟨us7, h7, hp7⟩ => ?_⟩
          have l7 : us7.length = 2 := (Paired.length hp7).trans (Wb.row_two hm2 m8)
          refine ⟨f7, us7, rfl, .inl (SqL.of h7), rfl, _, rfl, ?_⟩
          rw [l7]
          exact iteF rfl
        rintro σ H6 rfl
        -- a ring without its last place
        refine ⟨fun σ' H' => σ' = [some (.ref a), y1, y2, y3, y4, y5, y6, y7, some (nV m), none, none], ?_, ?_⟩
        · refine ⟨_, rfl, _, _, rfl, rfl, _, rfl, ?_⟩
          refine ite2 (fun hc => ?_) (fun _ => iteF rfl)
          have hm2 : 2 < m := by
            have := of_decide_eq_true hc
            omega
          refine ⟨_, rfl, m, rfl, by omega, m8, fun H7 a6 s6 w6 => ?_⟩
          refine ⟨_, rfl, nV (m - 1), _, _, rfl, rfl, (by show V.int ((m : Int) - 1) = V.int ((m - 1 : Nat) : Int); congr 1; omega), by show 1 ≤ sizeLine; decide, fun t nt => ?_⟩
          refine ⟨.ref a6, .ref t, m, _, [m - 1], rfl, w6.keep (keep_same (same_upd nt)), Wb.ring_ok (by omega) m8, ⟨t, rfl, SqT.of upd_same⟩, by simp, by simp; omega, fun H7 f7 s7 _ ⟨us7, h7, hp7⟩ => ?_⟩
          have l7 : us7.length = 1 := (Paired.length hp7).trans (Wb.ring_one hm2 m8)
          refine ⟨f7, us7, rfl, .inl (SqL.of h7), rfl, _, rfl, ?_⟩
          rw [l7]
          exact iteF rfl
        rintro σ H7 rfl
        -- a full web without its first place
        refine ⟨fun σ' H' => σ' = [some (.ref a), y1, y2, y3, y4, y5, y6, y7, some (nV m), none, none], ?_, ?_⟩
        · refine ⟨_, rfl, _, _, rfl, rfl, _, rfl, ?_⟩
          refine ite2 (fun hc => ?_) (fun _ => iteF rfl)
          have hm2 : 2 < m := by
            have := of_decide_eq_true hc
            omega
          refine ⟨_, rfl, m, rfl, m1, m8, fun H8 a6 s6 w6 => ?_⟩
          refine ⟨by show 1 ≤ sizeLine; decide, fun t nt => ?_⟩
          refine ⟨.ref a6, .ref t, m, _, [0], rfl, w6.keep (keep_same (same_upd nt)), Wb.full_ok m1 m8, ⟨t, rfl, SqT.of upd_same⟩, by simp, by simp; omega, fun H7 f7 s7 _ ⟨us7, h7, hp7⟩ => ?_⟩
          have l7 : us7.length = 1 := (Paired.length hp7).trans (Wb.full_less hm2 m8)
          refine ⟨f7, us7, rfl, .inl (SqL.of h7), rfl, _, rfl, ?_⟩
          rw [l7]
          exact iteF rfl
        rintro σ H8 rfl
        -- a web of two sides without its first place
        refine ⟨_, rfl, _, _, rfl, rfl, _, rfl, ?_⟩
        refine ite2 (fun hc => ?_) (fun _ => iteF ⟨_, rfl⟩)
        have hm7 : m ≤ 7 := by
          have := of_decide_eq_true hc
          omega
        refine ⟨_, rfl, _, rfl, nV (8 - m), _, _, rfl, rfl, (by show V.int ((8 : Int) - (m : Int)) = V.int ((8 - m : Nat) : Int); congr 1; omega), ?_⟩
        refine ⟨m, rfl, m1, hm7, fun H9 a9 s9 w9 => ?_⟩
        refine ⟨by show 1 ≤ sizeLine; decide, fun t nt => ?_⟩
        refine ⟨.ref a9, .ref t, 8, _, [0], rfl, w9.keep (keep_same (same_upd nt)), Wb.sides_ok m1 hm7, ⟨t, rfl, SqT.of upd_same⟩, by simp, by simp, fun H10 f10 s10 _ ⟨us10, h10, hp10⟩ => ?_⟩
        have l10 := (Paired.length hp10).trans (Wb.sides_less m1 hm7)
        refine ⟨f10, us10, rfl, .inl (SqL.of h10), ?_⟩
        refine ⟨by show 2 ≤ sizeLine; decide, fun l2 nl2 => ?_⟩
        refine ⟨_, rfl, rfl, .inr ⟨_, rfl, ?_⟩⟩
        by_cases hm : m = 1
        · subst hm
          rw [if_pos rfl] at l10
          refine ⟨l2, _, _, _, rfl, rfl, SqL.of upd_same, at_nat (j := 1) rfl rfl, rfl, _, rfl, ?_⟩
          rw [l10]
          exact iteF ⟨_, rfl⟩
        · rw [if_neg hm] at l10
          have hd : decide (V.int (m : Int) = V.int 1) = false := decide_eq_false fun h => hm (nat_eq (q := 1) h)
          refine ⟨l2, _, _, _, rfl, rfl, SqL.of upd_same, at_nat (j := 0) ?_ rfl, rfl, _, rfl, ?_⟩
          · show (if decide (V.int (m : Int) = V.int 1) = true then (1 : Int) else 0) = ((0 : Nat) : Int)
            rw [hd]
            rfl
          · rw [l10]
            exact iteF ⟨_, rfl⟩
      · rintro σ H1 ⟨y8, rfl⟩
        exact k H1
end
end K5
namespace K5
open PySem PySem.Spec PyProof.Rows L2
/-! ### what the top has written -/
/-- a def as the top leaves it -/
structure Left (K : PySem.W.Frag) (x : Str) (st : Stmt) (f : Addr) : Prop where
  ns : PySem.W.nsIn K mainGlobals x = some (some (.ref f))
  fn : ∃ fd, Fun K x x st f fd
theorem left_mk {K : PySem.W.Frag} {x : Str} {st : Stmt} {f : Addr} {oc : Value} {od an : Option Addr} {osl : Array (Option Value)} {kV doc pm cdv ct : Value} (a : PySem.W.nsIn K mainGlobals x = some (some (.ref f))) (l : K.lookup f = some ⟨oc, od, .func (PySem.W.fnOf x x (defArgs st) (defBody st) (defScope st) .none kV doc pm an cdv ct), osl⟩)
    (c : PySem.W.codeIn K cdv x = true) (k : PySem.W.keepIn K (.ref f) = true) : Left K x st f := ⟨a, _, fun_mk l c k⟩
theorem df_of {P : Program} {w : World} {K : PySem.W.Frag} {mg : Str → Option Value} {base h : Heap} {k : Nat} {x : Str} {st : Stmt} {f : Addr} {ps : List Str} {sp : Sp} (X : K.In h) (G : h.Ns mainGlobals mg) (L : Left K x st f)
    (ok : ∀ fd, Fun K x x st f fd → FnOk P w K mg base CX0 k f fd ps sp) (b : ∀ fd, Fun K x x st f fd → Binds K fd ps []) : Df P w K mg base k x ps sp := by
  obtain ⟨a, fd, F⟩ := L
  exact ⟨⟨f, fd, ok fd F, PySem.W.mg_of X G a, F.kp, b fd F⟩⟩
theorem all_mk {l : PySem.W.OpenLaw} {w : World} {K : PySem.W.Frag} {h : Heap} {mg : Str → Option Value} {fa : Addr} (X : K.In h) (G : h.Ns mainGlobals mg) (hfa : mg "law" = some (.ref fa))
    {f0 : Addr} {f1 : Addr} {f2 : Addr} {f3 : Addr} {f4 : Addr} {f5 : Addr} {f6 : Addr} {f7 : Addr} {f8 : Addr} {f9 : Addr} {f10 : Addr} {f11 : Addr} {f12 : Addr} {f13 : Addr} {f14 : Addr} {f15 : Addr} {f16 : Addr} {f17 : Addr} {f18 : Addr} {f19 : Addr} {f20 : Addr} {f21 : Addr} {f22 : Addr} {f23 : Addr} {f24 : Addr} {f25 : Addr} {f26 : Addr} {f27 : Addr} {f28 : Addr} {f29 : Addr}
    (L0 : Left K "is_whole" sWhole f0)
    (L1 : Left K "is_from" sFrom f1)
    (L2 : Left K "is_tie" sTie f2)
    (L3 : Left K "is_web" sWeb f3)
    (L4 : Left K "must_web" sMustWeb f4)
    (L5 : Left K "is_place" sPlace f5)
    (L6 : Left K "must_place" sMustPlace f6)
    (L7 : Left K "are_places" sPlaces f7)
    (L8 : Left K "must_places" sMustPlaces f8)
    (L9 : Left K "must_number" sNumber f9)
    (L10 : Left K "tied" sTied f10)
    (L11 : Left K "near_to" sNearTo f11)
    (L12 : Left K "near" sNear f12)
    (L13 : Left K "pieces_left" sLeft f13)
    (L14 : Left K "pieces" sPieces f14)
    (L15 : Left K "pieces_without" sWithout f15)
    (L16 : Left K "row_ties" sRowT f16)
    (L17 : Left K "row" sRow f17)
    (L18 : Left K "ring" sRing f18)
    (L19 : Left K "full" sFull f19)
    (L20 : Left K "sides_web" sSides f20)
    (L21 : Left K "beside" sBeside f21)
    (L22 : Left K "_law_draw" sDraw f22)
    (L23 : Left K "_law_some" sSome f23)
    (L24 : Left K "_law_cell" sCell f24)
    (L25 : Left K "_law_pen" sPen f25)
    (L26 : Left K "_law_pairs" sPairs f26)
    (L27 : Left K "_law_web" sLWeb f27)
    (L28 : Left K "_law_web_right" sRight f28)
    {od an : Option Addr} {sl : Array (Option Value)} {oc kV dc pm cd ct : Value}
    (aL : PySem.W.nsIn K mainGlobals "law" = some (some (.ref f29))) (lL : K.lookup f29 = some ⟨oc, od, .func (PySem.W.fnOf "law" "law" (defArgs sLaw) (defBody sLaw) (defScope sLaw) .none kV dc pm an cd ct), sl⟩) (cL : PySem.W.codeIn K cd "law" = true) (kL : PySem.W.keepIn K (.ref f29) = true)
    (z0 : PySem.W.nsIn K mainGlobals "isinstance" = some none)
    (z1 : PySem.W.nsIn K mainGlobals "int" = some none)
    (z2 : PySem.W.nsIn K mainGlobals "bool" = some none)
    (z3 : PySem.W.nsIn K mainGlobals "tuple" = some none)
    (z4 : PySem.W.nsIn K mainGlobals "list" = some none)
    (z5 : PySem.W.nsIn K mainGlobals "len" = some none)
    (z6 : PySem.W.nsIn K mainGlobals "enumerate" = some none)
    (z7 : PySem.W.nsIn K mainGlobals "min" = some none)
    (z8 : PySem.W.nsIn K mainGlobals "max" = some none)
    (z9 : PySem.W.nsIn K mainGlobals "range" = some none)
    (z10 : PySem.W.nsIn K mainGlobals "any" = some none)
    (z11 : PySem.W.nsIn K mainGlobals "sorted" = some none)
    (z12 : PySem.W.nsIn K mainGlobals "sum" = some none)
    {tm : Tok} (zm : PySem.W.nsIn K mainGlobals "MOST" = some (some (.int 8 tm))) :
    ∃ fd : FuncData, (∀ (s : Shared) (v : Value), BindsTo s fd ⟨[v], []⟩ [("_law_script", v)]) ∧ ∀ base : Heap, K.In base → base.Ns mainGlobals mg → FnOk l.prog w K mg base CX0 8 fa fd ["_law_script"] (spLaw K) := by
  have e := hfa.symm.trans (PySem.W.mg_of X G aL)
  cases e
  have T : Txt mg := ⟨PySem.W.mg_none_of X G z0, PySem.W.mg_none_of X G z1, PySem.W.mg_none_of X G z2, PySem.W.mg_none_of X G z3, PySem.W.mg_none_of X G z4, PySem.W.mg_none_of X G z5, PySem.W.mg_none_of X G z6, PySem.W.mg_none_of X G z7, PySem.W.mg_none_of X G z8, PySem.W.mg_none_of X G z9, PySem.W.mg_none_of X G z10, PySem.W.mg_none_of X G z11, PySem.W.mg_none_of X G z12, ⟨_, PySem.W.mg_of X G zm⟩⟩
  have F := fun_mk (st := sLaw) lL cL kL
  refine ⟨PySem.W.fnOf "law" "law" (defArgs sLaw) (defBody sLaw) (defScope sLaw) .none kV dc pm an cd ct, fun s v => .of_eq rfl, fun base _ _ => ?_⟩
  have D_is_whole : Df l.prog w K mg base 1 "is_whole" ["thing"] spWhole := df_of X G L0 (fun fd F => ok_whole F T) (fun fd F => F.binds fun _ _ _ _ _ _ us hl => match us, hl with | [_], _ => rfl)
  have D_is_from : Df l.prog w K mg base 2 "is_from" ["thing", "low", "high"] spFrom := df_of X G L1 (fun fd F => ok_from F D_is_whole) (fun fd F => F.binds fun _ _ _ _ _ _ us hl => match us, hl with | [_, _, _], _ => rfl)
  have D_is_tie : Df l.prog w K mg base 3 "is_tie" ["thing", "many"] (spTie K) := df_of X G L2 (fun fd F => ok_tie F T D_is_from) (fun fd F => F.binds fun _ _ _ _ _ _ us hl => match us, hl with | [_, _], _ => rfl)
  have D_is_web : Df l.prog w K mg base 4 "is_web" ["thing"] (spIsWeb K) := df_of X G L3 (fun fd F => ok_isweb F T D_is_from D_is_tie) (fun fd F => F.binds fun _ _ _ _ _ _ us hl => match us, hl with | [_], _ => rfl)
  have D_must_web : Df l.prog w K mg base 5 "must_web" ["web"] (spMustWeb K) := df_of X G L4 (fun fd F => ok_mustweb F D_is_web) (fun fd F => F.binds fun _ _ _ _ _ _ us hl => match us, hl with | [_], _ => rfl)
  have D_is_place : Df l.prog w K mg base 3 "is_place" ["web", "thing"] (spPlace K) := df_of X G L5 (fun fd F => ok_place F D_is_from) (fun fd F => F.binds fun _ _ _ _ _ _ us hl => match us, hl with | [_, _], _ => rfl)
  have D_must_place : Df l.prog w K mg base 4 "must_place" ["web", "place"] (spMustPlace K) := df_of X G L6 (fun fd F => ok_mustplace F D_is_place) (fun fd F => F.binds fun _ _ _ _ _ _ us hl => match us, hl with | [_, _], _ => rfl)
  have D_are_places : Df l.prog w K mg base 4 "are_places" ["web", "thing"] (spPlaces K) := df_of X G L7 (fun fd F => ok_places F T D_is_place) (fun fd F => F.binds fun _ _ _ _ _ _ us hl => match us, hl with | [_, _], _ => rfl)
  have D_must_places : Df l.prog w K mg base 5 "must_places" ["web", "some"] (spMustPlaces K) := df_of X G L8 (fun fd F => ok_mustplaces F D_are_places) (fun fd F => F.binds fun _ _ _ _ _ _ us hl => match us, hl with | [_, _], _ => rfl)
  have D_must_number : Df l.prog w K mg base 3 "must_number" ["number", "low", "high"] spNumber := df_of X G L9 (fun fd F => ok_number F D_is_from) (fun fd F => F.binds fun _ _ _ _ _ _ us hl => match us, hl with | [_, _, _], _ => rfl)
  have D_tied : Df l.prog w K mg base 1 "tied" ["web", "one", "other"] (spTied K) := df_of X G L10 (fun fd F => ok_tied F T) (fun fd F => F.binds fun _ _ _ _ _ _ us hl => match us, hl with | [_, _, _], _ => rfl)
  have D_near_to : Df l.prog w K mg base 2 "near_to" ["web", "place"] (spNearTo K) := df_of X G L11 (fun fd F => ok_nearto F T D_tied) (fun fd F => F.binds fun _ _ _ _ _ _ us hl => match us, hl with | [_, _], _ => rfl)
  have D_near : Df l.prog w K mg base 6 "near" ["web", "place"] (spNear K) := df_of X G L12 (fun fd F => ok_near F D_must_web D_must_place D_near_to) (fun fd F => F.binds fun _ _ _ _ _ _ us hl => match us, hl with | [_, _], _ => rfl)
  have D_pieces_left : Df l.prog w K mg base 3 "pieces_left" ["web", "some"] (spLeft K) := df_of X G L13 (fun fd F => ok_left F T D_near_to) (fun fd F => F.binds fun _ _ _ _ _ _ us hl => match us, hl with | [_, _], _ => rfl)
  have D_pieces : Df l.prog w K mg base 6 "pieces" ["web"] (spPieces K) := df_of X G L14 (fun fd F => ok_pieces F D_must_web D_pieces_left) (fun fd F => F.binds fun _ _ _ _ _ _ us hl => match us, hl with | [_], _ => rfl)
  have D_pieces_without : Df l.prog w K mg base 6 "pieces_without" ["web", "some"] (spWithout K) := df_of X G L15 (fun fd F => ok_without F D_must_web D_must_places D_pieces_left) (fun fd F => F.binds fun _ _ _ _ _ _ us hl => match us, hl with | [_, _], _ => rfl)
  have D_row_ties : Df l.prog w K mg base 1 "row_ties" ["n"] spRowT := df_of X G L16 (fun fd F => ok_rowt F T) (fun fd F => F.binds fun _ _ _ _ _ _ us hl => match us, hl with | [_], _ => rfl)
  have D_row : Df l.prog w K mg base 4 "row" ["n"] (spRow K) := df_of X G L17 (fun fd F => ok_row F T D_must_number D_row_ties) (fun fd F => F.binds fun _ _ _ _ _ _ us hl => match us, hl with | [_], _ => rfl)
  have D_ring : Df l.prog w K mg base 4 "ring" ["n"] (spRing K) := df_of X G L18 (fun fd F => ok_ring F T D_must_number D_row_ties) (fun fd F => F.binds fun _ _ _ _ _ _ us hl => match us, hl with | [_], _ => rfl)
  have D_full : Df l.prog w K mg base 4 "full" ["n"] (spFull K) := df_of X G L19 (fun fd F => ok_full F T D_must_number) (fun fd F => F.binds fun _ _ _ _ _ _ us hl => match us, hl with | [_], _ => rfl)
  have D_sides_web : Df l.prog w K mg base 4 "sides_web" ["a", "b"] (spSides K) := df_of X G L20 (fun fd F => ok_sides F T D_is_from D_must_number) (fun fd F => F.binds fun _ _ _ _ _ _ us hl => match us, hl with | [_, _], _ => rfl)
  have D_beside : Df l.prog w K mg base 6 "beside" ["web", "other"] (spBeside K) := df_of X G L21 (fun fd F => ok_beside F T D_must_web) (fun fd F => F.binds fun _ _ _ _ _ _ us hl => match us, hl with | [_, _], _ => rfl)
  have D__law_draw : Df l.prog w K mg base 1 "_law_draw" ["_law_pen_here", "_law_many"] spDraw := df_of X G L22 (fun fd F => ok_draw F) (fun fd F => F.binds fun _ _ _ _ _ _ us hl => match us, hl with | [_, _], _ => rfl)
  have D__law_some : Df l.prog w K mg base 2 "_law_some" ["_law_pen_here", "_law_many"] (spSome K) := df_of X G L23 (fun fd F => ok_some F T D__law_draw) (fun fd F => F.binds fun _ _ _ _ _ _ us hl => match us, hl with | [_, _], _ => rfl)
  have D__law_cell : Df l.prog w K mg base 1 "_law_cell" ["_law_script", "_law_k"] (spCell K) := df_of X G L24 (fun fd F => ok_cell F T) (fun fd F => F.binds fun _ _ _ _ _ _ us hl => match us, hl with | [_, _], _ => rfl)
  have D__law_pen : Df l.prog w K mg base 1 "_law_pen" ["_law_cell_here"] spPen := df_of X G L25 (fun fd F => ok_pen F T) (fun fd F => F.binds fun _ _ _ _ _ _ us hl => match us, hl with | [_], _ => rfl)
  have D__law_pairs : Df l.prog w K mg base 1 "_law_pairs" ["_law_many"] spPairs := df_of X G L26 (fun fd F => ok_pairs F T) (fun fd F => F.binds fun _ _ _ _ _ _ us hl => match us, hl with | [_], _ => rfl)
  have D__law_web : Df l.prog w K mg base 2 "_law_web" ["_law_pen_here", "_law_upto"] (spLWeb K) := df_of X G L27 (fun fd F => ok_lweb F T D__law_draw D__law_pairs) (fun fd F => F.binds fun _ _ _ _ _ _ us hl => match us, hl with | [_, _], _ => rfl)
  have D__law_web_right : Df l.prog w K mg base 7 "_law_web_right" ["_law_pen_here", "_law_web_here"] (spRight K) := df_of X G L28 (fun fd F => ok_right F T D_near D_pieces D_pieces_without D__law_some) (fun fd F => F.binds fun _ _ _ _ _ _ us hl => match us, hl with | [_, _], _ => rfl)
  exact ok_law F T ⟨D__law_cell, D__law_pen, D__law_web, D_beside, D_pieces, D_pieces_without, D_is_web, D__law_web_right, D_row, D_ring, D_full, D_sides_web⟩
theorem walk {l : PySem.W.OpenLaw} {q : Program} {loose : List Str} {XP : (Str → Option Value) → Heap → Prop} {YP : World → Heap → Prop} {d : DefRec} {K : Params → PySem.W.Frag} (hn : l.most = some 63) (hdf : d.params.defaults = [])
    (hY : ∀ (w : World) (h : Heap), YP w h → (K w.params).In h)
    (F : ∀ (w : World) (mg : Str → Option Value) (fa : Addr) (h : Heap), (K w.params).In h → h.Ns mainGlobals mg → mg d.name = some (.ref fa) →
      ∃ fd : FuncData, (∀ (s : Shared) (u : Value), BindsTo s fd ⟨[u], []⟩ [("_law_script", u)]) ∧ ∀ base : Heap, (K w.params).In base → base.Ns mainGlobals mg → FnOk l.prog w (K w.params) mg base CX0 8 fa fd ["_law_script"] (spLaw (K w.params))) :
    PySem.W.WalkO q loose XP YP l.row.toRowW d [] (fun f vs => PySem.call f vs) :=
  L2.walk_of (n := 63) (k := 8) (x := "_law_script") (CX := fun _ => CX0) (sp := fun w => spLaw (K w.params)) hn (by decide) hdf ⟨rfl, by decide, by decide⟩ hY F (fun _ _ a ns hl _ hS => ⟨a, ns, rfl, hS, hl, fun _ => rfl⟩) fun _ _ _ _ _ z => z
end K5
open PySem PySem.W PyProof.Rows
set_option maxRecDepth 100000 in
set_option maxHeartbeats 0 in
theorem PySem.Challenge.cw_pairwebs_k05_whole_webs_made_of_webs_holds : PySem.Challenge.rw_pairwebs_k05_whole_webs_made_of_webs.Holds := by
  w_on; o_law; k_head; (case hw => w_witness2)
  k_fill
  refine K5.walk (l := PySem.Challenge.rw_pairwebs_k05_whole_webs_made_of_webs) rfl rfl (fun w h Y => PySem.W.kIn_of Y) ?F
  case F =>
    intro w mg fa h KX G hmg
    refine' K5.all_mk KX G hmg (K5.left_mk ?a0 ?l0 ?c0 ?k0) (K5.left_mk ?a1 ?l1 ?c1 ?k1) (K5.left_mk ?a2 ?l2 ?c2 ?k2) (K5.left_mk ?a3 ?l3 ?c3 ?k3) (K5.left_mk ?a4 ?l4 ?c4 ?k4) (K5.left_mk ?a5 ?l5 ?c5 ?k5) (K5.left_mk ?a6 ?l6 ?c6 ?k6) (K5.left_mk ?a7 ?l7 ?c7 ?k7) (K5.left_mk ?a8 ?l8 ?c8 ?k8) (K5.left_mk ?a9 ?l9 ?c9 ?k9) (K5.left_mk ?a10 ?l10 ?c10 ?k10) (K5.left_mk ?a11 ?l11 ?c11 ?k11) (K5.left_mk ?a12 ?l12 ?c12 ?k12) (K5.left_mk ?a13 ?l13 ?c13 ?k13) (K5.left_mk ?a14 ?l14 ?c14 ?k14) (K5.left_mk ?a15 ?l15 ?c15 ?k15) (K5.left_mk ?a16 ?l16 ?c16 ?k16) (K5.left_mk ?a17 ?l17 ?c17 ?k17) (K5.left_mk ?a18 ?l18 ?c18 ?k18) (K5.left_mk ?a19 ?l19 ?c19 ?k19) (K5.left_mk ?a20 ?l20 ?c20 ?k20) (K5.left_mk ?a21 ?l21 ?c21 ?k21) (K5.left_mk ?a22 ?l22 ?c22 ?k22) (K5.left_mk ?a23 ?l23 ?c23 ?k23) (K5.left_mk ?a24 ?l24 ?c24 ?k24) (K5.left_mk ?a25 ?l25 ?c25 ?k25) (K5.left_mk ?a26 ?l26 ?c26 ?k26) (K5.left_mk ?a27 ?l27 ?c27 ?k27) (K5.left_mk ?a28 ?l28 ?c28 ?k28) ?aL ?lL ?cL ?kL ?z0 ?z1 ?z2 ?z3 ?z4 ?z5 ?z6 ?z7 ?z8 ?z9 ?z10 ?z11 ?z12 ?zm
    (case a0 => k_is); (case l0 => k_is); (case c0 => k_is); (case k0 => k_is)
    (case a1 => k_is); (case l1 => k_is); (case c1 => k_is); (case k1 => k_is)
    (case a2 => k_is); (case l2 => k_is); (case c2 => k_is); (case k2 => k_is)
    (case a3 => k_is); (case l3 => k_is); (case c3 => k_is); (case k3 => k_is)
    (case a4 => k_is); (case l4 => k_is); (case c4 => k_is); (case k4 => k_is)
    (case a5 => k_is); (case l5 => k_is); (case c5 => k_is); (case k5 => k_is)
    (case a6 => k_is); (case l6 => k_is); (case c6 => k_is); (case k6 => k_is)
    (case a7 => k_is); (case l7 => k_is); (case c7 => k_is); (case k7 => k_is)
    (case a8 => k_is); (case l8 => k_is); (case c8 => k_is); (case k8 => k_is)
    (case a9 => k_is); (case l9 => k_is); (case c9 => k_is); (case k9 => k_is)
    (case a10 => k_is); (case l10 => k_is); (case c10 => k_is); (case k10 => k_is)
    (case a11 => k_is); (case l11 => k_is); (case c11 => k_is); (case k11 => k_is)
    (case a12 => k_is); (case l12 => k_is); (case c12 => k_is); (case k12 => k_is)
    (case a13 => k_is); (case l13 => k_is); (case c13 => k_is); (case k13 => k_is)
    (case a14 => k_is); (case l14 => k_is); (case c14 => k_is); (case k14 => k_is)
    (case a15 => k_is); (case l15 => k_is); (case c15 => k_is); (case k15 => k_is)
    (case a16 => k_is); (case l16 => k_is); (case c16 => k_is); (case k16 => k_is)
    (case a17 => k_is); (case l17 => k_is); (case c17 => k_is); (case k17 => k_is)
    (case a18 => k_is); (case l18 => k_is); (case c18 => k_is); (case k18 => k_is)
    (case a19 => k_is); (case l19 => k_is); (case c19 => k_is); (case k19 => k_is)
    (case a20 => k_is); (case l20 => k_is); (case c20 => k_is); (case k20 => k_is)
    (case a21 => k_is); (case l21 => k_is); (case c21 => k_is); (case k21 => k_is)
    (case a22 => k_is); (case l22 => k_is); (case c22 => k_is); (case k22 => k_is)
    (case a23 => k_is); (case l23 => k_is); (case c23 => k_is); (case k23 => k_is)
    (case a24 => k_is); (case l24 => k_is); (case c24 => k_is); (case k24 => k_is)
    (case a25 => k_is); (case l25 => k_is); (case c25 => k_is); (case k25 => k_is)
    (case a26 => k_is); (case l26 => k_is); (case c26 => k_is); (case k26 => k_is)
    (case a27 => k_is); (case l27 => k_is); (case c27 => k_is); (case k27 => k_is)
    (case a28 => k_is); (case l28 => k_is); (case c28 => k_is); (case k28 => k_is)
    (case aL => k_is); (case lL => k_is); (case cL => k_is); (case kL => k_is)
    (case z0 => k_is)
    (case z1 => k_is)
    (case z2 => k_is)
    (case z3 => k_is)
    (case z4 => k_is)
    (case z5 => k_is)
    (case z6 => k_is)
    (case z7 => k_is)
    (case z8 => k_is)
    (case z9 => k_is)
    (case z10 => k_is)
    (case z11 => k_is)
    (case z12 => k_is)
    (case zm => k_is)
