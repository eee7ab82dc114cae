import PyProof.Rows.All
import Wide.All
import OpenK.AllK
import Wide.FinOn
import HandS.ForMost
import HandS.Strs
import HandS.SetFor
import HandS.Zip
import HandS.IsInst
import HandS.Deep
import HandS.SortInts
import HandS.TupAny
import HandS.TupLe
import HandS.Conv
import PySem.Challenge.RW_fewways_k25_whole_bars
set_option linter.all false
set_option maxHeartbeats 4000000
/-! plain mathematics: webs, near, parts, bars, partings -/
namespace Fw

/-! ### lists -/
/-- 0, 1, .. below n -/
def irange (n : Nat) : List Int := (List.range n).map fun (i : Nat) => (i : Int)
theorem mem_irange {n : Nat} {x : Int} : x ∈ irange n ↔ 0 ≤ x ∧ x < n := by
  unfold irange
  rw [List.mem_map]
  constructor
  · rintro ⟨i, hi, rfl⟩
    have := List.mem_range.mp hi
    omega
  · rintro ⟨h1, h2⟩
    exact ⟨x.toNat, List.mem_range.mpr (by omega), by omega⟩
theorem irange_length (n : Nat) : (irange n).length = n := by simp [irange]
theorem irange_get {n i : Nat} (h : i < n) : (irange n)[i]? = some (i : Int) := by
  unfold irange
  rw [List.getElem?_map, List.getElem?_range h]
  rfl
theorem irange_succ (n : Nat) : irange (n + 1) = irange n ++ [(n : Int)] := by
  unfold irange
  rw [List.range_succ, List.map_append]
  rfl
theorem pairwise_map_of {α β : Type} {f : α → β} {R : α → α → Prop} {S : β → β → Prop} (h : ∀ a b, R a b → S (f a) (f b)) {l : List α} (p : l.Pairwise R) : (l.map f).Pairwise S := by
  rw [List.pairwise_map]
  exact p.imp fun {a b} r => h a b r
theorem irange_lt (n : Nat) : (irange n).Pairwise (· < ·) := by
  unfold irange
  exact pairwise_map_of (R := (· < ·)) (fun a b h => by omega) List.pairwise_lt_range
theorem nodup_of_lt {l : List Int} (h : l.Pairwise (· < ·)) : l.Nodup := h.imp fun {a b} r => by omega
theorem irange_nodup (n : Nat) : (irange n).Nodup := nodup_of_lt (irange_lt n)
/-- two rising lists of the same members are one -/
theorem eq_of_lt : ∀ {l m : List Int}, l.Pairwise (· < ·) → m.Pairwise (· < ·) → (∀ x, x ∈ l ↔ x ∈ m) → l = m
  | [], [], _, _, _ => rfl
  | [], b :: m, _, _, h => absurd ((h b).mpr List.mem_cons_self) (by simp)
  | a :: l, [], _, _, h => absurd ((h a).mp List.mem_cons_self) (by simp)
  | a :: l, b :: m, hl, hm, h => by
    obtain ⟨h1, h2⟩ := List.pairwise_cons.mp hl
    obtain ⟨h3, h4⟩ := List.pairwise_cons.mp hm
    have e : a = b := by
      rcases List.mem_cons.mp ((h a).mp List.mem_cons_self) with e | e
      · exact e
      · rcases List.mem_cons.mp ((h b).mpr List.mem_cons_self) with e' | e'
        · exact e'.symm
        · have := h1 b e'
          have := h3 a e
          omega
    subst e
    have t : ∀ x, x ∈ l ↔ x ∈ m := fun x => by
      constructor
      · intro hx
        rcases List.mem_cons.mp ((h x).mp (List.mem_cons_of_mem _ hx)) with e | e
        · have := h1 x hx
          omega
        · exact e
      · intro hx
        rcases List.mem_cons.mp ((h x).mpr (List.mem_cons_of_mem _ hx)) with e | e
        · have := h3 x hx
          omega
        · exact e
    rw [eq_of_lt h2 h4 t]
theorem lt_of_le_nodup' {l : List Int} (h : l.Pairwise (· ≤ ·)) (n : l.Nodup) : l.Pairwise (· < ·) := by
  induction l with
  | nil => exact List.Pairwise.nil
  | cons a l ih =>
    obtain ⟨h1, h2⟩ := List.pairwise_cons.mp h
    obtain ⟨n1, n2⟩ := List.nodup_cons.mp n
    refine List.pairwise_cons.mpr ⟨fun b hb => ?_, ih h2 n2⟩
    have := h1 b hb
    have ne : a ≠ b := fun e => n1 (e ▸ hb)
    omega
/-- a sorted arrangement of 0 .. n-1 is just that -/
theorem sorted_irange {n : Nat} {l m : List Int} (p : l.Perm m) (q : m.Perm (irange n)) (h : l.Pairwise (· ≤ ·)) : l = irange n := by
  have r := p.trans q
  have nd : l.Nodup := r.nodup_iff.mpr (irange_nodup n)
  exact eq_of_lt (lt_of_le_nodup' h nd) (irange_lt n) fun x => r.mem_iff
/-- numbers below n, none twice, are no more than n -/
theorem length_le_n {n : Nat} {l : List Int} (nd : l.Nodup) (h : ∀ x ∈ l, 0 ≤ x ∧ x < n) : l.length ≤ n := by
  have := List.Nodup.length_le_of_subset nd (l₂ := irange n) fun x hx => mem_irange.mpr (h x hx)
  rw [irange_length] at this
  exact this
theorem nodup_append_of {l m : List Int} (h1 : l.Nodup) (h2 : m.Nodup) (h : ∀ x ∈ l, x ∉ m) : (l ++ m).Nodup := by
  rw [List.nodup_append]
  exact ⟨h1, h2, fun a ha b hb e => h a ha (e ▸ hb)⟩

/-! ### webs -/
abbrev Tie := Int × Int
def Adj (es : List Tie) (x y : Int) : Prop := (x, y) ∈ es ∨ (y, x) ∈ es
theorem Adj.symm {es : List Tie} {x y : Int} (h : Adj es x y) : Adj es y x := Or.symm h
structure WebOk (n : Nat) (es : List Tie) : Prop where
  nd : es.Nodup
  bd : ∀ e ∈ es, 0 ≤ e.1 ∧ e.1 < e.2 ∧ e.2 < n
/-- the rows of places tied to each place -/
structure NearOk (n : Nat) (es : List Tie) (xss : List (List Int)) : Prop where
  len : xss.length = n
  mem : ∀ (i : Nat) row, xss[i]? = some row → ∀ y, y ∈ row ↔ Adj es (i : Int) y
  nd : ∀ row ∈ xss, row.Nodup
  le : ∀ row ∈ xss, row.Pairwise (· ≤ ·)
theorem WebOk.adj {n : Nat} {es : List Tie} (w : WebOk n es) {x y : Int} (h : Adj es x y) : (0 ≤ x ∧ x < n) ∧ (0 ≤ y ∧ y < n) ∧ x ≠ y := by
  rcases h with h | h
  · have := w.bd _ h
    simp only at this
    omega
  · have := w.bd _ h
    simp only at this
    omega
theorem NearOk.row_bd {n : Nat} {es : List Tie} {xss : List (List Int)} (w : WebOk n es) (N : NearOk n es xss) : ∀ row ∈ xss, ∀ y ∈ row, 0 ≤ y ∧ y < n := fun row hr y hy => by
  obtain ⟨i, hi⟩ := List.getElem?_of_mem hr
  exact (w.adj ((N.mem i row hi y).mp hy)).2.1
theorem NearOk.row_len {n : Nat} {es : List Tie} {xss : List (List Int)} (w : WebOk n es) (N : NearOk n es xss) : ∀ row ∈ xss, row.length ≤ n := fun row hr => length_le_n (N.nd row hr) (N.row_bd w row hr)
theorem NearOk.at {n : Nat} {es : List Tie} {xss : List (List Int)} (N : NearOk n es xss) {x : Int} (h : 0 ≤ x ∧ x < n) : ∃ row, xss[x.toNat]? = some row ∧ ∀ y, y ∈ row ↔ Adj es x y := by
  have hx : x.toNat < xss.length := by have := N.len; omega
  refine ⟨xss[x.toNat], List.getElem?_eq_getElem hx, fun y => ?_⟩
  have q := N.mem x.toNat _ (List.getElem?_eq_getElem hx) y
  have e : ((x.toNat : Nat) : Int) = x := by omega
  rw [e] at q
  exact q
/-! near's loop: the first i ties are laid -/
structure NearTo (n : Nat) (es : List Tie) (i : Nat) (xss : List (List Int)) : Prop where
  len : xss.length = n
  mem : ∀ (k : Nat) row, xss[k]? = some row → ∀ y, y ∈ row ↔ Adj (es.take i) (k : Int) y
  nd : ∀ row ∈ xss, row.Nodup
theorem NearTo.zero (n : Nat) (es : List Tie) : NearTo n es 0 ((List.range n).map fun _ => []) := by
  refine ⟨by simp, fun k row h y => ?_, fun row h => ?_⟩
  · have hr : row ∈ (List.range n).map fun _ => ([] : List Int) := List.mem_of_getElem? h
    obtain ⟨_, _, rfl⟩ := List.mem_map.mp hr
    simp [Adj]
  · obtain ⟨_, _, rfl⟩ := List.mem_map.mp h
    exact List.nodup_nil
theorem take_succ_mem {α : Type} {es : List α} {i : Nat} {e : α} (h : es[i]? = some e) (x : α) : x ∈ es.take (i + 1) ↔ x ∈ es.take i ∨ x = e := by
  rw [List.take_add_one, h]
  simp
theorem not_in_take {es : List Tie} (nd : es.Nodup) {i : Nat} {e : Tie} (h : es[i]? = some e) : e ∉ es.take i := fun hm => by
  obtain ⟨j, hj⟩ := List.getElem?_of_mem hm
  rw [List.getElem?_take] at hj
  split at hj
  · rename_i hji
    obtain ⟨h1, e1⟩ := List.getElem?_eq_some_iff.mp hj
    obtain ⟨h2, e2⟩ := List.getElem?_eq_some_iff.mp h
    have := (List.getElem_inj nd).mp (e1.trans e2.symm)
    omega
  · cases hj
/-- one tie more -/
theorem NearTo.step {n : Nat} {es : List Tie} (w : WebOk n es) {i : Nat} {xss : List (List Int)} (N : NearTo n es i xss) {a b : Int} (h : es[i]? = some (a, b))
    {ra rb : List Int} (ha : xss[a.toNat]? = some ra) (hb : xss[b.toNat]? = some rb) :
    NearTo n es (i + 1) ((xss.set a.toNat (ra ++ [b])).set b.toNat (rb ++ [a])) := by
  have bd := w.bd _ (List.mem_of_getElem? h)
  simp only at bd
  have hla : a.toNat < xss.length := (List.getElem?_eq_some_iff.mp ha).1
  have hlb : b.toNat < xss.length := (List.getElem?_eq_some_iff.mp hb).1
  have ni := not_in_take w.nd h
  have nba : (b, a) ∉ es := fun hm => by have := w.bd _ hm; simp only at this; omega
  have ea : ((a.toNat : Nat) : Int) = a := by omega
  have eb : ((b.toNat : Nat) : Int) = b := by omega
  have new : ∀ x y : Int, Adj (es.take (i + 1)) x y ↔ Adj (es.take i) x y ∨ (x = a ∧ y = b) ∨ (x = b ∧ y = a) := fun x y => by
    unfold Adj
    rw [take_succ_mem h, take_succ_mem h]
    simp only [Prod.mk.injEq]
    constructor
    · rintro ((h | h) | (h | h))
      · exact .inl (.inl h)
      · exact .inr (.inl h)
      · exact .inl (.inr h)
      · exact .inr (.inr ⟨h.2, h.1⟩)
    · rintro ((h | h) | (h | h))
      · exact .inl (.inl h)
      · exact .inr (.inl h)
      · exact .inl (.inr h)
      · exact .inr (.inr ⟨h.2, h.1⟩)
  have nbra : b ∉ ra := fun hm => by
    have q := (N.mem _ _ ha b).mp hm
    rw [ea] at q
    rcases q with q | q
    · exact ni q
    · exact nba (List.mem_of_mem_take q)
  have narb : a ∉ rb := fun hm => by
    have q := (N.mem _ _ hb a).mp hm
    rw [eb] at q
    rcases q with q | q
    · exact nba (List.mem_of_mem_take q)
    · exact ni q
  have hne : a.toNat ≠ b.toNat := by omega
  refine ⟨by simp [N.len], fun k row hk y => ?_, fun row hr => ?_⟩
  · rw [new]
    by_cases hkb : b.toNat = k
    · subst hkb
      rw [List.getElem?_set_self (by simpa using hlb)] at hk
      cases hk
      rw [List.mem_append, List.mem_singleton, N.mem _ _ hb y, eb]
      constructor
      · rintro (q | q)
        · exact .inl q
        · exact .inr (.inr ⟨rfl, q⟩)
      · rintro (q | ⟨q, _⟩ | ⟨_, q⟩)
        · exact .inl q
        · omega
        · exact .inr q
    · rw [List.getElem?_set_ne hkb] at hk
      by_cases hka : a.toNat = k
      · subst hka
        rw [List.getElem?_set_self hla] at hk
        cases hk
        rw [List.mem_append, List.mem_singleton, N.mem _ _ ha y, ea]
        constructor
        · rintro (q | q)
          · exact .inl q
          · exact .inr (.inl ⟨rfl, q⟩)
        · rintro (q | ⟨_, q⟩ | ⟨q, _⟩)
          · exact .inl q
          · exact .inr q
          · omega
      · rw [List.getElem?_set_ne hka] at hk
        rw [N.mem _ _ hk y]
        constructor
        · exact .inl
        · rintro (q | ⟨q, _⟩ | ⟨q, _⟩)
          · exact q
          · omega
          · omega
  · rcases List.mem_or_eq_of_mem_set hr with hr | rfl
    · rcases List.mem_or_eq_of_mem_set hr with hr | rfl
      · exact N.nd _ hr
      · exact nodup_append_of (N.nd _ (List.mem_of_getElem? ha)) (by simp) fun x hx hb => by
          rw [List.mem_singleton] at hb
          exact nbra (hb ▸ hx)
    · exact nodup_append_of (N.nd _ (List.mem_of_getElem? hb)) (by simp) fun x hx hb => by
          rw [List.mem_singleton] at hb
          exact narb (hb ▸ hx)
/-- at the end, each row sorted -/
theorem NearTo.sorted {n : Nat} {es : List Tie} {xss yss : List (List Int)} (N : NearTo n es es.length xss) (hl : yss.length = n) (hp : ∀ (i : Nat) x y, xss[i]? = some x → yss[i]? = some y → y.Perm x ∧ y.Pairwise (· ≤ ·)) : NearOk n es yss := by
  have hx : ∀ (i : Nat) y, yss[i]? = some y → ∃ x, xss[i]? = some x := fun i y h => by
    have := (List.getElem?_eq_some_iff.mp h).1
    have := N.len
    exact ⟨xss[i], List.getElem?_eq_getElem (by omega)⟩
  refine ⟨hl, fun i row h y => ?_, fun row hr => ?_, fun row hr => ?_⟩
  · obtain ⟨x, hx⟩ := hx i row h
    rw [(hp i x row hx h).1.mem_iff, N.mem i x hx y, List.take_length]
  · obtain ⟨i, hi⟩ := List.getElem?_of_mem hr
    obtain ⟨x, hx⟩ := hx i row hi
    exact (hp i x row hx hi).1.nodup_iff.mpr (N.nd _ (List.mem_of_getElem? hx))
  · obtain ⟨i, hi⟩ := List.getElem?_of_mem hr
    obtain ⟨x, hx⟩ := hx i row hi
    exact (hp i x row hx hi).2
/-- the rows are the only ones -/
theorem NearOk.one {n : Nat} {es : List Tie} {xss yss : List (List Int)} (X : NearOk n es xss) (Y : NearOk n es yss) : xss = yss := by
  refine List.ext_getElem? fun i => ?_
  by_cases h : i < n
  · have h1 : i < xss.length := by rw [X.len]; exact h
    have h2 : i < yss.length := by rw [Y.len]; exact h
    have hx : xss[i]? = some xss[i] := List.getElem?_eq_getElem h1
    have hy : yss[i]? = some yss[i] := List.getElem?_eq_getElem h2
    rw [hx, hy]
    congr 1
    have mx := List.mem_of_getElem? hx
    have my := List.mem_of_getElem? hy
    refine eq_of_lt (lt_of_le_nodup' (X.le _ mx) (X.nd _ mx)) (lt_of_le_nodup' (Y.le _ my) (Y.nd _ my)) fun z => ?_
    rw [X.mem i _ hx z, Y.mem i _ hy z]
  · rw [List.getElem?_eq_none (by have := X.len; omega), List.getElem?_eq_none (by have := Y.len; omega)]

/-! ### what can be come to -/
inductive Reach (xss : List (List Int)) (p : Int) : Int → Prop where
  | self : Reach xss p p
  | step {x y : Int} {row : List Int} : Reach xss p x → xss[x.toNat]? = some row → y ∈ row → Reach xss p y
/-- come_to's loop: found, the first k looked at -/
structure Found (n : Nat) (xss : List (List Int)) (p : Int) (k : Nat) (found : List Int) : Prop where
  hd : found[0]? = some p
  nd : found.Nodup
  bd : ∀ x ∈ found, 0 ≤ x ∧ x < n
  re : ∀ x ∈ found, Reach xss p x
  cl : ∀ (j : Nat) x row, j < k → found[j]? = some x → xss[x.toNat]? = some row → ∀ y ∈ row, y ∈ found
  le : k ≤ found.length
theorem Found.start {n : Nat} {xss : List (List Int)} {p : Int} (h : 0 ≤ p ∧ p < n) : Found n xss p 0 [p] :=
  ⟨rfl, by simp, fun x hx => by rw [List.mem_singleton] at hx; subst hx; exact h, fun x hx => by rw [List.mem_singleton] at hx; subst hx; exact .self, fun j x row hj => by omega, by simp⟩
theorem Found.step {n : Nat} {xss : List (List Int)} {p : Int} {k : Nat} {found row : List Int} {x : Int} (F : Found n xss p k found) (hx : found[k]? = some x) (hr : xss[x.toNat]? = some row)
    (rn : row.Nodup) (rb : ∀ y ∈ row, 0 ≤ y ∧ y < n) : Found n xss p (k + 1) (found ++ row.filter fun y => decide (y ∉ found)) := by
  have hk : k < found.length := (List.getElem?_eq_some_iff.mp hx).1
  refine ⟨?_, ?_, fun y hy => ?_, fun y hy => ?_, fun j z rw' hj hz hr' y hy => ?_, ?_⟩
  · rw [List.getElem?_append_left (by omega)]
    exact F.hd
  · refine nodup_append_of F.nd (rn.filter _) fun y hy hm => ?_
    have := (List.mem_filter.mp hm).2
    simp [hy] at this
  · rcases List.mem_append.mp hy with hy | hy
    · exact F.bd y hy
    · exact rb y (List.mem_filter.mp hy).1
  · rcases List.mem_append.mp hy with hy | hy
    · exact F.re y hy
    · exact .step (F.re x (List.mem_of_getElem? hx)) hr (List.mem_filter.mp hy).1
  · have hjl : j < found.length := by omega
    rw [List.getElem?_append_left hjl] at hz
    by_cases hjk : j < k
    · exact List.mem_append_left _ (F.cl j z rw' hjk hz hr' y hy)
    · have ejk : j = k := by omega
      subst ejk
      rw [hx] at hz
      cases hz
      rw [hr] at hr'
      cases hr'
      by_cases hf : y ∈ found
      · exact List.mem_append_left _ hf
      · exact List.mem_append_right _ (List.mem_filter.mpr ⟨hy, by simp [hf]⟩)
  · rw [List.length_append]
    omega
theorem Found.len {n : Nat} {xss : List (List Int)} {p : Int} {k : Nat} {found : List Int} (F : Found n xss p k found) : found.length ≤ n := length_le_n F.nd F.bd
/-- a part: it holds p, is closed, all of it can be come to -/
structure Part (n : Nat) (xss : List (List Int)) (p : Int) (c : List Int) : Prop where
  hd : p ∈ c
  nd : c.Nodup
  bd : ∀ x ∈ c, 0 ≤ x ∧ x < n
  re : ∀ x ∈ c, Reach xss p x
  cl : ∀ x ∈ c, ∀ row, xss[x.toNat]? = some row → ∀ y ∈ row, y ∈ c
theorem Found.part {n : Nat} {xss : List (List Int)} {p : Int} {found c : List Int} (F : Found n xss p found.length found) (h : c.Perm found) : Part n xss p c := by
  refine ⟨h.mem_iff.mpr (List.mem_of_getElem? F.hd), h.nodup_iff.mpr F.nd, fun x hx => F.bd x (h.mem_iff.mp hx), fun x hx => F.re x (h.mem_iff.mp hx), fun x hx row hr y hy => h.mem_iff.mpr ?_⟩
  obtain ⟨j, hj⟩ := List.getElem?_of_mem (h.mem_iff.mp hx)
  exact F.cl j x row (List.getElem?_eq_some_iff.mp hj).1 hj hr y hy

/-! ### parts -/
def Symm (n : Nat) (xss : List (List Int)) : Prop := xss.length = n ∧ (∀ row ∈ xss, ∀ y ∈ row, 0 ≤ y ∧ y < n) ∧ ∀ (x y : Int) rx ry, 0 ≤ x → 0 ≤ y → xss[x.toNat]? = some rx → xss[y.toNat]? = some ry → (y ∈ rx ↔ x ∈ ry)
theorem NearOk.symm {n : Nat} {es : List Tie} {xss : List (List Int)} (w : WebOk n es) (N : NearOk n es xss) : Symm n xss := by
  refine ⟨N.len, N.row_bd w, fun x y rx ry h0 h1 hx hy => ?_⟩
  have ex : ((x.toNat : Nat) : Int) = x := by omega
  have ey : ((y.toNat : Nat) : Int) = y := by omega
  rw [N.mem _ _ hx y, N.mem _ _ hy x, ex, ey]
  exact ⟨Adj.symm, Adj.symm⟩
/-- parts_by's loop: the parts of the places below i -/
structure PartsTo (n : Nat) (xss : List (List Int)) (i : Nat) (ps : List (List Int)) (seen : List Int) : Prop where
  each : ∀ c ∈ ps, ∃ p, Part n xss p c
  sn : ∀ x, x ∈ seen ↔ ∃ c ∈ ps, x ∈ c
  all : ∀ x : Int, 0 ≤ x → x < i → x ∈ seen
  dis : ps.Pairwise fun c d => ∀ x ∈ c, x ∉ d
  nd : seen.Nodup
  bd : ∀ x ∈ seen, 0 ≤ x ∧ x < n
  le : ps.length ≤ i
theorem PartsTo.zero (n : Nat) (xss : List (List Int)) : PartsTo n xss 0 [] [] :=
  ⟨fun _ h => (List.not_mem_nil h).elim, fun x => by simp, fun x h0 h1 => by omega, List.Pairwise.nil, List.nodup_nil, fun _ h => (List.not_mem_nil h).elim, Nat.le_refl _⟩
theorem PartsTo.skip {n : Nat} {xss : List (List Int)} {i : Nat} {ps : List (List Int)} {seen : List Int} (P : PartsTo n xss i ps seen) (h : (i : Int) ∈ seen) : PartsTo n xss (i + 1) ps seen :=
  ⟨P.each, P.sn, fun x h0 h1 => by
    by_cases e : x = i
    · rw [e]; exact h
    · exact P.all x h0 (by omega), P.dis, P.nd, P.bd, by have := P.le; omega⟩
/-- what reaches into a closed list lies in it -/
theorem Reach.back {n : Nat} {xss : List (List Int)} (S : Symm n xss) {p : Int} (hp : 0 ≤ p ∧ p < n) {D : Int → Prop} (hD : ∀ x, D x → ∀ row, xss[x.toNat]? = some row → ∀ y ∈ row, D y) {x : Int} (r : Reach xss p x) : (0 ≤ x ∧ x < n) ∧ (D x → D p) := by
  induction r with
  | self => exact ⟨hp, id⟩
  | step r hrow hy ih =>
    rename_i x y row
    have hyb := S.2.1 row (List.mem_of_getElem? hrow) y hy
    refine ⟨hyb, fun hd => ih.2 ?_⟩
    have hyl : y.toNat < xss.length := by have := S.1; omega
    have q := (S.2.2 x y row xss[y.toNat] ih.1.1 hyb.1 hrow (List.getElem?_eq_getElem hyl)).mp hy
    exact hD y hd _ (List.getElem?_eq_getElem hyl) x q
theorem PartsTo.step {n : Nat} {xss : List (List Int)} (S : Symm n xss) {i : Nat} {ps : List (List Int)} {seen : List Int} (P : PartsTo n xss i ps seen) (hi : i < n) (h : (i : Int) ∉ seen) {c : List Int} (C : Part n xss i c) :
    PartsTo n xss (i + 1) (ps ++ [c]) (seen ++ c) := by
  have out : ∀ x ∈ seen, x ∉ c := fun x hx hc => by
    refine h ?_
    have q := Reach.back S (p := (i : Int)) (by omega) (D := fun z => z ∈ seen) (fun z hz row hr y hy => ?_) (C.re x hc)
    · exact q.2 hx
    · obtain ⟨d, hd, hzd⟩ := (P.sn z).mp hz
      obtain ⟨p, Q⟩ := P.each d hd
      exact (P.sn y).mpr ⟨d, hd, Q.cl z hzd row hr y hy⟩
  refine ⟨fun d hd => ?_, fun x => ?_, fun x h0 h1 => ?_, ?_, nodup_append_of P.nd C.nd out, fun x hx => ?_, ?_⟩
  · rcases List.mem_append.mp hd with hd | hd
    · exact P.each d hd
    · rw [List.mem_singleton] at hd
      subst hd
      exact ⟨_, C⟩
  · rw [List.mem_append, P.sn]
    constructor
    · rintro (⟨d, hd, hx⟩ | hx)
      · exact ⟨d, List.mem_append_left _ hd, hx⟩
      · exact ⟨c, List.mem_append_right _ List.mem_cons_self, hx⟩
    · rintro ⟨d, hd, hx⟩
      rcases List.mem_append.mp hd with hd | hd
      · exact .inl ⟨d, hd, hx⟩
      · rw [List.mem_singleton] at hd
        subst hd
        exact .inr hx
  · by_cases e : x = i
    · rw [e]
      exact List.mem_append_right _ C.hd
    · exact List.mem_append_left _ (P.all x h0 (by omega))
  · rw [List.pairwise_append]
    refine ⟨P.dis, List.pairwise_singleton _ _, fun d hd c' hc' x hx => ?_⟩
    rw [List.mem_singleton] at hc'
    subst hc'
    exact out x ((P.sn x).mpr ⟨d, hd, hx⟩)
  · rcases List.mem_append.mp hx with hx | hx
    · exact P.bd x hx
    · exact C.bd x hx
  · rw [List.length_append]
    have := P.le
    simp
    omega
/-- pieces that stand apart, each with a head of its own -/
theorem count_heads {α β : Type} [DecidableEq β] {In : β → α → Prop} : ∀ {ps : List α} {hs : List β}, ps.Pairwise (fun c d => ∀ h, In h c → ¬ In h d) → (∀ c ∈ ps, ∃ h ∈ hs, In h c) → ps.length ≤ hs.length
  | [], _, _, _ => Nat.zero_le _
  | c :: ps, hs, dis, hit => by
    obtain ⟨d1, d2⟩ := List.pairwise_cons.mp dis
    obtain ⟨h, hh, hc⟩ := hit c List.mem_cons_self
    have ih := count_heads (ps := ps) (hs := hs.erase h) d2 fun d hd => by
      obtain ⟨k, hk, hkd⟩ := hit d (List.mem_cons_of_mem _ hd)
      refine ⟨k, ?_, hkd⟩
      have ne : k ≠ h := fun e => d1 d hd h hc (e ▸ hkd)
      exact (List.mem_erase_of_ne ne).mpr hk
    have l := List.length_erase_of_mem hh
    have pos : 0 < hs.length := List.length_pos_of_mem hh
    rw [List.length_cons]
    omega
theorem Reach.fwd {xss : List (List Int)} {p : Int} {D : Int → Prop} (hD : ∀ x, D x → ∀ row, xss[x.toNat]? = some row → ∀ y ∈ row, D y) {x : Int} (r : Reach xss p x) (hp : D p) : D x := by
  induction r with
  | self => exact hp
  | step r hrow hy ih => exact hD _ ih _ hrow _ hy
theorem PartsTo.count {n : Nat} {xss : List (List Int)} {i : Nat} {ps : List (List Int)} {seen : List Int} (P : PartsTo n xss i ps seen) {hs : List Int} (hit : ∀ c ∈ ps, ∃ h ∈ hs, h ∈ c) : ps.length ≤ hs.length :=
  count_heads (In := fun h c => h ∈ c) P.dis hit
/-- m is how many parts there are -/
def PartsN (n : Nat) (xss : List (List Int)) (m : Nat) : Prop := ∃ ps seen, PartsTo n xss n ps seen ∧ ps.length = m
theorem PartsN.le {n : Nat} {xss : List (List Int)} (S : Symm n xss) {m : Nat} (h : PartsN n xss m) {k : Nat} (h' : PartsN n xss k) : m ≤ k := by
  obtain ⟨ps, seen, P, rfl⟩ := h
  obtain ⟨qs, seen', Q, rfl⟩ := h'
  have e : qs.length = (qs.map fun q => q.headD 0).length := by simp
  rw [e]
  refine P.count fun c hc => ?_
  obtain ⟨p, C⟩ := P.each c hc
  have pb := C.bd p C.hd
  obtain ⟨q, hq, hpq⟩ := (Q.sn p).mp (Q.all p pb.1 pb.2)
  obtain ⟨r, D⟩ := Q.each q hq
  have closed : ∀ z, z ∈ c → ∀ row, xss[z.toNat]? = some row → ∀ y ∈ row, y ∈ c := fun z hz row hr y hy => C.cl z hz row hr y hy
  have hr : r ∈ c := (Reach.back S (D.bd r D.hd) (D := fun z => z ∈ c) closed (D.re p hpq)).2 C.hd
  refine ⟨q.headD 0, List.mem_map.mpr ⟨q, hq, rfl⟩, ?_⟩
  cases q with
  | nil => cases hpq
  | cons z q => exact Reach.fwd (D := fun z => z ∈ c) closed (D.re z List.mem_cons_self) hr
theorem PartsN.one {n : Nat} {xss : List (List Int)} (S : Symm n xss) {m : Nat} (h : PartsN n xss m) {k : Nat} (h' : PartsN n xss k) : m = k := Nat.le_antisymm (h.le S h') (h'.le S h)
theorem PartsN.le_n {n : Nat} {xss : List (List Int)} {m : Nat} (h : PartsN n xss m) : m ≤ n := by
  obtain ⟨ps, seen, P, rfl⟩ := h
  exact P.le
/-- the count does not hang on how the rows are written -/
theorem PartsN.rows {n : Nat} {xss yss : List (List Int)} (lx : xss.length = n) (ly : yss.length = n) (same : ∀ (i : Nat) x y, xss[i]? = some x → yss[i]? = some y → ∀ z, z ∈ x ↔ z ∈ y) (nx : ∀ x : Int, 0 ≤ x ∧ x < n → True) {m : Nat} (h : PartsN n xss m) (bx : ∀ row ∈ xss, ∀ y ∈ row, 0 ≤ y ∧ y < n) : PartsN n yss m := by
  obtain ⟨ps, seen, P, e⟩ := h
  have re : ∀ {p x : Int}, (0 ≤ p ∧ p < n) → Reach xss p x → (0 ≤ x ∧ x < n) ∧ Reach yss p x := fun {p x} hp r => by
    induction r with
    | self => exact ⟨hp, .self⟩
    | step r hrow hy ih =>
      rename_i x y row
      have hxl : x.toNat < yss.length := by have := ih.1; omega
      exact ⟨bx row (List.mem_of_getElem? hrow) y hy, .step ih.2 (List.getElem?_eq_getElem hxl) ((same _ _ _ hrow (List.getElem?_eq_getElem hxl) y).mp hy)⟩
  refine ⟨ps, seen, ⟨fun c hc => ?_, P.sn, P.all, P.dis, P.nd, P.bd, P.le⟩, e⟩
  obtain ⟨p, C⟩ := P.each c hc
  refine ⟨p, C.hd, C.nd, C.bd, fun x hx => (re (C.bd p C.hd) (C.re x hx)).2, fun x hx row hr y hy => ?_⟩
  have hxl : x.toNat < xss.length := by
    have := (List.getElem?_eq_some_iff.mp hr).1
    omega
  exact C.cl x hx _ (List.getElem?_eq_getElem hxl) y ((same _ _ _ (List.getElem?_eq_getElem hxl) hr y).mpr hy)
end Fw

set_option linter.all false
set_option maxHeartbeats 4000000
namespace Fw
/-! ### a web without some places -/
def keptL (n : Nat) (bar : List Int) : List Int := (irange n).filter fun p => decide (p ∉ bar)
def ixI (l : List Int) (x : Int) : Int := (l.idxOf x : Nat)
def leftTies (es : List Tie) (kept : List Int) : List Tie := (es.filter fun e => decide (e.1 ∈ kept) && decide (e.2 ∈ kept)).map fun e => (ixI kept e.1, ixI kept e.2)
theorem mem_keptL {n : Nat} {bar : List Int} {x : Int} : x ∈ keptL n bar ↔ (0 ≤ x ∧ x < n) ∧ x ∉ bar := by
  unfold keptL
  rw [List.mem_filter, mem_irange]
  simp
theorem keptL_lt (n : Nat) (bar : List Int) : (keptL n bar).Pairwise (· < ·) := (irange_lt n).filter _
theorem keptL_len (n : Nat) (bar : List Int) : (keptL n bar).length ≤ n := by
  have := List.length_filter_le (fun p => decide (p ∉ bar)) (irange n)
  rw [irange_length] at this
  exact this
theorem keptL_nil (n : Nat) : keptL n [] = irange n := by
  unfold keptL
  rw [List.filter_eq_self]
  intro a _
  simp
theorem ix_get {l : List Int} {x : Int} (h : x ∈ l) : 0 ≤ ixI l x ∧ ixI l x < l.length ∧ l[(ixI l x).toNat]? = some x := by
  have h1 := List.idxOf_lt_length_of_mem h
  unfold ixI
  refine ⟨by omega, by omega, ?_⟩
  rw [Int.toNat_natCast, List.getElem?_eq_getElem h1, List.getElem_idxOf h1]
theorem ix_of {l : List Int} (nd : l.Nodup) {i : Nat} {x : Int} (h : l[i]? = some x) : ixI l x = i := by
  obtain ⟨h1, e⟩ := List.getElem?_eq_some_iff.mp h
  unfold ixI
  rw [← e, nd.idxOf_getElem i h1]
theorem ix_inj {l : List Int} {x y : Int} (hx : x ∈ l) (hy : y ∈ l) (e : ixI l x = ixI l y) : x = y := by
  have h1 := (ix_get hx).2.2
  have h2 := (ix_get hy).2.2
  rw [e, h2] at h1
  exact (Option.some.inj h1).symm
theorem ix_lt {l : List Int} (p : l.Pairwise (· < ·)) {x y : Int} (hx : x ∈ l) (hy : y ∈ l) (h : x < y) : ixI l x < ixI l y := by
  obtain ⟨a1, a2, a3⟩ := ix_get hx
  obtain ⟨b1, b2, b3⟩ := ix_get hy
  obtain ⟨a4, a5⟩ := List.getElem?_eq_some_iff.mp a3
  obtain ⟨b4, b5⟩ := List.getElem?_eq_some_iff.mp b3
  rcases Nat.lt_trichotomy (ixI l x).toNat (ixI l y).toNat with q | q | q
  · omega
  · have e : ixI l x = ixI l y := by omega
    have := ix_inj hx hy e
    omega
  · have r := List.pairwise_iff_getElem.mp p (ixI l y).toNat (ixI l x).toNat b4 a4 q
    rw [a5, b5] at r
    omega
theorem nodup_map_on {α β : Type} {f : α → β} : ∀ {l : List α}, l.Nodup → (∀ a ∈ l, ∀ b ∈ l, f a = f b → a = b) → (l.map f).Nodup
  | [], _, _ => List.nodup_nil
  | a :: l, nd, inj => by
    obtain ⟨h1, h2⟩ := List.nodup_cons.mp nd
    rw [List.map_cons, List.nodup_cons]
    refine ⟨fun hm => ?_, nodup_map_on h2 fun x hx y hy e => inj x (List.mem_cons_of_mem _ hx) y (List.mem_cons_of_mem _ hy) e⟩
    obtain ⟨b, hb, e⟩ := List.mem_map.mp hm
    exact h1 ((inj b (List.mem_cons_of_mem _ hb) a List.mem_cons_self e) ▸ hb)
theorem mem_leftTies {es : List Tie} {kept : List Int} {i j : Int} : (i, j) ∈ leftTies es kept ↔ ∃ x y, (x, y) ∈ es ∧ x ∈ kept ∧ y ∈ kept ∧ ixI kept x = i ∧ ixI kept y = j := by
  unfold leftTies
  rw [List.mem_map]
  constructor
  · rintro ⟨⟨x, y⟩, h, e⟩
    obtain ⟨h1, h2⟩ := List.mem_filter.mp h
    simp only [Bool.and_eq_true, decide_eq_true_eq] at h2
    simp only [Prod.mk.injEq] at e
    exact ⟨x, y, h1, h2.1, h2.2, e.1, e.2⟩
  · rintro ⟨x, y, h, hx, hy, e1, e2⟩
    exact ⟨(x, y), List.mem_filter.mpr ⟨h, by simp [hx, hy]⟩, by simp [e1, e2]⟩
theorem left_ok {n : Nat} {es : List Tie} (w : WebOk n es) (bar : List Int) : WebOk (keptL n bar).length (leftTies es (keptL n bar)) := by
  have p := keptL_lt n bar
  refine ⟨?_, fun e he => ?_⟩
  · unfold leftTies
    refine nodup_map_on (w.nd.filter _) fun a ha b hb e => ?_
    have ha := (List.mem_filter.mp ha).2
    have hb := (List.mem_filter.mp hb).2
    simp only [Bool.and_eq_true, decide_eq_true_eq] at ha hb
    simp only [Prod.mk.injEq] at e
    exact Prod.ext (ix_inj ha.1 hb.1 e.1) (ix_inj ha.2 hb.2 e.2)
  · obtain ⟨i, j⟩ := e
    obtain ⟨x, y, h, hx, hy, e1, e2⟩ := mem_leftTies.mp he
    have b := w.bd _ h
    simp only at b ⊢
    have hx' := ix_get hx
    have hy' := ix_get hy
    have := ix_lt p hx hy b.2.1
    omega
theorem left_adj {n : Nat} {es : List Tie} {bar : List Int} {x y : Int} (hx : x ∈ keptL n bar) (hy : y ∈ keptL n bar) : Adj (leftTies es (keptL n bar)) (ixI (keptL n bar) x) (ixI (keptL n bar) y) ↔ Adj es x y := by
  unfold Adj
  rw [mem_leftTies, mem_leftTies]
  constructor
  · rintro (⟨a, b, h, ha, hb, e1, e2⟩ | ⟨a, b, h, ha, hb, e1, e2⟩)
    · rw [ix_inj ha hx e1, ix_inj hb hy e2] at h
      exact .inl h
    · rw [ix_inj ha hy e1, ix_inj hb hx e2] at h
      exact .inr h
  · rintro (h | h)
    · exact .inl ⟨x, y, h, hx, hy, rfl, rfl⟩
    · exact .inr ⟨y, x, h, hy, hx, rfl, rfl⟩

/-! ### what a bar shows -/
/-- v is what the bar shows -/
def Shown (n : Nat) (es : List Tie) (bar : List Int) (v : Int) : Prop :=
  ∃ xss m, NearOk (keptL n bar).length (leftTies es (keptL n bar)) xss ∧ PartsN (keptL n bar).length xss m ∧ v = (m : Int) - (bar.length : Int)
theorem NearOk.same {n : Nat} {es : List Tie} {xss yss : List (List Int)} (X : NearOk n es xss) (Y : NearOk n es yss) : ∀ (i : Nat) x y, xss[i]? = some x → yss[i]? = some y → ∀ z, z ∈ x ↔ z ∈ y := fun i x y hx hy z => by
  rw [X.mem i x hx z, Y.mem i y hy z]
theorem Shown.one {n : Nat} {es : List Tie} (w : WebOk n es) {bar : List Int} {v u : Int} (h : Shown n es bar v) (h' : Shown n es bar u) : v = u := by
  obtain ⟨xss, m, X, P, rfl⟩ := h
  obtain ⟨yss, k, Y, R, rfl⟩ := h'
  have W := left_ok w bar
  have P' := P.rows X.len Y.len (X.same Y) (fun _ _ => trivial) (X.row_bd W)
  rw [P'.one (Y.symm W) R]
open Classical in
/-- what the bar shows -/
noncomputable def sh (n : Nat) (es : List Tie) (bar : List Int) : Int := if h : ∃ v, Shown n es bar v then h.choose else 0
theorem Shown.eq {n : Nat} {es : List Tie} (w : WebOk n es) {bar : List Int} {v : Int} (h : Shown n es bar v) : v = sh n es bar := by
  have e : ∃ v, Shown n es bar v := ⟨v, h⟩
  have : sh n es bar = e.choose := by unfold sh; rw [dif_pos e]
  rw [this]
  exact h.one w e.choose_spec
theorem leftTies_all {n : Nat} {es : List Tie} (w : WebOk n es) : leftTies es (irange n) = es := by
  have ixe : ∀ x : Int, 0 ≤ x → x < n → ixI (irange n) x = x := fun x h0 h1 => by
    have q : (irange n)[x.toNat]? = some x := by
      rw [irange_get (by omega)]
      congr 1
      omega
    rw [ix_of (irange_nodup n) q]
    omega
  unfold leftTies
  rw [List.filter_eq_self.mpr fun e he => ?_]
  · have : ∀ e ∈ es, (ixI (irange n) e.1, ixI (irange n) e.2) = e := fun e he => by
      have b := w.bd e he
      rw [ixe e.1 b.1 (by omega), ixe e.2 (by omega) b.2.2]
    rw [List.map_congr_left this, List.map_id']
  · have b := w.bd e he
    simp only [Bool.and_eq_true, decide_eq_true_eq, mem_irange]
    omega
/-- the bar without places shows how many parts there are -/
theorem shown_nil {n : Nat} {es : List Tie} (w : WebOk n es) {xss : List (List Int)} (N : NearOk n es xss) {m : Nat} (P : PartsN n xss m) : (m : Int) = sh n es [] := by
  refine Shown.eq w ⟨xss, m, ?_, ?_, by simp⟩
  · rw [keptL_nil, irange_length, leftTies_all w]
    exact N
  · rw [keptL_nil, irange_length]
    exact P

/-! ### ways, partings -/
/-- each next one is tied to the one ahead -/
def Linked (es : List Tie) : List Int → Prop
  | [] => True
  | [_] => True
  | x :: y :: r => Adj es x y ∧ Linked es (y :: r)
structure Way (n : Nat) (es : List Tie) (w : List Int) : Prop where
  ne : w ≠ []
  nd : w.Nodup
  bd : ∀ x ∈ w, 0 ≤ x ∧ x < n
  lk : Linked es w
structure Parting (n : Nat) (es : List Tie) (ws : List (List Int)) : Prop where
  way : ∀ w ∈ ws, Way n es w
  all : ws.flatten.Perm (irange n)
theorem Linked.tail {es : List Tie} {x : Int} : ∀ {r : List Int}, Linked es (x :: r) → Linked es r
  | [], _ => trivial
  | _ :: _, h => h.2
/-- what is within a way: without its first and its last place -/
def inner : List Int → List Int
  | [] => []
  | _ :: r => r.dropLast
/-- the heads of the pieces when the bar is struck: op tells whether the one ahead is there and not in the bar -/
def heads (bar : List Int) : Bool → List Int → List Int
  | _, [] => []
  | op, x :: r => if x ∈ bar then heads bar false r else if op = true then heads bar true r else x :: heads bar true r
def hits (bar l : List Int) : Nat := (l.filter fun x => decide (x ∈ bar)).length
theorem hits_cons (bar : List Int) (x : Int) (l : List Int) : hits bar (x :: l) = (if x ∈ bar then 1 else 0) + hits bar l := by
  unfold hits
  rw [List.filter_cons]
  by_cases h : x ∈ bar
  · simp [h]; omega
  · simp [h]
theorem heads_le (bar : List Int) : ∀ l : List Int, (heads bar true l).length ≤ hits bar l.dropLast ∧ (heads bar false l).length ≤ 1 + hits bar l.dropLast
  | [] => by simp [heads]
  | [x] => by
    by_cases h : x ∈ bar <;> simp [heads, h]
  | x :: y :: r => by
    have ih := heads_le bar (y :: r)
    have e : (x :: y :: r).dropLast = x :: (y :: r).dropLast := rfl
    rw [e, hits_cons]
    by_cases h : x ∈ bar
    · have e1 : ∀ b, heads bar b (x :: y :: r) = heads bar false (y :: r) := fun b => by rw [heads, if_pos h]
      rw [e1, e1, if_pos h]
      omega
    · have e1 : heads bar true (x :: y :: r) = heads bar true (y :: r) := by rw [heads, if_neg h, if_pos rfl]
      have e2 : heads bar false (x :: y :: r) = x :: heads bar true (y :: r) := by rw [heads, if_neg h, if_neg (by simp)]
      rw [e1, e2, if_neg h, List.length_cons]
      omega
theorem heads_way (bar : List Int) {w : List Int} (h : w ≠ []) : (heads bar false w).length ≤ 1 + hits bar (inner w) := by
  cases w with
  | nil => exact absurd rfl h
  | cons x r =>
    have q := heads_le bar r
    show (heads bar false (x :: r)).length ≤ 1 + hits bar r.dropLast
    by_cases hx : x ∈ bar
    · have e1 : heads bar false (x :: r) = heads bar false r := by rw [heads, if_pos hx]
      rw [e1]
      exact q.2
    · have e2 : heads bar false (x :: r) = x :: heads bar true r := by rw [heads, if_neg hx, if_neg (by simp)]
      rw [e2, List.length_cons]
      omega
/-- a place of the way that is not in the bar is led to from a head -/
theorem heads_lead {es : List Tie} {bar : List Int} {C : Int → Prop} (hC : ∀ x y, x ∉ bar → y ∉ bar → Adj es x y → C y → C x) :
    ∀ (l : List Int) (p : Option Int), (∀ q, p = some q → q ∉ bar ∧ Linked es (q :: l)) → Linked es l → ∀ x ∈ l, x ∉ bar → C x → (∃ h ∈ heads bar p.isSome l, C h) ∨ ∃ q, p = some q ∧ C q
  | [], _, _, _, x, hx, _, _ => by cases hx
  | a :: r, p, hp, hl, x, hx, hb, c => by
    by_cases ha : a ∈ bar
    · have e : heads bar p.isSome (a :: r) = heads bar false r := by rw [heads, if_pos ha]
      have hx' : x ∈ r := by
        rcases List.mem_cons.mp hx with q | q
        · exact absurd (q ▸ ha) hb
        · exact q
      rw [e]
      rcases heads_lead hC r none (fun q z => nomatch z) hl.tail x hx' hb c with h | ⟨q, z, _⟩
      · exact .inl h
      · cases z
    · have up : ∀ y, C y → y = a ∨ (∃ h ∈ heads bar true r, C h) ∨ C a → C a ∨ ∃ h ∈ heads bar true r, C h := fun y cy z => by
        rcases z with z | z | z
        · exact .inl (z ▸ cy)
        · exact .inr z
        · exact .inl z
      have key : C a ∨ ∃ h ∈ heads bar true r, C h := by
        rcases List.mem_cons.mp hx with q | q
        · exact .inl (q ▸ c)
        · rcases heads_lead hC r (some a) (fun q z => by cases z; exact ⟨ha, hl⟩) hl.tail x q hb c with h | ⟨q, z, cq⟩
          · exact .inr h
          · cases z
            exact .inl cq
      cases p with
      | none =>
        have e : heads bar (none : Option Int).isSome (a :: r) = a :: heads bar true r := by rw [heads, if_neg ha, if_neg (by simp)]
        rw [e]
        rcases key with z | ⟨h, hh, z⟩
        · exact .inl ⟨a, List.mem_cons_self, z⟩
        · exact .inl ⟨h, List.mem_cons_of_mem _ hh, z⟩
      | some q =>
        have e : heads bar (some q).isSome (a :: r) = heads bar true r := by rw [heads, if_neg ha, if_pos (show (some q).isSome = true from rfl)]
        rw [e]
        rcases key with z | h
        · obtain ⟨h1, h2⟩ := hp q rfl
          exact .inr ⟨q, rfl, hC q a h1 ha h2.1 z⟩
        · exact .inl h
theorem heads_out (bar : List Int) : ∀ (b : Bool) (l : List Int) (x : Int), x ∈ heads bar b l → x ∈ l ∧ x ∉ bar
  | _, [], x, h => by cases h
  | b, a :: r, x, h => by
    rw [heads] at h
    split at h
    · have q := heads_out bar _ r x h
      exact ⟨List.mem_cons_of_mem _ q.1, q.2⟩
    · rename_i ha
      split at h
      · have q := heads_out bar _ r x h
        exact ⟨List.mem_cons_of_mem _ q.1, q.2⟩
      · rcases List.mem_cons.mp h with e | h
        · subst e
          exact ⟨List.mem_cons_self, ha⟩
        · have q := heads_out bar _ r x h
          exact ⟨List.mem_cons_of_mem _ q.1, q.2⟩
theorem sum_heads (bar : List Int) : ∀ ws : List (List Int), (∀ w ∈ ws, w ≠ []) → (ws.flatMap (heads bar false)).length ≤ ws.length + hits bar (ws.flatMap inner)
  | [], _ => by simp [hits]
  | w :: ws, h => by
    have ih := sum_heads bar ws fun v hv => h v (List.mem_cons_of_mem _ hv)
    have q := heads_way bar (h w List.mem_cons_self)
    have e : hits bar (inner w ++ ws.flatMap inner) = hits bar (inner w) + hits bar (ws.flatMap inner) := by
      unfold hits
      rw [List.filter_append, List.length_append]
    rw [List.flatMap_cons, List.flatMap_cons, List.length_append, List.length_cons, e]
    omega
theorem inner_sub (w : List Int) : (inner w).Sublist w := by
  cases w with
  | nil => exact List.Sublist.refl _
  | cons x r => exact (List.dropLast_sublist r).cons x
theorem inners_sub : ∀ ws : List (List Int), (ws.flatMap inner).Sublist ws.flatten
  | [] => List.Sublist.refl _
  | w :: ws => by
    rw [List.flatMap_cons, List.flatten_cons]
    exact (inner_sub w).append (inners_sub ws)
/-- the parting keeps the ends -/
def Keeps (ends : List Int) (ws : List (List Int)) : Prop := ∀ x ∈ ends, x ∉ ws.flatMap inner
def both (bar ends : List Int) : Nat := (bar.filter fun x => decide (x ∈ ends)).length
theorem filter_split {α : Type} (p : α → Bool) : ∀ l : List α, (l.filter p).length + (l.filter fun x => !p x).length = l.length
  | [] => rfl
  | a :: l => by
    have ih := filter_split p l
    rw [List.filter_cons, List.filter_cons]
    cases p a <;> simp <;> omega
/-- THE LAW OF BARS -/
theorem bar_le {n : Nat} {es : List Tie} (w : WebOk n es) {ws : List (List Int)} (P : Parting n es ws) {bar ends : List Int} (nd : bar.Nodup) (K : Keeps ends ws) {v : Int} (S : Shown n es bar v) : v + (both bar ends : Int) ≤ ws.length := by
  obtain ⟨xss, m, X, ⟨ps, seen, R, rfl⟩, rfl⟩ := S
  have W := left_ok w bar
  -- the heads are as many as the parts at the least
  have h1 : ps.length ≤ ((ws.flatMap (heads bar false)).map (ixI (keptL n bar))).length := by
    refine R.count fun c hc => ?_
    obtain ⟨p, C⟩ := R.each c hc
    have pb := C.bd p C.hd
    have hp : p.toNat < (keptL n bar).length := by omega
    obtain ⟨x, hx⟩ : ∃ x, (keptL n bar)[p.toNat]? = some x := ⟨_, List.getElem?_eq_getElem hp⟩
    have hxk : x ∈ keptL n bar := List.mem_of_getElem? hx
    have ex : ixI (keptL n bar) x = p := by
      rw [ix_of (nodup_of_lt (keptL_lt n bar)) hx]
      omega
    obtain ⟨xb, xo⟩ := mem_keptL.mp hxk
    have hxw : x ∈ ws.flatten := P.all.mem_iff.mpr (mem_irange.mpr xb)
    obtain ⟨wy, hwy, hxwy⟩ := List.mem_flatten.mp hxw
    have Wy := P.way wy hwy
    have lead := heads_lead (es := es) (bar := bar) (C := fun z => z ∈ keptL n bar ∧ ixI (keptL n bar) z ∈ c) ?_ wy none (fun q z => nomatch z) Wy.lk x hxwy xo ⟨hxk, ex ▸ C.hd⟩
    · rcases lead with ⟨h, hh, ch⟩ | ⟨q, z, _⟩
      · exact ⟨_, List.mem_map.mpr ⟨h, List.mem_flatMap.mpr ⟨wy, hwy, hh⟩, rfl⟩, ch.2⟩
      · cases z
    · intro a b ha hb hab cb
      have ak : a ∈ keptL n bar := mem_keptL.mpr ⟨(w.adj hab).1, ha⟩
      have q := (left_adj (es := es) ak cb.1).mpr hab
      have gb := ix_get cb.1
      obtain ⟨row, hr, hm⟩ := X.at (x := ixI (keptL n bar) b) ⟨gb.1, gb.2.1⟩
      exact ⟨ak, C.cl _ cb.2 row hr _ ((hm _).mpr q.symm)⟩
  have h2 := sum_heads bar ws fun wy hwy => (P.way wy hwy).ne
  rw [List.length_map] at h1
  -- the places of the bar within ways are none of the ends
  have nI : (ws.flatMap inner).Nodup := (inners_sub ws).nodup (P.all.nodup_iff.mpr (irange_nodup n))
  have h3 : hits bar (ws.flatMap inner) ≤ (bar.filter fun x => !decide (x ∈ ends)).length := by
    unfold hits
    refine List.Nodup.length_le_of_subset (nI.filter _) fun x hx => ?_
    obtain ⟨q1, q2⟩ := List.mem_filter.mp hx
    simp only [decide_eq_true_eq] at q2
    refine List.mem_filter.mpr ⟨q2, ?_⟩
    simp only [Bool.not_eq_true', decide_eq_false_iff_not]
    exact fun q => K x q q1
  have h4 := filter_split (fun x => decide (x ∈ ends)) bar
  unfold both
  omega
end Fw

set_option linter.all false
set_option maxHeartbeats 4000000
namespace Fw
/-! ### least of a list -/
def minL : List Nat → Nat
  | [] => 0
  | [x] => x
  | x :: y :: r => min x (minL (y :: r))
theorem minL_mem : ∀ {l : List Nat}, l ≠ [] → minL l ∈ l
  | [], h => absurd rfl h
  | [x], _ => List.mem_cons_self
  | x :: y :: r, _ => by
    have ih := minL_mem (l := y :: r) (by simp)
    show min x (minL (y :: r)) ∈ x :: y :: r
    by_cases h : x ≤ minL (y :: r)
    · rw [Nat.min_eq_left h]
      exact List.mem_cons_self
    · rw [Nat.min_eq_right (by omega)]
      exact List.mem_cons_of_mem _ ih
theorem minL_le : ∀ {l : List Nat} {x : Nat}, x ∈ l → minL l ≤ x
  | [], x, h => by cases h
  | [a], x, h => by
    rw [List.mem_singleton] at h
    subst h
    exact Nat.le_refl _
  | a :: b :: r, x, h => by
    show min a (minL (b :: r)) ≤ x
    rcases List.mem_cons.mp h with e | h
    · subst e
      exact Nat.min_le_left _ _
    · exact Nat.le_trans (Nat.min_le_right _ _) (minL_le h)
theorem minL_eq {l : List Nat} {m : Nat} (hm : m ∈ l) (h : ∀ y ∈ l, m ≤ y) : m = minL l :=
  Nat.le_antisymm (h _ (minL_mem (List.ne_nil_of_mem hm))) (minL_le hm)
theorem minL_snoc {l : List Nat} (h : l ≠ []) (x : Nat) : minL (l ++ [x]) = min (minL l) x := by
  refine (minL_eq ?_ fun y hy => ?_).symm
  · by_cases q : minL l ≤ x
    · rw [Nat.min_eq_left q]
      exact List.mem_append_left _ (minL_mem h)
    · rw [Nat.min_eq_right (by omega)]
      exact List.mem_append_right _ List.mem_cons_self
  · rcases List.mem_append.mp hy with hy | hy
    · exact Nat.le_trans (Nat.min_le_left _ _) (minL_le hy)
    · rw [List.mem_singleton] at hy
      subst hy
      exact Nat.min_le_right _ _
/-! ### bits -/
def on (m : Nat) (p : Int) : Bool := m.testBit p.toNat
theorem on_le {m : Nat} {p : Int} (h : on m p = true) : 2 ^ p.toNat ≤ m := Nat.ge_two_pow_of_testBit h
theorem off_bit {m p : Nat} (h : m.testBit p = true) (q : Nat) : (m - 2 ^ p).testBit q = (m.testBit q && decide (q ≠ p)) := by
  have hle : 2 ^ p ≤ m := Nat.ge_two_pow_of_testBit h
  rcases Nat.lt_trichotomy q p with hq | hq | hq
  · have ne : decide (q ≠ p) = true := decide_eq_true (by omega)
    rw [ne, Bool.and_true, Nat.testBit_eq_decide_div_mod_eq, Nat.testBit_eq_decide_div_mod_eq]
    have e : 2 ^ p = 2 ^ q * 2 ^ (p - q) := by rw [← Nat.pow_add]; congr 1; omega
    have e2 : 2 ^ (p - q) = 2 * 2 ^ (p - q - 1) := by rw [← Nat.pow_succ']; congr 1; omega
    rw [e, Nat.sub_mul_div]
    have hle2 : 2 ^ (p - q) ≤ m / 2 ^ q := by
      rw [Nat.le_div_iff_mul_le (Nat.two_pow_pos q), Nat.mul_comm, ← e]
      exact hle
    congr 2
    omega
  · subst hq
    have ne : decide (q ≠ q) = false := by simp
    rw [ne, Bool.and_false, Nat.testBit_eq_decide_div_mod_eq]
    rw [Nat.testBit_eq_decide_div_mod_eq] at h
    have h := of_decide_eq_true h
    have e := Nat.sub_mul_div m (2 ^ q) 1
    rw [Nat.mul_one] at e
    rw [e]
    exact decide_eq_false (by omega)
  · have ne : decide (q ≠ p) = true := decide_eq_true (by omega)
    rw [ne, Bool.and_true, Nat.testBit_eq_decide_div_mod_eq, Nat.testBit_eq_decide_div_mod_eq]
    have hb : (m % 2 ^ q).testBit p = true := by rw [Nat.testBit_mod_two_pow]; simp [hq, h]
    have hge : 2 ^ p ≤ m % 2 ^ q := Nat.ge_two_pow_of_testBit hb
    have hlt : m % 2 ^ q < 2 ^ q := Nat.mod_lt _ (Nat.two_pow_pos q)
    have hm := Nat.div_add_mod m (2 ^ q)
    have e : (m - 2 ^ p) / 2 ^ q = m / 2 ^ q := by
      have e1 : m - 2 ^ p = (m % 2 ^ q - 2 ^ p) + 2 ^ q * (m / 2 ^ q) := by
        generalize 2 ^ q * (m / 2 ^ q) = A at hm ⊢
        generalize m % 2 ^ q = B at hm hge hlt ⊢
        generalize 2 ^ p = C at hge hle ⊢
        omega
      rw [e1, Nat.add_mul_div_left _ _ (Nat.two_pow_pos q), Nat.div_eq_of_lt (Nat.lt_of_le_of_lt (Nat.sub_le _ _) hlt), Nat.zero_add]
    rw [e]
theorem off_on {m : Nat} {p : Int} (hp : 0 ≤ p) (h : on m p = true) {q : Int} (hq : 0 ≤ q) : on (m - 2 ^ p.toNat) q = (on m q && decide (q ≠ p)) := by
  unfold on
  rw [off_bit h]
  congr 1
  by_cases e : q = p
  · subst e; simp
  · have : q.toNat ≠ p.toNat := by omega
    simp [e, this]
def places (n m : Nat) : List Int := (irange n).filter (on m)
theorem mem_places {n m : Nat} {x : Int} : x ∈ places n m ↔ (0 ≤ x ∧ x < n) ∧ on m x = true := by
  unfold places
  rw [List.mem_filter, mem_irange]
theorem places_lt (n m : Nat) : (places n m).Pairwise (· < ·) := (irange_lt n).filter _
theorem places_len (n m : Nat) : (places n m).length ≤ n := by
  have := List.length_filter_le (on m) (irange n)
  rw [irange_length] at this
  exact this
theorem on_lt {n m : Nat} (hm : m < 2 ^ n) {x : Int} (h0 : 0 ≤ x) (h : on m x = true) : x < n := by
  by_cases q : x < n
  · exact q
  · exfalso
    have : m < 2 ^ x.toNat := Nat.lt_of_lt_of_le hm (Nat.pow_le_pow_right (by decide) (by omega))
    unfold on at h
    rw [Nat.testBit_lt_two_pow this] at h
    cases h
theorem places_off {n m : Nat} {p : Int} (h : p ∈ places n m) : (places n (m - 2 ^ p.toNat)).length + 1 = (places n m).length := by
  obtain ⟨hb, ho⟩ := mem_places.mp h
  have e : places n (m - 2 ^ p.toNat) = (places n m).filter fun x => decide (x ≠ p) := by
    refine eq_of_lt (places_lt _ _) ((places_lt n m).filter _) fun x => ?_
    rw [List.mem_filter, mem_places, mem_places]
    constructor
    · rintro ⟨h1, h2⟩
      rw [off_on hb.1 ho h1.1] at h2
      simp only [Bool.and_eq_true] at h2
      exact ⟨⟨h1, h2.1⟩, h2.2⟩
    · rintro ⟨⟨h1, h2⟩, h3⟩
      refine ⟨h1, ?_⟩
      rw [off_on hb.1 ho h1.1, h2, h3]
      rfl
  have s := filter_split (fun x => decide (x ≠ p)) (places n m)
  have one : ((places n m).filter fun x => !decide (x ≠ p)).length = 1 := by
    have nd := nodup_of_lt (places_lt n m)
    have q : ((places n m).filter fun x => !decide (x ≠ p)) = [p] := by
      refine eq_of_lt ((places_lt n m).filter _) (List.pairwise_singleton _ _) fun x => ?_
      rw [List.mem_filter, List.mem_singleton]
      simp only [ne_eq, decide_not, Bool.not_not, decide_eq_true_eq]
      exact ⟨fun z => z.2, fun z => ⟨z ▸ h, z⟩⟩
    rw [q]
    rfl
  rw [e]
  omega
theorem places_pos {n m : Nat} (hm : m < 2 ^ n) (h : m ≠ 0) : places n m ≠ [] := fun e => by
  apply h
  refine Nat.eq_of_testBit_eq fun i => ?_
  rw [Nat.zero_testBit]
  cases q : m.testBit i with
  | false => rfl
  | true =>
    have hi : on m (i : Int) = true := by unfold on; rw [Int.toNat_natCast]; exact q
    have : (i : Int) ∈ places n m := mem_places.mpr ⟨⟨by omega, on_lt hm (by omega) hi⟩, hi⟩
    rw [e] at this
    cases this
/-! ### fewest ways, by trial -/
theorem fm_map {α β : Type} (c : α → Bool) (f : α → β) : ∀ l : List α, (l.filterMap fun a => if c a = true then some (f a) else none) = (l.filter c).map f
  | [] => rfl
  | a :: l => by
    rw [List.filterMap_cons, List.filter_cons]
    by_cases h : c a = true
    · rw [if_pos h, if_pos h, List.map_cons, fm_map c f l]
    · rw [if_neg h, if_neg h, fm_map c f l]
mutual
def leastN (n : Nat) (xss : List (List Int)) (m : Nat) : Nat :=
  if m = 0 then 0 else 1 + minL ((irange n).filterMap fun p => if h : on m p = true then some (ledN n xss (m - 2 ^ p.toNat) p) else none)
termination_by 2 * m
decreasing_by
  have := on_le h
  have := Nat.two_pow_pos p.toNat
  omega
def ledN (n : Nat) (xss : List (List Int)) (m : Nat) (e : Int) : Nat :=
  minL (leastN n xss m :: (xss.getD e.toNat []).filterMap fun p => if h : on m p = true then some (ledN n xss (m - 2 ^ p.toNat) p) else none)
termination_by 2 * m + 1
decreasing_by
  · omega
  · have := on_le h
    have := Nat.two_pow_pos p.toNat
    omega
end
theorem dite_ite {α β : Type} (c : α → Bool) (f : α → β) : (fun a => if h : c a = true then some (f a) else none) = fun a => if c a = true then some (f a) else none := by
  funext a
  by_cases h : c a = true
  · rw [dif_pos h, if_pos h]
  · rw [dif_neg h, if_neg h]
theorem leastN_zero (n : Nat) (xss : List (List Int)) : leastN n xss 0 = 0 := by rw [leastN, if_pos rfl]
theorem leastN_eq {n : Nat} {xss : List (List Int)} {m : Nat} (h : m ≠ 0) : leastN n xss m = 1 + minL ((places n m).map fun p => ledN n xss (m - 2 ^ p.toNat) p) := by
  rw [leastN, if_neg h, dite_ite (on m) (fun p => ledN n xss (m - 2 ^ p.toNat) p), fm_map]
  rfl
theorem ledN_eq {n : Nat} {xss : List (List Int)} {m : Nat} {e : Int} {row : List Int} (h : xss[e.toNat]? = some row) : ledN n xss m e = minL (leastN n xss m :: (row.filter (on m)).map fun p => ledN n xss (m - 2 ^ p.toNat) p) := by
  rw [ledN, dite_ite (on m) (fun p => ledN n xss (m - 2 ^ p.toNat) p), fm_map, List.getD_eq_getElem?_getD, h]
  rfl
/-! least_way's loop -/
structure WayTo (n : Nat) (es : List Tie) (xss : List (List Int)) (m : Nat) (w : List Int) (m' : Nat) : Prop where
  way : Way n es w
  sub : ∀ x ∈ w, on m x = true
  bits : ∀ x : Int, 0 ≤ x → on m' x = (on m x && decide (x ∉ w))
  lt : m' < 2 ^ n
  led : ∀ e, w.getLast? = some e → ledN n xss m' e + 1 = leastN n xss m
theorem off_lt {n m : Nat} (h : m < 2 ^ n) (k : Nat) : m - k < 2 ^ n := Nat.lt_of_le_of_lt (Nat.sub_le _ _) h
theorem WayTo.start {n : Nat} {es : List Tie} {xss : List (List Int)} {m : Nat} (hm : m < 2 ^ n) {p : Int} (h : p ∈ places n m) (e : ledN n xss (m - 2 ^ p.toNat) p + 1 = leastN n xss m) : WayTo n es xss m [p] (m - 2 ^ p.toNat) := by
  obtain ⟨hb, ho⟩ := mem_places.mp h
  refine ⟨⟨by simp, by simp, fun x hx => ?_, trivial⟩, fun x hx => ?_, fun x hx => ?_, off_lt hm _, fun z hz => ?_⟩
  · rw [List.mem_singleton] at hx
    subst hx
    exact hb
  · rw [List.mem_singleton] at hx
    subst hx
    exact ho
  · rw [off_on hb.1 ho hx]
    simp
  · simp only [List.getLast?_singleton, Option.some.injEq] at hz
    subst hz
    exact e
/-- some place starts a way -/
theorem start_some {n : Nat} {xss : List (List Int)} {m : Nat} (hm : m < 2 ^ n) (h : m ≠ 0) : ∃ p ∈ places n m, ledN n xss (m - 2 ^ p.toNat) p + 1 = leastN n xss m := by
  have q := leastN_eq (n := n) (xss := xss) h
  have ne : ((places n m).map fun p => ledN n xss (m - 2 ^ p.toNat) p) ≠ [] := fun e => places_pos hm h (List.map_eq_nil_iff.mp e)
  obtain ⟨p, hp, e⟩ := List.mem_map.mp (minL_mem ne)
  exact ⟨p, hp, by omega⟩
theorem led_next {n : Nat} {xss : List (List Int)} {m : Nat} {e : Int} {row : List Int} (h : xss[e.toNat]? = some row) (ne : leastN n xss m ≠ ledN n xss m e) : ∃ p ∈ row.filter (on m), ledN n xss (m - 2 ^ p.toNat) p = ledN n xss m e := by
  have q := ledN_eq (n := n) (m := m) h
  have z := minL_mem (l := leastN n xss m :: (row.filter (on m)).map fun p => ledN n xss (m - 2 ^ p.toNat) p) (by simp)
  rw [← q] at z
  rcases List.mem_cons.mp z with z | z
  · exact absurd z.symm ne
  · obtain ⟨p, hp, e⟩ := List.mem_map.mp z
    exact ⟨p, hp, e⟩
theorem linked_snoc {es : List Tie} : ∀ {w : List Int} {e p : Int}, Linked es w → w.getLast? = some e → Adj es e p → Linked es (w ++ [p])
  | [], _, _, _, h, _ => by cases h
  | [x], e, p, _, h, a => by
    simp only [List.getLast?_singleton, Option.some.injEq] at h
    subst h
    exact ⟨a, trivial⟩
  | x :: y :: r, e, p, l, h, a => by
    rw [List.getLast?_cons_cons] at h
    exact ⟨l.1, linked_snoc (w := y :: r) l.2 h a⟩
theorem WayTo.step {n : Nat} {es : List Tie} {xss : List (List Int)} (W : WebOk n es) (N : NearOk n es xss) {m : Nat} {w : List Int} {m' : Nat} (T : WayTo n es xss m w m') {e p : Int} (hl : w.getLast? = some e) {row : List Int}
    (hr : xss[e.toNat]? = some row) (hp : p ∈ row.filter (on m')) (h : ledN n xss (m' - 2 ^ p.toNat) p = ledN n xss m' e) : WayTo n es xss m (w ++ [p]) (m' - 2 ^ p.toNat) := by
  obtain ⟨hrow, ho⟩ := List.mem_filter.mp hp
  have eb := T.way.bd e (List.mem_of_getLast? hl)
  have pb := N.row_bd W row (List.mem_of_getElem? hr) p hrow
  have hb := T.bits p pb.1
  rw [ho] at hb
  have hb := hb.symm
  simp only [Bool.and_eq_true, decide_eq_true_eq] at hb
  have ad : Adj es e p := by
    have q := (N.mem _ _ hr p).mp hrow
    have ee : ((e.toNat : Nat) : Int) = e := by omega
    rw [ee] at q
    exact q
  refine ⟨⟨by simp, nodup_append_of T.way.nd (by simp) fun x hx hm => ?_, fun x hx => ?_, linked_snoc T.way.lk hl ad⟩, fun x hx => ?_, fun x hx => ?_, off_lt T.lt _, fun z hz => ?_⟩
  · rw [List.mem_singleton] at hm
    subst hm
    exact hb.2 hx
  · rcases List.mem_append.mp hx with hx | hx
    · exact T.way.bd x hx
    · rw [List.mem_singleton] at hx
      subst hx
      exact pb
  · rcases List.mem_append.mp hx with hx | hx
    · exact T.sub x hx
    · rw [List.mem_singleton] at hx
      subst hx
      exact hb.1
  · rw [off_on pb.1 ho hx, T.bits x hx]
    by_cases q : x ∈ w
    · simp [q]
    · simp [q]
  · simp only [List.getLast?_concat, Option.some.injEq] at hz
    subst hz
    rw [h]
    exact T.led e hl
/-! least_parting's loop -/
structure LeastTo (n : Nat) (es : List Tie) (xss : List (List Int)) (ws : List (List Int)) (m : Nat) : Prop where
  way : ∀ w ∈ ws, Way n es w
  nd : ws.flatten.Nodup
  bits : ∀ x : Int, 0 ≤ x → x < n → on m x = decide (x ∉ ws.flatten)
  lt : m < 2 ^ n
  few : leastN n xss m + ws.length = leastN n xss (2 ^ n - 1)
theorem flatten_snoc {α : Type} (l : List (List α)) (w : List α) : (l ++ [w]).flatten = l.flatten ++ w := by simp
theorem LeastTo.start (n : Nat) (es : List Tie) (xss : List (List Int)) : LeastTo n es xss [] (2 ^ n - 1) := by
  have := Nat.two_pow_pos n
  refine ⟨fun _ h => (List.not_mem_nil h).elim, List.nodup_nil, fun x h0 h1 => ?_, by omega, by simp⟩
  unfold on
  rw [Nat.testBit_two_pow_sub_one]
  have : x.toNat < n := by omega
  simp [this]
theorem LeastTo.step {n : Nat} {es : List Tie} {xss : List (List Int)} {ws : List (List Int)} {m : Nat} (T : LeastTo n es xss ws m) {w : List Int} {m' : Nat} (U : WayTo n es xss m w m') (e : leastN n xss m' + 1 = leastN n xss m) : LeastTo n es xss (ws ++ [w]) m' := by
  have out : ∀ x ∈ ws.flatten, x ∉ w := fun x hx hw => by
    have b := U.way.bd x hw
    have q := U.sub x hw
    rw [T.bits x b.1 b.2] at q
    exact (of_decide_eq_true q) hx
  refine ⟨fun v hv => ?_, ?_, fun x h0 h1 => ?_, U.lt, ?_⟩
  · rcases List.mem_append.mp hv with hv | hv
    · exact T.way v hv
    · rw [List.mem_singleton] at hv
      subst hv
      exact U.way
  · rw [flatten_snoc]
    exact nodup_append_of T.nd U.way.nd out
  · rw [U.bits x h0, T.bits x h0 h1, flatten_snoc]
    simp only [List.mem_append, not_or, Bool.decide_and]
  · have := T.few
    rw [List.length_append]
    simp
    omega
theorem perm_of_nodup {l m : List Int} (hl : l.Nodup) (hm : m.Nodup) (h : ∀ x, x ∈ l ↔ x ∈ m) : l.Perm m := by
  rw [List.perm_iff_count]
  intro x
  rw [hl.count, hm.count]
  simp only [h x]
theorem LeastTo.parting {n : Nat} {es : List Tie} {xss : List (List Int)} {ws : List (List Int)} (T : LeastTo n es xss ws 0) : Parting n es ws ∧ ws.length = leastN n xss (2 ^ n - 1) := by
  refine ⟨⟨T.way, perm_of_nodup T.nd (irange_nodup n) fun x => ?_⟩, ?_⟩
  · rw [mem_irange]
    constructor
    · intro hx
      obtain ⟨w, hw, hxw⟩ := List.mem_flatten.mp hx
      exact (T.way w hw).bd x hxw
    · rintro ⟨h0, h1⟩
      have q := T.bits x h0 h1
      have z : on 0 x = false := by unfold on; exact Nat.zero_testBit _
      rw [z] at q
      have := of_decide_eq_false q.symm
      exact Classical.not_not.mp this
  · have := T.few
    rw [leastN_zero] at this
    omega
theorem LeastTo.count {n : Nat} {es : List Tie} {xss : List (List Int)} {ws : List (List Int)} {m : Nat} (T : LeastTo n es xss ws m) : ws.length ≤ n := by
  have bd : ∀ x ∈ ws.flatten, 0 ≤ x ∧ x < n := fun x hx => by
    obtain ⟨w, hw, hxw⟩ := List.mem_flatten.mp hx
    exact (T.way w hw).bd x hxw
  have h := length_le_n T.nd bd
  have g : ∀ vs : List (List Int), (∀ v ∈ vs, v ≠ []) → vs.length ≤ vs.flatten.length := fun vs => by
    induction vs with
    | nil => intro _; exact Nat.le_refl _
    | cons v vs ih =>
      intro hv
      have q := ih fun u hu => hv u (List.mem_cons_of_mem _ hu)
      have r := List.length_pos_iff.mpr (hv v List.mem_cons_self)
      rw [List.flatten_cons, List.length_append, List.length_cons]
      omega
  have := g ws fun w hw => (T.way w hw).ne
  omega
end Fw

set_option Elab.async false
set_option linter.all false
set_option maxRecDepth 100000
set_option maxHeartbeats 4000000
/-! rules that this law wants beside the layer's: xs.extend(tuple), set(list of ints), len(set(tuple of ints)) -/
namespace FwX
open PySem PySem.Spec PyProof.Rows L2
open PySem.AutoSeq1 in
theorem ext_tup (l : Addr) (its : Array Value) (n : Nat) (b : Addr) (zs : Array Value) (n2 : Nat) (dd : Option Addr) (sl : Array (Option Value)) (h0 : ¬(!its.isEmpty && Builtin.List.listTooLong (its.size + zs.size)) = true) (h1 : its.size ≤ sizeLine) (h2 : its.size + zs.size ≤ sizeLine + 1) :
    Meets (Builtin.«list.extend» ⟨[.ref l, .ref b], []⟩) (fun _ R s => s.heap.get? l = some { cls := .type "list", data := .seq its n } ∧ s.heap.get? b = some { cls := .type "tuple", dict := dd, data := .seq zs n2, slots := sl } ∧
      R (.ok (.ret Value.none)) { s with heap := s.heap.update l (Obj.mapSeq fun x => x ++ zs), toks := s.toks }) :=
  .of_wp fun prog w A R s h => by
    obtain ⟨hp, g, d, tk, os⟩ := s
    obtain ⟨hl, hb, h⟩ := h
    have f2 := PySem.AutoSeq1.sub_tuple_tuple
    have f3 := PySem.AutoSeq1.sub_list_list
    have f4 := PySem.AutoSeq1.sub_tuple_list
    have f5 := PySem.AutoSeq1.sub_list_tuple
    have hz : (its ++ zs).size ≤ sizeLine + 1 := by
      rw [Array.size_append]
      exact h2
    wp_walk using (wpAny_updateSeq hl rfl (hz := h1) (_hz' := hz)), wpAny_loadPart' hl, wpAny_loadPart' hb
    exact ⟨_, rfl, h⟩
section
variable {X : Cx}
/-- xs.extend(t), t a tuple -/
def rExtT (K : PySem.W.Frag) : V → List V → Hp → VK → Prop := fun x vs H Q => ∃ l b xs zs, x = .ref l ∧ vs = [.ref b] ∧ H l = some (.lst xs) ∧ SqT K H b zs ∧ xs.length + zs.length ≤ sizeLine ∧ Q .non (upd H l (.lst (xs ++ zs)))
theorem mt_extT : MtM X "list.extend" (rExtT X.K) := by
  intro pins s σ H x vs v us Q I rx rv h
  obtain ⟨l, b, xs, zs, rfl, rfl, hH, hB, hz, q⟩ := h
  cases rx
  obtain ⟨u, rfl, ru⟩ := rv.one
  cases ru
  obtain ⟨z, its, n, r, hl, e⟩ := I.lstM hH
  obtain ⟨ws, r2, ⟨⟨cls, dd, dt, sl⟩, ho, hc, n2, hd⟩, z2⟩ := I.tuple hB
  simp only at hc hd
  subst hc hd
  have l2 := r2.length
  have hsz : its.toArray.size + ws.toArray.size ≤ sizeLine := by
    rw [List.size_toArray, List.size_toArray]
    omega
  have hlong : ¬ (!its.toArray.isEmpty && Builtin.List.listTooLong (its.toArray.size + ws.toArray.size)) = true := by
    rw [notLongL hsz, Bool.and_false]
    exact Bool.false_ne_true
  refine call_meets PySem.F.slot_list_extend ⟨_, e, rfl⟩ PySem.F.entry_list_extend (PySem.F.args_list_extend_2 _ _) (ext_tup l its.toArray n b ws.toArray n2 dd sl hlong (by rw [List.size_toArray]; omega) (by omega)) ⟨e, ho, ?_⟩
  refine ⟨.non, _, I.lset (its' := its ++ ws) hH e (by simp) (r.append r2) ?_, rfl, q⟩
  rw [List.length_append]
  omega
end
/-- the numbers in a set are as many as those of a list without twins -/
theorem setR_count {w : World} {h : Heap} {a : Addr} {ns : List Int} {c : Nat} (R : SetR w h a (fun j => decide (j ∈ ns)) c) (nd : ns.Nodup) : c = ns.length := by
  obtain ⟨o, es, ep, t, ho, hx, hd, g, nk, hm, hb, hf, hn, _⟩ := R
  have e1 : es.toList.map keyOf ⊆ ns := fun k hk => of_decide_eq_true ((hm k).mpr hk)
  have e2 : ns ⊆ es.toList.map keyOf := fun k hk => (hm k).mp (decide_eq_true hk)
  have l1 := List.Nodup.length_le_of_subset nk e1
  have l2 := List.Nodup.length_le_of_subset nd e2
  have e3 : es.toList.length = es.size := Array.length_toList
  rw [List.length_map] at l1 l2
  omega
section
variable {X : Cx}
/-- len(set(t)), t a tuple of ints, none twice -/
def tLenSetT (K : PySem.W.Frag) (ta : TE) : TE := fun σ H Q => ta σ H fun x H1 => ∃ (l : Addr) (ns : List Int), x = .ref l ∧ SqT K H1 l (ns.map V.int) ∧ ns.Nodup ∧ ns.length ≤ 1000 ∧ Q (.int (ns.length : Nat)) H1
theorem pe_lenSetT {a : Expr} {ta : TE} {p p2 q pos : Pos} (hg : Gl X "len") (hm : X.mg "len" = none) (hg2 : Gl X "set") (hm2 : X.mg "set" = none) (ha : PE X a ta) (hc : X.calm = true := by rfl)
    (na : starEach [a] X.env = (false, eval a X.env) :: starEach [] X.env := by rfl) : PE X (.Call (.Name "len" p) [.Call (.Name "set" p2) [a] [] q] [] pos) (tLenSetT X.K ta) := by
  refine ⟨fun pins s σ H Q I h => ?_⟩
  refine Call_ (ld_blt I hg hm boot_len ?_)
  refine PyProof.Rows.callWith_builtin1 (PyProof.Rows.args_cons ?_ rfl) rfl rfl
  refine Call_ (ld_blt I hg2 hm2 boot_set ?_)
  refine PyProof.Rows.callWith_type1 (PyProof.Rows.args_cons (thn (ha.run pins s σ H _ I h) fun v s1 ⟨x, H1, I1, r1, q1⟩ => PyProof.Rows.args_nil ?_) na) na rfl
  obtain ⟨l, ns, rfl, hq, hnd, hl, q1⟩ := q1
  cases r1
  obtain ⟨its, r, pl, hz⟩ := I1.tuple hq
  refine call_set_tupI ns (I1.ok.hd hc) pl (by simpa using ints_of_vals r) (by unfold scanBound; omega) fun h' tk c R hc k => ?_
  have ec := setR_count R hnd
  refine PyProof.Rows.args_nil ?_
  obtain ⟨o, es, ep, t, ho, hex, hd, _, _, _, _, hf, hn, _⟩ := id R
  have I2 : Inv X pins σ H1 { s1 with heap := h', toks := tk } := I1.kept fun b o e => k b o e
  exact call_len_set ho hex hd hf (by rw [hn]; omega) ⟨.int ns.length, H1, I2.tok _, ⟨_, by rw [hn, ec]⟩, q1⟩
end

/-! ### set(list of ints) -/
section
variable {P : Program} {w : World} {A : Around} {E : Value → Shared → Prop} {s : Shared}
/-- the bare set that set(..) lays -/
abbrev bareSet (w : World) : Obj := { cls := .type "set", dict := none, data := .set #[] 0 (.fresh 0 0 (!w.params.followText "set-order")) }
/-- the heap with it -/
abbrev withSet (w : World) (s : Shared) : Shared := { s with heap := s.heap.push (bareSet w) }
/-- what its __init__ leaves -/
def Filled (w : World) (ns : List Int) (s s' : Shared) : Prop :=
  ∃ h' tk c, s' = { s with heap := h', toks := tk } ∧ SetR w h' s.heap.objs.size (fun j => decide (j ∈ ns)) c ∧ c ≤ ns.length ∧ ∀ b o, s.heap.get? b = some o → h'.get? b = some o
set_option maxHeartbeats 8000000 in
theorem fill_list {l : Addr} {its : Array Value} (ns : List Int) (hh : A.handled = none) (hl : s.heap.IsList l its) (hit : IntsAre its.toList ns) (hb : ns.length + 1 < scanBound) :
    codeAny (model P w) A (.call (.builtin "set.__init__") ⟨[.ref s.heap.objs.size, .ref l], []⟩) (wants (fun r s₂ => r = .none ∧ Filled w ns s s₂) E) (withSet w s) := by
  have room : its.size = ns.length := by
    have e := IntsAre.length hit
    rw [Array.length_toList] at e
    exact e
  have at0 : (withSet w s).heap.get? s.heap.objs.size = some (bareSet w) := Heap.get?_push_size _ rfl
  refine codeAny_call_builtin F.called_set.init.plain F.entry_set_init (check_set_init_1 ⟨_, at0, rfl⟩ ?_)
  obtain ⟨ob, hob, hc, k, hd⟩ := hl
  obtain ⟨oc, od, ot, osl⟩ := ob
  simp only at hc hd
  subst hc; subst hd
  have hob' : (withSet w s).heap.get? l = some { cls := .type "list", dict := od, data := .seq its k, slots := osl } := Heap.get?_push_of_some _ hob
  have f1 := F.sub_list_set
  have f2 := F.sub_list_frozenset
  have f3 : (Value.type "list" == Value.type "dict") = false := by decide
  have isl : (withSet w s).heap.IsList l its := ⟨_, hob', rfl, k, rfl⟩
  unfold Builtin.«set.__init__» noKeywords Builtin.Frozenset.updateFrom
  generalize hPI : pyIter = PI
  wp_walk
  subst hPI
  refine wpAny_pyIter_list isl ?_
  refine wpAny_bind (wpAny_runValue ?_)
  have below : l < s.heap.objs.size := Heap.lt_size hob
  have sz : (withSet w s).heap.objs.size = s.heap.objs.size + 1 := Heap.size_push ..
  have ne1 : l ≠ (withSet w s).heap.objs.size := by
    rw [sz]
    exact Nat.ne_of_lt (Nat.lt_succ_of_lt below)
  have ne2 : s.heap.objs.size ∉ [(withSet w s).heap.objs.size, l] := by
    rw [sz]
    simp only [List.mem_cons, List.not_mem_nil, or_false, not_or]
    exact ⟨Nat.ne_of_lt (Nat.lt_succ_self _), Nat.ne_of_gt below⟩
  have vals : ∀ (i : Nat) (v : Value), its[i]? = some v → ∃ z t, ns[i]? = some z ∧ v = .int z t := fun i v hv => by
    have hi : i < ns.length := by
      rw [← room]
      exact (Array.getElem?_eq_some_iff.mp hv).1
    obtain ⟨t, e⟩ := PyProof.Rows.IntsAre.int_at hit i v (by rw [Array.getElem?_toList]; exact hv)
    refine ⟨ns[i], t, List.getElem?_eq_getElem hi, ?_⟩
    rw [e, List.getD_eq_getElem?_getD, List.getElem?_eq_getElem hi]
    rfl
  have hh3 : A.in1.in1.handled = none := by simp [hh]
  refine set_update_ints ((Walks.list (by simp [hh]) _ l ne1 its).toS) s.heap.objs.size ne2 ns room hb vals (its.size - 0) 0 _ (by omega) (Nat.zero_le _) ⟨⟨_, Heap.get?_push_size _ rfl, rfl, rfl⟩, isl.push _⟩ ?start ?fin
  case start => exact ⟨0, Nat.le_refl 0, setR_new_at (Heap.get?_push_of_some _ at0)⟩
  case fin =>
    intro s' c hm hc S
    obtain ⟨h', g', d', tk', os'⟩ := s'
    have eg : g' = s.gens := hm.gens
    have ed : d' = s.drawn := hm.drawn
    have eo : os' = s.os := hm.os
    subst eg; subst ed; subst eo
    show wpAny _ _ _ _ _ _
    refine wpAny_pure ?_
    show wpAny _ _ (ret Value.none) _ _ _
    rw [room] at hc
    refine wpAny_pure ⟨rfl, h', tk', c, rfl, S, hc, fun b o e => ?_⟩
    have lt : b < s.heap.objs.size := Heap.lt_size e
    refine hm.heap b o ?_ (Heap.get?_push_of_some _ (Heap.get?_push_of_some _ e))
    simp only [List.mem_cons, List.not_mem_nil, or_false, not_or]
    refine ⟨Nat.ne_of_lt lt, ?_⟩
    rw [sz]
    exact Nat.ne_of_lt (Nat.lt_succ_of_lt lt)
set_option maxHeartbeats 8000000 in
theorem set_of_list {l : Addr} {its : Array Value} (ns : List Int) {Q : Value → Shared → Prop} (hh : A.handled = none) (hl : s.heap.IsList l its) (hit : IntsAre its.toList ns) (hb : ns.length + 1 < scanBound)
    (h : ∀ s', Filled w ns s s' → Q (.ref s.heap.objs.size) s') : wpAny (model P w) A (call (.type "set") [.ref l]) Q E s := by
  obtain ⟨c, tl, hmro⟩ := F.called_set.mro
  have g1 := F.called_set.made
  have g2 := F.called_set.sub
  have g3 := F.called_set.notType
  have g4 := F.called_set.canCreate
  have g5 := F.typeCall_set_1 (.ref l)
  refine wpAny_call (codeAny_of_tree ?_)
  show wpAny _ _ (callAny (.type "set") _) _ _ _
  refine wpAny_pure ⟨Code.quiet_builtin _ (by decide +kernel), codeAny_builtin F.entry_type_call ?_⟩
  rw [Around.under_plain (weight_type_call_type "set" [.ref l] []) rfl]
  repeat (any_goals (first | assumption | wp_step))
  refine codeAny_mono (code_set_led1 (.ref l) (E := E) (Q₁ := fun v s₁ => v = .ref s.heap.objs.size ∧ s₁ = withSet w s) ⟨rfl, rfl⟩) fun r s₁ hr => ?_
  cases r with
  | error e => exact hr
  | ok fl =>
    cases fl with
    | ret v =>
      obtain ⟨rfl, rfl⟩ := hr
      have at0 : (withSet w s).heap.get? s.heap.objs.size = some (bareSet w) := Heap.get?_push_size _ rfl
      have ty : Shared.TypeIs (withSet w s) (.ref s.heap.objs.size) "set" := ⟨_, at0, rfl⟩
      have g6 := F.called_set.init.lookup
      have g7 := F.called_set.init.bind (.ref s.heap.objs.size)
      repeat (any_goals (first | assumption | wp_step))
      refine codeAny_mono (fill_list (E := E) ns (by simp [hh]) hl hit hb) fun r₂ s₂ hr₂ => ?_
      cases r₂ with
      | error e => exact hr₂
      | ok f2 =>
        cases f2 with
        | ret r =>
          obtain ⟨rfl, hF⟩ := hr₂
          repeat (any_goals (first | assumption | wp_step))
          exact h _ hF
        | _ => exact hr₂.elim
    | _ => exact hr.elim
end
section
variable {X : Cx}
/-- set(xs), xs a list of ints -/
def rSetL (K : PySem.W.Frag) (w : World) : List V → Hp → VK → Prop := fun vs H Q => ∃ (l : Addr) (ns : List Int), vs = [V.ref l] ∧ SqL K H l (ns.map V.int) ∧ ns.length ≤ 1000 ∧
  ∀ a c, H a = none → c ≤ ns.length → Q (.ref a) (upd H a (SetO w a (fun j => decide (j ∈ ns)) c))
theorem cr_setL (hc : X.calm = true) : CallR X (.type "set") (rSetL X.K X.w) := by
  intro pins s σ H vs us Q I r h
  obtain ⟨l, ns, rfl, hl, hn, q⟩ := h
  rw [Vals.ref1 r]
  obtain ⟨its, rv, pl, hz⟩ := I.list hl
  have fr : H s.heap.objs.size = none := I.hok.fresh (Nat.le_refl _)
  refine set_of_list ns (I.ok.hd hc) pl.isList (by simpa using ints_of_vals rv) (by unfold scanBound; omega) fun s' hF => ?_
  obtain ⟨h', tk, c, rfl, R, hc', k⟩ := hF
  exact ⟨.ref s.heap.objs.size, upd H s.heap.objs.size (SetO X.w s.heap.objs.size (fun j => decide (j ∈ ns)) c), I.laid (t' := tk) k (Nat.le_refl _) (setO_new R), rfl, q _ c fr hc'⟩
end
end FwX

set_option Elab.async false
set_option linter.all false
set_option maxRecDepth 100000
set_option maxHeartbeats 4000000
/-! the text by places, the names of each def -/
namespace FwW
open PySem PySem.Spec PyProof.Rows L2
def top (i : Nat) : Stmt := PySem.Challenge.pw_fewways_k25_whole_bars.main.body.getD i (.Pass ⟨0, 0, 0, 0⟩)
abbrev sIsNumber : Stmt := top 8
theorem scIsNumber : FnScope ["thing", "least", "below"] ["thing", "least", "below"] (defScope sIsNumber) := ⟨rfl, rfl, rfl, by decide +kernel, rfl, by decide +kernel, by decide +kernel⟩
abbrev sIsPair : Stmt := top 9
theorem scIsPair : FnScope ["many", "thing"] ["many", "thing"] (defScope sIsPair) := ⟨rfl, rfl, rfl, by decide +kernel, rfl, by decide +kernel, by decide +kernel⟩
abbrev sRises : Stmt := top 10
theorem scRises : FnScope ["row", "k"] ["row"] (defScope sRises) := ⟨rfl, rfl, rfl, by decide +kernel, rfl, by decide +kernel, by decide +kernel⟩
abbrev sIsWeb : Stmt := top 11
theorem scIsWeb : FnScope ["thing", "many", "ties", "tie"] ["thing"] (defScope sIsWeb) := ⟨rfl, rfl, rfl, by decide +kernel, rfl, by decide +kernel, by decide +kernel⟩
abbrev sNeedWeb : Stmt := top 12
theorem scNeedWeb : FnScope ["thing"] ["thing"] (defScope sNeedWeb) := ⟨rfl, rfl, rfl, by decide +kernel, rfl, by decide +kernel, by decide +kernel⟩
abbrev sIsPlaces : Stmt := top 13
theorem scIsPlaces : FnScope ["web", "thing", "one"] ["web", "thing"] (defScope sIsPlaces) := ⟨rfl, rfl, rfl, by decide +kernel, rfl, by decide +kernel, by decide +kernel⟩
abbrev sNeedPlaces : Stmt := top 14
theorem scNeedPlaces : FnScope ["web", "thing"] ["web", "thing"] (defScope sNeedPlaces) := ⟨rfl, rfl, rfl, by decide +kernel, rfl, by decide +kernel, by decide +kernel⟩
abbrev sNear : Stmt := top 15
theorem scNear : FnScope ["web", "found", "place", "one", "other", "some"] ["web"] (defScope sNear) := ⟨rfl, rfl, rfl, by decide +kernel, rfl, by decide +kernel, by decide +kernel⟩
abbrev sComeTo : Stmt := top 16
theorem scComeTo : FnScope ["beside", "place", "found", "at", "other"] ["beside", "place"] (defScope sComeTo) := ⟨rfl, rfl, rfl, by decide +kernel, rfl, by decide +kernel, by decide +kernel⟩
abbrev sPartsBy : Stmt := top 17
theorem scPartsBy : FnScope ["beside", "found", "seen", "place"] ["beside"] (defScope sPartsBy) := ⟨rfl, rfl, rfl, by decide +kernel, rfl, by decide +kernel, by decide +kernel⟩
abbrev sParts : Stmt := top 18
theorem scParts : FnScope ["web"] ["web"] (defScope sParts) := ⟨rfl, rfl, rfl, by decide +kernel, rfl, by decide +kernel, by decide +kernel⟩
abbrev sLeftOver : Stmt := top 19
theorem scLeftOver : FnScope ["web", "places", "kept", "place", "number", "k", "ties", "one", "other"] ["web", "places"] (defScope sLeftOver) := ⟨rfl, rfl, rfl, by decide +kernel, rfl, by decide +kernel, by decide +kernel⟩
abbrev sGoes : Stmt := top 21
theorem scGoes : FnScope ["web", "thing", "one", "k"] ["web", "thing"] (defScope sGoes) := ⟨rfl, rfl, rfl, by decide +kernel, rfl, by decide +kernel, by decide +kernel⟩
abbrev sTieOf : Stmt := top 22
theorem scTieOf : FnScope ["one", "other"] ["one", "other"] (defScope sTieOf) := ⟨rfl, rfl, rfl, by decide +kernel, rfl, by decide +kernel, by decide +kernel⟩
abbrev sPartsAll : Stmt := top 23
theorem scPartsAll : FnScope ["web", "thing", "way", "places"] ["web", "thing"] (defScope sPartsAll) := ⟨rfl, rfl, rfl, by decide +kernel, rfl, by decide +kernel, by decide +kernel⟩
abbrev sNeedParting : Stmt := top 24
theorem scNeedParting : FnScope ["web", "thing"] ["web", "thing"] (defScope sNeedParting) := ⟨rfl, rfl, rfl, by decide +kernel, rfl, by decide +kernel, by decide +kernel⟩
abbrev sShown : Stmt := top 27
theorem scShown : FnScope ["web", "bar"] ["web", "bar"] (defScope sShown) := ⟨rfl, rfl, rfl, by decide +kernel, rfl, by decide +kernel, by decide +kernel⟩
abbrev sShows : Stmt := top 28
theorem scShows : FnScope ["web", "bar"] ["web", "bar"] (defScope sShows) := ⟨rfl, rfl, rfl, by decide +kernel, rfl, by decide +kernel, by decide +kernel⟩
abbrev sShownWith : Stmt := top 29
theorem scShownWith : FnScope ["web", "ends", "bar", "place"] ["web", "ends", "bar"] (defScope sShownWith) := ⟨rfl, rfl, rfl, by decide +kernel, rfl, by decide +kernel, by decide +kernel⟩
abbrev sShowsWith : Stmt := top 30
theorem scShowsWith : FnScope ["web", "ends", "bar"] ["web", "ends", "bar"] (defScope sShowsWith) := ⟨rfl, rfl, rfl, by decide +kernel, rfl, by decide +kernel, by decide +kernel⟩
abbrev sKept : Stmt := top 31
theorem scKept : FnScope ["ends", "parting", "within", "way", "place"] ["ends", "parting"] (defScope sKept) := ⟨rfl, rfl, rfl, by decide +kernel, rfl, by decide +kernel, by decide +kernel⟩
abbrev sKeeps : Stmt := top 32
theorem scKeeps : FnScope ["web", "ends", "parting"] ["web", "ends", "parting"] (defScope sKeeps) := ⟨rfl, rfl, rfl, by decide +kernel, rfl, by decide +kernel, by decide +kernel⟩
abbrev sBestBar : Stmt := top 33
theorem scBestBar : FnScope ["web", "best", "bits", "bar", "place", "told"] ["web"] (defScope sBestBar) := ⟨rfl, rfl, rfl, by decide +kernel, rfl, by decide +kernel, by decide +kernel⟩
abbrev sIsBarPaper : Stmt := top 34
theorem scIsBarPaper : FnScope ["web", "thing", "ends", "parting", "bar"] ["web", "thing"] (defScope sIsBarPaper) := ⟨rfl, rfl, rfl, by decide +kernel, rfl, by decide +kernel, by decide +kernel⟩
abbrev sNeedSmall : Stmt := top 37
theorem scNeedSmall : FnScope ["web"] ["web"] (defScope sNeedSmall) := ⟨rfl, rfl, rfl, by decide +kernel, rfl, by decide +kernel, by decide +kernel⟩
abbrev sTInit : Stmt := inClass (top 38) 0
theorem scTInit : FnScope ["self", "web"] ["self", "web"] (defScope sTInit) := ⟨rfl, rfl, rfl, by decide +kernel, rfl, by decide +kernel, by decide +kernel⟩
abbrev sTPlaces : Stmt := inClass (top 38) 1
theorem scTPlaces : FnScope ["self", "bits", "place"] ["self", "bits"] (defScope sTPlaces) := ⟨rfl, rfl, rfl, by decide +kernel, rfl, by decide +kernel, by decide +kernel⟩
abbrev sTLeast : Stmt := inClass (top 38) 2
theorem scTLeast : FnScope ["self", "bits", "some", "place"] ["self", "bits"] (defScope sTLeast) := ⟨rfl, rfl, rfl, by decide +kernel, rfl, by decide +kernel, by decide +kernel⟩
abbrev sTLed : Stmt := inClass (top 38) 3
theorem scTLed : FnScope ["self", "bits", "end", "key", "best", "place"] ["self", "bits", "end"] (defScope sTLed) := ⟨rfl, rfl, rfl, by decide +kernel, rfl, by decide +kernel, by decide +kernel⟩
abbrev sTWay : Stmt := inClass (top 38) 4
theorem scTWay : FnScope ["self", "bits", "more", "starts", "place", "way", "some", "one"] ["self", "bits"] (defScope sTWay) := ⟨rfl, rfl, rfl, by decide +kernel, rfl, by decide +kernel, by decide +kernel⟩
abbrev sFewest : Stmt := top 39
theorem scFewest : FnScope ["web"] ["web"] (defScope sFewest) := ⟨rfl, rfl, rfl, by decide +kernel, rfl, by decide +kernel, by decide +kernel⟩
abbrev sLeastParting : Stmt := top 40
theorem scLeastParting : FnScope ["web", "trial", "bits", "found", "way"] ["web"] (defScope sLeastParting) := ⟨rfl, rfl, rfl, by decide +kernel, rfl, by decide +kernel, by decide +kernel⟩
abbrev sCell : Stmt := top 42
theorem scCell : FnScope ["_law_script", "_law_k"] ["_law_script", "_law_k"] (defScope sCell) := ⟨rfl, rfl, rfl, by decide +kernel, rfl, by decide +kernel, by decide +kernel⟩
abbrev sDraw : Stmt := top 43
theorem scDraw : FnScope ["_law_cell", "_law_k", "_law_bound", "_law_left", "_law_j", "_law_stir"] ["_law_cell", "_law_k", "_law_bound"] (defScope sDraw) := ⟨rfl, rfl, rfl, by decide +kernel, rfl, by decide +kernel, by decide +kernel⟩
abbrev sLWeb : Stmt := top 44
theorem scLWeb : FnScope ["_law_cell", "_law_most", "_law_many", "_law_thick", "_law_ties", "_law_one", "_law_other"] ["_law_cell", "_law_most"] (defScope sLWeb) := ⟨rfl, rfl, rfl, by decide +kernel, rfl, by decide +kernel, by decide +kernel⟩
abbrev sLNear : Stmt := top 45
theorem scLNear : FnScope ["_law_web_here", "_law_found", "_law_place", "_law_one", "_law_other"] ["_law_web_here"] (defScope sLNear) := ⟨rfl, rfl, rfl, by decide +kernel, rfl, by decide +kernel, by decide +kernel⟩
abbrev sLSome : Stmt := top 46
theorem scLSome : FnScope ["_law_cell", "_law_many", "_law_at", "_law_kind", "_law_found", "_law_place"] ["_law_cell", "_law_many", "_law_at"] (defScope sLSome) := ⟨rfl, rfl, rfl, by decide +kernel, rfl, by decide +kernel, by decide +kernel⟩
abbrev sLParted : Stmt := top 47
theorem scLParted : FnScope ["_law_cell", "_law_at", "_law_web_here", "_law_nigh", "_law_left", "_law_found", "_law_way", "_law_far", "_law_turn", "_law_some_here", "_law_place"] ["_law_cell", "_law_at", "_law_web_here", "_law_nigh"] (defScope sLParted) := ⟨rfl, rfl, rfl, by decide +kernel, rfl, by decide +kernel, by decide +kernel⟩
abbrev sLaw : Stmt := top 48
theorem scLaw : FnScope ["_law_script", "_law_k", "_law_cell", "_law_web_here", "_law_nigh", "_law_few", "_law_most", "_law_best", "_law_least", "_law_at", "_law_bar", "_law_told", "_law_parting", "_law_tips", "_law_way", "_law_here"] ["_law_script"] (defScope sLaw) := ⟨rfl, rfl, rfl, by decide +kernel, rfl, by decide +kernel, by decide +kernel⟩
end FwW

set_option Elab.async false
set_option linter.all false
set_option maxRecDepth 100000
set_option maxHeartbeats 4000000
namespace FwW
open PySem PySem.Spec PyProof.Rows L2 Fw FwX
/-! ### heaps -/
theorem same_new {H : Hp} {p : Addr} (h : H p = none) (o : HO) : Same H (upd H p o) := fun b u q => by
  rw [upd_ne (ne_of_none q h)]
  exact q
def TieO (e : Tie) : HO := .tup [.int e.1, .int e.2]
def RowO (xs : List Int) : HO := .lst (xs.map V.int)
def TupO (xs : List Int) : HO := .tup (xs.map V.int)
/-- at the addresses stand the things -/
structure Each {α : Type} (f : α → HO) (H : Hp) (as : List Addr) (xs : List α) : Prop where
  len : as.length = xs.length
  at_ : ∀ (i : Nat) a x, as[i]? = some a → xs[i]? = some x → H a = some (f x)
section
variable {α : Type} {f : α → HO} {H H' : Hp} {as : List Addr} {xs : List α}
theorem Each.same (e : Each f H as xs) (s : Same H H') : Each f H' as xs := ⟨e.len, fun i a x h1 h2 => s _ _ (e.at_ i a x h1 h2)⟩
theorem Each.nil : Each f H [] ([] : List α) := ⟨rfl, fun i a x h => by simp at h⟩
theorem Each.snoc (e : Each f H as xs) {a : Addr} {x : α} (h : H a = some (f x)) : Each f H (as ++ [a]) (xs ++ [x]) := by
  refine ⟨by simp [e.len], fun i b y h1 h2 => ?_⟩
  by_cases hi : i < as.length
  · rw [List.getElem?_append_left hi] at h1
    rw [List.getElem?_append_left (by rw [← e.len]; exact hi)] at h2
    exact e.at_ i b y h1 h2
  · rw [List.getElem?_append_right (by omega)] at h1
    rw [List.getElem?_append_right (by rw [← e.len]; omega)] at h2
    have l := e.len
    have hz : i - as.length = 0 := by
      have := (List.getElem?_eq_some_iff.mp h1).1
      simp at this
      omega
    have hz2 : i - xs.length = 0 := by omega
    rw [hz] at h1
    rw [hz2] at h2
    simp at h1 h2
    rw [← h1, ← h2]
    exact h
theorem Each.get (e : Each f H as xs) {i : Nat} {x : α} (h : xs[i]? = some x) : ∃ a, as[i]? = some a ∧ H a = some (f x) := by
  have hi : i < as.length := by
    rw [e.len]
    exact (List.getElem?_eq_some_iff.mp h).1
  exact ⟨as[i], List.getElem?_eq_getElem hi, e.at_ i _ _ (List.getElem?_eq_getElem hi) h⟩
theorem Each.got (e : Each f H as xs) {i : Nat} {a : Addr} (h : as[i]? = some a) : ∃ x, xs[i]? = some x ∧ H a = some (f x) := by
  have hi : i < xs.length := by
    rw [← e.len]
    exact (List.getElem?_eq_some_iff.mp h).1
  exact ⟨xs[i], List.getElem?_eq_getElem hi, e.at_ i _ _ h (List.getElem?_eq_getElem hi)⟩
end
def refs (as : List Addr) : List V := as.map V.ref
theorem refs_at {as : List Addr} {i : Nat} {v : V} (h : (refs as)[i]? = some v) : ∃ a, as[i]? = some a ∧ v = .ref a := by
  unfold refs at h
  rw [List.getElem?_map] at h
  cases e : as[i]? with
  | none => rw [e] at h; cases h
  | some a => rw [e] at h; exact ⟨a, rfl, (Option.some.inj h).symm⟩
theorem refs_get {as : List Addr} {i : Nat} {a : Addr} (h : as[i]? = some a) : (refs as)[i]? = some (.ref a) := by
  unfold refs
  rw [List.getElem?_map, h]
  rfl
theorem refs_len (as : List Addr) : (refs as).length = as.length := List.length_map _
theorem ints_at {xs : List Int} {i : Nat} {v : V} (h : (xs.map V.int)[i]? = some v) : ∃ x, xs[i]? = some x ∧ v = .int x := by
  rw [List.getElem?_map] at h
  cases e : xs[i]? with
  | none => rw [e] at h; cases h
  | some a => rw [e] at h; exact ⟨a, rfl, (Option.some.inj h).symm⟩
theorem ints_get {xs : List Int} {i : Nat} {x : Int} (h : xs[i]? = some x) : (xs.map V.int)[i]? = some (.int x) := by
  rw [List.getElem?_map, h]
  rfl
theorem ints_any (xs : List Int) (x : Int) : inV (.int x) (xs.map V.int) = decide (x ∈ xs) := by
  unfold inV
  rw [List.any_map]
  by_cases h : x ∈ xs
  · rw [decide_eq_true h]
    exact List.any_eq_true.mpr ⟨x, h, by show (x == x) = true; simp⟩
  · rw [decide_eq_false h]
    refine List.any_eq_false.mpr fun y hy => ?_
    show ¬ (y == x) = true
    intro q
    exact h ((eq_of_beq q) ▸ hy)
theorem ints_flat (xs : List Int) : (xs.map V.int).all flatV = true := by
  rw [List.all_map]
  exact List.all_eq_true.mpr fun _ _ => rfl
/-- a tuple, a list of things -/
def TupOf {α : Type} (f : α → HO) (H : Hp) (t : Addr) (xs : List α) : Prop := ∃ as, H t = some (.tup (refs as)) ∧ Each f H as xs
def LstOf {α : Type} (f : α → HO) (H : Hp) (t : Addr) (xs : List α) : Prop := ∃ as, H t = some (.lst (refs as)) ∧ Each f H as xs
theorem TupOf.same {α : Type} {f : α → HO} {H H' : Hp} {t : Addr} {xs : List α} (h : TupOf f H t xs) (s : Same H H') : TupOf f H' t xs :=
  let ⟨as, h1, h2⟩ := h
  ⟨as, s _ _ h1, h2.same s⟩
theorem LstOf.same {α : Type} {f : α → HO} {H H' : Hp} {t : Addr} {xs : List α} (h : LstOf f H t xs) (s : Same H H') : LstOf f H' t xs :=
  let ⟨as, h1, h2⟩ := h
  ⟨as, s _ _ h1, h2.same s⟩
/-- a web stands at a -/
def WebAt (H : Hp) (a : Addr) (n : Nat) (es : List Tie) : Prop := ∃ t, H a = some (.tup [.int n, .ref t]) ∧ TupOf TieO H t es
theorem WebAt.same {H H' : Hp} {a : Addr} {n : Nat} {es : List Tie} (h : WebAt H a n es) (s : Same H H') : WebAt H' a n es :=
  let ⟨t, h1, h2⟩ := h
  ⟨t, s _ _ h1, h2.same s⟩
theorem small9 {n : Nat} (h : n ≤ 1000) : n ≤ sizeLine := Nat.le_of_lt (small1000 h)
/-- the built-in names stand, and the numbers of the text -/
structure Blt (mg : Str → Option Value) : Prop where
  isinstance : mg "isinstance" = none
  int : mg "int" = none
  bool : mg "bool" = none
  tuple : mg "tuple" = none
  len : mg "len" = none
  all : mg "all" = none
  range : mg "range" = none
  sorted : mg "sorted" = none
  enumerate : mg "enumerate" = none
  dict : mg "dict" = none
  set : mg "set" = none
  min : mg "min" = none
  max : mg "max" = none
  list : mg "list" = none
  most : ∃ t, mg "MOST_PLACES" = some (.int 60 t)
  barred : ∃ t, mg "MOST_BARRED" = some (.int 12 t)
  tried : ∃ t, mg "MOST_TRIED" = some (.int 10 t)
section
variable {P : Program} {w : World} {K : PySem.W.Frag} {mg : Str → Option Value} {base : Heap}
/-! ### is_number, is_pair -/
def spIsNumber : Sp := fun vs H Q _ => ∃ i l b : Int, vs = [.int i, .int l, .int b] ∧ Q (.bl (decide (l ≤ i ∧ i < b))) H
theorem ok_isNumber {f : Addr} {fd : FuncData} (F : Fun K "is_number" "is_number" sIsNumber f fd) (T : Blt mg) : FnOk P w K mg base CX0 1 f fd ["thing", "least", "below"] spIsNumber := by
  refine F.ok scIsNumber (fun vs H Q E h => ?_) (fun cdv A outer s H vs Q E hr h => ?_)
  · obtain ⟨i, l, b, rfl, _⟩ := h
    rfl
  · obtain ⟨i, l, b, rfl, q⟩ := h
    refine ⟨_, pss_one (ps_ret (pe_and (pe_callB call_isi (by rfl) T.isinstance boot_isinstance (pa_cons (pv 0) (pa_cons (pe_bltn (v := .ty "int") (by rfl) T.int boot_int rfl) pa_nil)))
      (pe_and (pe_not (pe_callB call_isi (by rfl) T.isinstance boot_isinstance (pa_cons (pv 0) (pa_cons (pe_bltn (v := .ty "bool") (by rfl) T.bool boot_bool rfl) pa_nil))))
      (pe_one (pe_chain op_le op_lt (pv 1) (pv 0) (pv 2)))))), ?_⟩
    refine ⟨_, rfl, _, _, _, _, _, rfl, .ty _, .base (.int _), kit_ty (r := true) (by decide +kernel), true, rfl, iteT ?_⟩
    refine ⟨_, rfl, _, _, _, _, _, rfl, .ty _, .base (.int _), kit_ty (r := false) (by decide +kernel), false, rfl, true, rfl, iteT ?_⟩
    refine ⟨_, rfl, _, rfl, _, _, rfl, rfl, _, rfl, ?_⟩
    refine ite2 (fun h1 => ?_) (fun h1 => ?_)
    · refine ⟨_, rfl, _, _, rfl, rfl, ?_⟩
      have e : decide (l ≤ i ∧ i < b) = decide (i < b) := by
        have := of_decide_eq_true h1
        simp [this]
      rw [e] at q
      exact q
    · have e : decide (l ≤ i ∧ i < b) = false := by
        refine decide_eq_false fun z => h1 (decide_eq_true z.1)
      rw [e] at q
      exact q
/-- of a tie -/
def spIsPair : Sp := fun vs H Q _ => ∃ (n : Nat) (a : Addr) (e : Tie), vs = [.int n, .ref a] ∧ H a = some (TieO e) ∧ (0 ≤ e.1 ∧ e.1 < n) ∧ (0 ≤ e.2 ∧ e.2 < n) ∧ Q (.bl true) H
theorem ok_isPair {f f1 : Addr} {fd fd1 : FuncData} (F : Fun K "is_pair" "is_pair" sIsPair f fd) (T : Blt mg) (G : FnOk P w K mg base CX0 1 f1 fd1 ["thing", "least", "below"] spIsNumber) (g1 : mg "is_number" = some (.ref f1)) (k1 : PySem.W.keepIn K (.ref f1) = true) (b1 : Binds K fd1 ["thing", "least", "below"] []) :
    FnOk P w K mg base CX0 2 f fd ["many", "thing"] spIsPair := by
  refine F.ok scIsPair (fun vs H Q E h => ?_) (fun cdv A outer s H vs Q E hr h => ?_)
  · obtain ⟨n, a, e, rfl, _⟩ := h
    rfl
  · obtain ⟨n, a, e, rfl, hA, h1, h2, q⟩ := h
    refine ⟨_, pss_cons (ps_if (PW.pt (pw_or (pt_not (pt_val (pe_callB call_isi (by rfl) T.isinstance boot_isinstance (pa_cons (pv 1) (pa_cons (pe_bltn (v := .ty "tuple") (by rfl) T.tuple boot_tuple rfl) pa_nil)))))
        (pw_or1 (pt_cmpR op_ne (pe_callB call_len_seq (by rfl) T.len PySem.boot_len (pa_cons (pv 1) pa_nil)) pe_int (nomark _))))) (pss_one (ps_ret pe_bl)) pss_nil)
      (pss_one (ps_ret (pe_and (pe_call G hr (by rfl) g1 k1 b1 .nil pass0 (pa_cons (pe_ix ix_tup (pv 1) pe_int (fun _ _ => rfl)) (pa_cons pe_int (pa_cons (pv 0) pa_nil))))
        (pe_one (pe_call G hr (by rfl) g1 k1 b1 .nil pass0 (pa_cons (pe_ix ix_tup (pv 1) pe_int (fun _ _ => rfl)) (pa_cons pe_int (pa_cons (pv 0) pa_nil)))))))), ?_⟩
    have hS : SqT K H a [.int e.1, .int e.2] := SqT.of hA
    refine ⟨_, rfl, _, _, _, _, _, rfl, .ty _, .base (.tup hA), kit_ty (r := true) (by decide +kernel), true, rfl, ?_⟩
    refine iteF ?_
    refine ⟨_, rfl, _, _, rfl, .inr hS, rfl, _, rfl, ?_⟩
    refine iteF ?_
    refine ⟨_, rfl, _, _, _, _, rfl, rfl, hS, atI_nat (j := 0) rfl, _, rfl, _, _, _, rfl, true, ?_, iteT ?_⟩
    · rw [decide_eq_true h1]
    · refine ⟨_, rfl, _, _, _, _, rfl, rfl, hS, atI_nat (j := 1) rfl, _, rfl, _, _, _, rfl, ?_⟩
      rw [decide_eq_true h2]
      exact q
end
end FwW

set_option Elab.async false
set_option linter.all false
set_option maxRecDepth 100000
set_option maxHeartbeats 4000000
namespace FwW
open PySem PySem.Spec PyProof.Rows L2 Fw FwX
/-! ### a comprehension's list that grows while all else stands -/
structure Lc (H1 : Hp) (D : Addr) (l : List V) (H : Hp) : Prop where
  same : Same H1 H
  lst : H D = some (.lst l)
theorem Lc.start {H1 : Hp} {D : Addr} (h : H1 D = none) : Lc H1 D [] (upd H1 D (.lst [])) := ⟨same_new h _, upd_same⟩
theorem Lc.add {H1 H : Hp} {D : Addr} {l : List V} (c : Lc H1 D l H) (h : H1 D = none) (y : V) : Lc H1 D (l ++ [y]) (upd H D (.lst (l ++ [y]))) :=
  ⟨fun b o e => by
    rw [upd_ne (ne_of_none e h)]
    exact c.same b o e, upd_same⟩
theorem Lc.more {H1 H H' : Hp} {D : Addr} {l : List V} (c : Lc H1 D l H) (s : Same H H') : Lc H1 D l H' := ⟨c.same.trans s, s _ _ c.lst⟩
theorem bls_snoc (i : Nat) (f : Nat → Bool) : (List.range i).map (fun j => V.bl (f j)) ++ [V.bl (f i)] = (List.range (i + 1)).map (fun j => V.bl (f j)) := by
  rw [List.range_succ, List.map_append]
  rfl
def yes (i : Nat) : List V := (List.replicate i true).map V.bl
theorem yes_snoc (i : Nat) : yes i ++ [V.bl true] = yes (i + 1) := by
  unfold yes
  rw [List.replicate_succ', List.map_append]
  rfl
theorem yes_len (i : Nat) : (yes i).length = i := by simp [yes]
theorem yes_all (i : Nat) : ((List.replicate i true).all id) = true := by
  rw [List.all_eq_true]
  intro x hx
  exact List.eq_of_mem_replicate hx
/-- the layer's rules with the written part named: within a comprehension's block -/
theorem ixT {X : Cx} (K : PySem.W.Frag) (h : X.K = K := by rfl) : IxR X (rIxT K) := by
  subst h
  exact ix_tup
theorem ixL {X : Cx} (K : PySem.W.Frag) (h : X.K = K := by rfl) : IxR X (rIxL K) := by
  subst h
  exact ix_list
theorem inS {X : Cx} (K : PySem.W.Frag) (h : X.K = K := by rfl) : OpR X (compareOp .In) (rIn K false) := by
  subst h
  exact op_in_seq
theorem ninS {X : Cx} (K : PySem.W.Frag) (h : X.K = K := by rfl) : OpR X (compareOp .NotIn) (rIn K true) := by
  subst h
  exact op_notIn_seq
theorem ltT {X : Cx} (K : PySem.W.Frag) (hu : X.A.units < cLine) (h : X.K = K := by rfl) : OpR X (compareOp .Lt) (rLtT K) := by
  subst h
  exact op_ltT hu
theorem inD {X : Cx} (K : PySem.W.Frag) (hu : X.A.units + 65 < cLine) (h : X.K = K := by rfl) : OpR X (compareOp .In) (rInD K) := by
  subst h
  exact op_inD hu
theorem sortedI {X : Cx} (K : PySem.W.Frag) (h : X.K = K := by rfl) : CallR X (.builtin "sorted") (rSortedI K) := by
  subst h
  exact cr_sortedI
theorem tyes {σ : L2.St} {H : Hp} {A B : Hp → Prop} (h : A H) : tYes σ H (fun b H3 => if b = true then A H3 else B H3) := by
  show (if true = true then A H else B H)
  rw [if_pos rfl]
  exact h
def lexT (e f : Tie) : Prop := e.1 < f.1 ∨ (e.1 = f.1 ∧ e.2 < f.2)
theorem lexT_lt {e f : Tie} (h : lexT e f) : HT.lexLt [e.1, e.2] [f.1, f.2] = true := by
  rw [HT.lexLt_cons]
  rcases h with h | ⟨h1, h2⟩
  · rw [if_neg (by omega)]
    exact decide_eq_true h
  · rw [if_pos h1, HT.lexLt_cons, if_neg (by omega)]
    exact decide_eq_true h2
theorem toNat_len (n : Nat) : ((n : Int) - 1).toNat = n - 1 := by omega
section
variable {P : Program} {w : World} {K : PySem.W.Frag} {mg : Str → Option Value} {base : Heap}
/-! ### rises -/
def spRisesI (K : PySem.W.Frag) : Sp := fun vs H Q _ => ∃ (a : Addr) (xs : List Int), vs = [.ref a] ∧ H a = some (TupO xs) ∧ xs.Pairwise (· < ·) ∧ xs.length ≤ 1000 ∧ ∀ H', Same H H' → Q (.bl true) H'
theorem ok_risesI {f : Addr} {fd : FuncData} (F : Fun K "rises" "rises" sRises f fd) (T : Blt mg) : FnOk P w K mg base CX0 1 f fd ["row"] (spRisesI K) := by
  refine F.ok scRises (fun vs H Q E h => ?_) (fun cdv A outer s H vs Q E hr h => ?_)
  · obtain ⟨a, xs, rfl, _⟩ := h
    rfl
  · obtain ⟨a, xs, rfl, hA, hp, hl, q⟩ := h
    have nd := scRises.nd
    refine ⟨_, pss_one (ps_ret (pe_callB (cr_all rfl) (by rfl) T.all boot_all (pa_cons
      (pe_lc (own := [("k", 1)]) (g := gName 1) (tt := tYes) rfl nd (pi_range1 (by rfl) T.range (pa_cons (pe_op op_sub (pe_callB call_len_seq (by rfl) T.len PySem.boot_len (pa_cons (pv 0) pa_nil)) pe_int) pa_nil))
        (blkOk_by (own := [("k", 1)]) (N := ["row", "k"]) (sc := defScope sRises) (by decide +kernel)) (fun _ _ _ _ _ => pg_name (i := 1) nd rfl (Or.inl rfl)) (fun _ _ _ _ _ => pts_nil)
        (fun _ _ _ _ _ => pe_cmpR op_lt (pe_ix (ixT K) (pv 0) (pv 1) (fun _ _ => rfl)) (pe_ix (ixT K) (pv 0) (pe_op op_add (pv 1) pe_int) (fun _ _ => rfl)) (nomark _))) pa_nil))), ?_⟩
    have hS : SqT K H a (xs.map V.int) := SqT.of hA
    have hlen : (xs.map V.int).length = xs.length := List.length_map _
    refine ⟨_, rfl, _, _, rfl, .inr hS, _, _, rfl, rfl, _, rfl, by rw [hlen]; omega, by rw [hlen]; omega, fun D hD => ?_⟩
    rw [hlen, toNat_len]
    refine lc_range (lo := 0) (n := xs.length - 1) (fun i H' => Lc H D (yes i) H') (Lc.start hD) (fun i H' hi c => ?_) (fun H' c => ?_)
    · obtain ⟨h1, e1⟩ : ∃ h : i < xs.length, xs[i]? = some xs[i] := ⟨by omega, List.getElem?_eq_getElem _⟩
      obtain ⟨h2, e2⟩ : ∃ h : i + 1 < xs.length, xs[i + 1]? = some xs[i + 1] := ⟨by omega, List.getElem?_eq_getElem _⟩
      have hS' : SqT K H' a (xs.map V.int) := SqT.of (c.same _ _ hA)
      have lt := List.pairwise_iff_getElem.mp hp i (i + 1) h1 h2 (by omega)
      refine ⟨rfl, tyes ?_⟩
      refine ⟨_, rfl, _, rfl, _, _, _, _, rfl, rfl, hS', at_of (j := i) (by omega) (ints_get e1), _, rfl, _, rfl, _, _, rfl, rfl, _, _, _, _, rfl, rfl, hS', at_of (j := i + 1) (by omega) (ints_get e2), _, _, rfl, rfl, yes i, c.lst, ?_, ?_⟩
      · rw [yes_len]
        exact small1000 (by omega)
      · dsimp only
        rw [decide_eq_true lt, ← yes_snoc]
        exact c.add hD _
    · refine ⟨D, List.replicate (xs.length - 1) true, rfl, SqL.of c.lst, ?_⟩
      rw [yes_all]
      exact q H' c.same
def spRisesT : Sp := fun vs H Q _ => ∃ (a : Addr) (es : List Tie), vs = [.ref a] ∧ TupOf TieO H a es ∧ es.Pairwise lexT ∧ es.length ≤ 1000 ∧ ∀ H', Same H H' → Q (.bl true) H'
theorem ok_risesT {f : Addr} {fd : FuncData} (F : Fun K "rises" "rises" sRises f fd) (T : Blt mg) : FnOk P w K mg base CX0 1 f fd ["row"] spRisesT := by
  refine F.ok scRises (fun vs H Q E h => ?_) (fun cdv A outer s H vs Q E hr h => ?_)
  · obtain ⟨a, es, rfl, _⟩ := h
    rfl
  · obtain ⟨a, es, rfl, ⟨as, hA, each⟩, hp, hl, q⟩ := h
    have nd := scRises.nd
    refine ⟨_, pss_one (ps_ret (pe_callB (cr_all rfl) (by rfl) T.all boot_all (pa_cons
      (pe_lc (own := [("k", 1)]) (g := gName 1) (tt := tYes) rfl nd (pi_range1 (by rfl) T.range (pa_cons (pe_op op_sub (pe_callB call_len_seq (by rfl) T.len PySem.boot_len (pa_cons (pv 0) pa_nil)) pe_int) pa_nil))
        (blkOk_by (own := [("k", 1)]) (N := ["row", "k"]) (sc := defScope sRises) (by decide +kernel)) (fun _ _ _ _ _ => pg_name (i := 1) nd rfl (Or.inl rfl)) (fun _ _ _ _ _ => pts_nil)
        (fun _ _ _ _ _ => pe_cmpR (ltT K hr.units0) (pe_ix (ixT K) (pv 0) (pv 1) (fun _ _ => rfl)) (pe_ix (ixT K) (pv 0) (pe_op op_add (pv 1) pe_int) (fun _ _ => rfl)) (nomark _))) pa_nil))), ?_⟩
    have hS : SqT K H a (refs as) := SqT.of hA
    have hlen : (refs as).length = es.length := by rw [refs_len, each.len]
    refine ⟨_, rfl, _, _, rfl, .inr hS, _, _, rfl, rfl, _, rfl, by rw [hlen]; omega, by rw [hlen]; omega, fun D hD => ?_⟩
    rw [hlen, toNat_len]
    refine lc_range (lo := 0) (n := es.length - 1) (fun i H' => Lc H D (yes i) H') (Lc.start hD) (fun i H' hi c => ?_) (fun H' c => ?_)
    · obtain ⟨h1, e1⟩ : ∃ h : i < es.length, es[i]? = some es[i] := ⟨by omega, List.getElem?_eq_getElem _⟩
      obtain ⟨h2, e2⟩ : ∃ h : i + 1 < es.length, es[i + 1]? = some es[i + 1] := ⟨by omega, List.getElem?_eq_getElem _⟩
      obtain ⟨x, ex, hx⟩ := each.get e1
      obtain ⟨y, ey, hy⟩ := each.get e2
      have hS' : SqT K H' a (refs as) := SqT.of (c.same _ _ hA)
      have lt := List.pairwise_iff_getElem.mp hp i (i + 1) h1 h2 (by omega)
      refine ⟨rfl, tyes ?_⟩
      refine ⟨_, rfl, _, rfl, _, _, _, _, rfl, rfl, hS', at_of (j := i) (by omega) (refs_get ex), _, rfl, _, rfl, _, _, rfl, rfl, _, _, _, _, rfl, rfl, hS', at_of (j := i + 1) (by omega) (refs_get ey),
        x, y, [es[i].1, es[i].2], [es[i + 1].1, es[i + 1].2], rfl, rfl, SqT.of (c.same _ _ hx), SqT.of (c.same _ _ hy), yes i, c.lst, ?_, ?_⟩
      · rw [yes_len]
        exact small1000 (by omega)
      · rw [lexT_lt lt, ← yes_snoc]
        exact c.add hD _
    · refine ⟨D, List.replicate (es.length - 1) true, rfl, SqL.of c.lst, ?_⟩
      rw [yes_all]
      exact q H' c.same
/-! ### is_web, need_web -/
/-- a web that is told rising -/
structure WebIn (n : Nat) (es : List Tie) : Prop where
  ok : WebOk n es
  lex : es.Pairwise lexT
  nine : n ≤ 9
  few : es.length ≤ 1000
def spIsWeb : Sp := fun vs H Q _ => ∃ (a : Addr) (n : Nat) (es : List Tie), vs = [.ref a] ∧ WebAt H a n es ∧ WebIn n es ∧ ∀ H', Same H H' → Q (.bl true) H'
theorem ok_isWeb {f f1 f2 f3 : Addr} {fd fd1 fd2 fd3 : FuncData} (F : Fun K "is_web" "is_web" sIsWeb f fd) (T : Blt mg)
    (G1 : FnOk P w K mg base CX0 1 f1 fd1 ["thing", "least", "below"] spIsNumber) (g1 : mg "is_number" = some (.ref f1)) (k1 : PySem.W.keepIn K (.ref f1) = true) (b1 : Binds K fd1 ["thing", "least", "below"] [])
    (G2 : FnOk P w K mg base CX0 2 f2 fd2 ["many", "thing"] spIsPair) (g2 : mg "is_pair" = some (.ref f2)) (k2 : PySem.W.keepIn K (.ref f2) = true) (b2 : Binds K fd2 ["many", "thing"] [])
    (G3 : FnOk P w K mg base CX0 1 f3 fd3 ["row"] spRisesT) (g3 : mg "rises" = some (.ref f3)) (k3 : PySem.W.keepIn K (.ref f3) = true) (b3 : Binds K fd3 ["row"] []) :
    FnOk P w K mg base CX0 3 f fd ["thing"] spIsWeb := by
  refine F.ok scIsWeb (fun vs H Q E h => ?_) (fun cdv A outer s H vs Q E hr h => ?_)
  · obtain ⟨a, n, es, rfl, _⟩ := h
    rfl
  · obtain ⟨a, n, es, rfl, ⟨t, hA, as, ht, each⟩, W, q⟩ := h
    have nd := scIsWeb.nd
    have hr1 := hr.mono (by decide : 1 ≤ 2)
    obtain ⟨tm, hm⟩ := T.most
    refine ⟨_, pss_cons (ps_if (PW.pt (pw_or (pt_not (pt_val (pe_callB call_isi (by rfl) T.isinstance boot_isinstance (pa_cons (pv 0) (pa_cons (pe_bltn (v := .ty "tuple") (by rfl) T.tuple boot_tuple rfl) pa_nil)))))
        (pw_or (pt_cmpR op_ne (pe_callB call_len_seq (by rfl) T.len PySem.boot_len (pa_cons (pv 0) pa_nil)) pe_int (nomark _))
        (pw_or1 (pt_not (pt_val (pe_call G1 hr1 (by rfl) g1 k1 b1 .nil pass0 (pa_cons (pe_ix ix_tup (pv 0) pe_int (fun _ _ => rfl)) (pa_cons pe_int (pa_cons (pe_op op_add (pe_glob (v := .int 60) (by rfl) hm ⟨_, rfl⟩) pe_int) pa_nil))))))))))
        (pss_one (ps_ret pe_bl)) pss_nil)
      (pss_cons (ps_asg (pv 0) (pg_tup (by rfl) (pgs_cons (pg_name (i := 1) nd rfl (.inr rfl)) (pgs_cons (pg_name (i := 2) nd rfl (.inl rfl)) pgs_nil))))
      (pss_cons (ps_if (PW.pt (pw_or (pt_not (pt_val (pe_callB call_isi (by rfl) T.isinstance boot_isinstance (pa_cons (pv 2) (pa_cons (pe_bltn (v := .ty "tuple") (by rfl) T.tuple boot_tuple rfl) pa_nil)))))
          (pw_or1 (pt_not (pt_val (pe_callB (cr_all rfl) (by rfl) T.all boot_all (pa_cons
            (pe_lc (own := [("tie", 3)]) (g := gName 3) (tt := tYes) rfl nd (pi_tup (pv 2)) (blkOk_by (own := [("tie", 3)]) (N := ["thing", "many", "ties", "tie"]) (sc := defScope sIsWeb) (by decide +kernel))
              (fun _ _ _ _ _ => pg_name (i := 3) nd rfl (Or.inl rfl)) (fun _ _ _ _ _ => pts_nil)
              (fun _ _ _ _ _ => pe_and (pe_call G2 hr (by rfl) g2 k2 b2 .nil pass0 (pa_cons (pv 1) (pa_cons (pv 3) pa_nil))) (pe_one (pe_cmpR op_lt (pe_ix (ixT K) (pv 3) pe_int (fun _ _ => rfl)) (pe_ix (ixT K) (pv 3) pe_int (fun _ _ => rfl)) (nomark _))))) pa_nil)))))))
          (pss_one (ps_ret pe_bl)) pss_nil)
      (pss_one (ps_ret (pe_call G3 hr1 (by rfl) g3 k3 b3 .nil pass0 (pa_cons (pv 2) pa_nil)))))), ?_⟩
    have hS : SqT K H a [.int n, .ref t] := SqT.of hA
    have hT : SqT K H t (refs as) := SqT.of ht
    refine ⟨_, rfl, _, _, _, _, _, rfl, .ty _, .base (.tup hA), kit_ty (r := true) (by decide +kernel), true, rfl, iteF ?_⟩
    refine ⟨_, rfl, _, _, rfl, .inr hS, rfl, _, rfl, iteF ?_⟩
    refine ⟨_, rfl, _, _, _, _, rfl, rfl, hS, atI_nat (j := 0) rfl, _, _, rfl, rfl, _, _, _, rfl, true, ?_, iteF ?_⟩
    · have h9 := W.nine
      rw [decide_eq_true (by omega)]
    refine ⟨_, rfl, a, _, rfl, hS, rfl, _, _, rfl, _, _, rfl, rfl, ?_⟩
    refine ⟨_, rfl, _, _, _, _, _, rfl, .ty _, .base (.tup ht), kit_ty (r := true) (by decide +kernel), true, rfl, iteF ?_⟩
    refine ⟨_, rfl, t, rfl, ⟨_, hT⟩, fun D hD => ?_⟩
    refine lc_tup (K := K) (a := t) (xs := refs as) (fun i H' => Lc H D (yes i) H') (Lc.start hD) (fun i H' _ c => SqT.of (c.same _ _ ht)) (fun i x H' hx c => ?_) (fun H' c => ?_)
    · obtain ⟨b, hb, rfl⟩ := refs_at hx
      obtain ⟨e, he, hbe⟩ := each.got hb
      have bd := W.ok.bd e (List.mem_of_getElem? he)
      have hbe' := c.same _ _ hbe
      have hE : SqT K H' b [.int e.1, .int e.2] := SqT.of hbe'
      refine ⟨rfl, tyes ?_⟩
      refine ⟨_, rfl, _, rfl, n, b, e, rfl, hbe', by omega, by omega, true, rfl, iteT ?_⟩
      refine ⟨_, rfl, _, _, _, _, rfl, rfl, hE, atI_nat (j := 0) rfl, _, rfl, _, _, _, _, rfl, rfl, hE, atI_nat (j := 1) rfl, _, _, rfl, rfl, yes i, c.lst, ?_, ?_⟩
      · rw [yes_len]
        have := (List.getElem?_eq_some_iff.mp he).1
        have := W.few
        exact small1000 (by omega)
      · dsimp only
        rw [decide_eq_true bd.2.1, ← yes_snoc]
        exact c.add hD _
    · refine ⟨D, List.replicate (refs as).length true, rfl, SqL.of c.lst, true, by rw [yes_all], iteF ?_⟩
      refine ⟨_, rfl, t, es, rfl, ⟨as, c.same _ _ ht, each.same c.same⟩, W.lex, W.few, fun H2 s2 => ?_⟩
      exact q H2 (c.same.trans s2)
def spNeedWeb : Sp := fun vs H Q _ => ∃ (a : Addr) (n : Nat) (es : List Tie), vs = [.ref a] ∧ WebAt H a n es ∧ WebIn n es ∧ ∀ H', Same H H' → Q .non H'
theorem ok_needWeb {f f1 : Addr} {fd fd1 : FuncData} (F : Fun K "need_web" "need_web" sNeedWeb f fd)
    (G1 : FnOk P w K mg base CX0 3 f1 fd1 ["thing"] spIsWeb) (g1 : mg "is_web" = some (.ref f1)) (k1 : PySem.W.keepIn K (.ref f1) = true) (b1 : Binds K fd1 ["thing"] []) : FnOk P w K mg base CX0 4 f fd ["thing"] spNeedWeb := by
  refine F.ok scNeedWeb (fun vs H Q E h => ?_) (fun cdv A outer s H vs Q E hr h => ?_)
  · obtain ⟨a, n, es, rfl, _⟩ := h
    rfl
  · obtain ⟨a, n, es, rfl, hA, W, q⟩ := h
    refine ⟨_, pss_one (ps_if (pt_not (pt_val (pe_call G1 hr (by rfl) g1 k1 b1 .nil pass0 (pa_cons (pv 0) pa_nil)))) (pss_one ps_never) pss_nil), ?_⟩
    exact ⟨_, rfl, a, n, es, rfl, hA, W, fun H' s' => ⟨true, rfl, iteF (q H' s')⟩⟩
/-! ### is_places, need_places -/
structure PlacesIn (n : Nat) (xs : List Int) : Prop where
  lt : xs.Pairwise (· < ·)
  bd : ∀ x ∈ xs, 0 ≤ x ∧ x < n
theorem PlacesIn.nd {n : Nat} {xs : List Int} (p : PlacesIn n xs) : xs.Nodup := nodup_of_lt p.lt
theorem PlacesIn.len {n : Nat} {xs : List Int} (p : PlacesIn n xs) : xs.length ≤ n := length_le_n p.nd p.bd
def spIsPlaces : Sp := fun vs H Q _ => ∃ (a b t : Addr) (n : Nat) (xs : List Int), vs = [.ref a, .ref b] ∧ H a = some (.tup [.int n, .ref t]) ∧ H b = some (TupO xs) ∧ PlacesIn n xs ∧ n ≤ 60 ∧ ∀ H', Same H H' → Q (.bl true) H'
theorem ok_isPlaces {f f1 f3 : Addr} {fd fd1 fd3 : FuncData} (F : Fun K "is_places" "is_places" sIsPlaces f fd) (T : Blt mg)
    (G1 : FnOk P w K mg base CX0 1 f1 fd1 ["thing", "least", "below"] spIsNumber) (g1 : mg "is_number" = some (.ref f1)) (k1 : PySem.W.keepIn K (.ref f1) = true) (b1 : Binds K fd1 ["thing", "least", "below"] [])
    (G3 : FnOk P w K mg base CX0 1 f3 fd3 ["row"] (spRisesI K)) (g3 : mg "rises" = some (.ref f3)) (k3 : PySem.W.keepIn K (.ref f3) = true) (b3 : Binds K fd3 ["row"] []) :
    FnOk P w K mg base CX0 2 f fd ["web", "thing"] spIsPlaces := by
  refine F.ok scIsPlaces (fun vs H Q E h => ?_) (fun cdv A outer s H vs Q E hr h => ?_)
  · obtain ⟨a, b, t, n, xs, rfl, _⟩ := h
    rfl
  · obtain ⟨a, b, t, n, xs, rfl, hA, hB, W, h60, q⟩ := h
    have nd := scIsPlaces.nd
    refine ⟨_, pss_cons (ps_if (PW.pt (pw_or (pt_not (pt_val (pe_callB call_isi (by rfl) T.isinstance boot_isinstance (pa_cons (pv 1) (pa_cons (pe_bltn (v := .ty "tuple") (by rfl) T.tuple boot_tuple rfl) pa_nil)))))
          (pw_or1 (pt_not (pt_val (pe_callB (cr_all rfl) (by rfl) T.all boot_all (pa_cons
            (pe_lc (own := [("one", 2)]) (g := gName 2) (tt := tYes) rfl nd (pi_tup (pv 1)) (blkOk_by (own := [("one", 2)]) (N := ["web", "thing", "one"]) (sc := defScope sIsPlaces) (by decide +kernel))
              (fun _ _ _ _ _ => pg_name (i := 2) nd rfl (Or.inl rfl)) (fun _ _ _ _ _ => pts_nil)
              (fun _ _ _ _ _ => pe_call G1 hr (by rfl) g1 k1 b1 .nil pass0 (pa_cons (pv 2) (pa_cons pe_int (pa_cons (pe_ix (ixT K) (pv 0) pe_int (fun _ _ => rfl)) pa_nil))))) pa_nil)))))))
          (pss_one (ps_ret pe_bl)) pss_nil)
      (pss_one (ps_ret (pe_call G3 hr (by rfl) g3 k3 b3 .nil pass0 (pa_cons (pv 1) pa_nil)))), ?_⟩
    have hT : SqT K H b (xs.map V.int) := SqT.of hB
    have hl := W.len
    refine ⟨_, rfl, _, _, _, _, _, rfl, .ty _, .base (.tup hB), kit_ty (r := true) (by decide +kernel), true, rfl, iteF ?_⟩
    refine ⟨_, rfl, b, rfl, ⟨_, hT⟩, fun D hD => ?_⟩
    refine lc_tup (K := K) (a := b) (xs := xs.map V.int) (fun i H' => Lc H D (yes i) H') (Lc.start hD) (fun i H' _ c => SqT.of (c.same _ _ hB)) (fun i x H' hx c => ?_) (fun H' c => ?_)
    · obtain ⟨z, hz, rfl⟩ := ints_at hx
      have bd := W.bd z (List.mem_of_getElem? hz)
      refine ⟨rfl, tyes ?_⟩
      refine ⟨_, rfl, _, rfl, _, _, _, _, rfl, rfl, SqT.of (c.same _ _ hA), atI_nat (j := 0) rfl, _, _, _, rfl, yes i, c.lst, ?_, ?_⟩
      · rw [yes_len]
        have := (List.getElem?_eq_some_iff.mp hz).1
        exact small1000 (by omega)
      · rw [decide_eq_true bd, ← yes_snoc]
        exact c.add hD _
    · refine ⟨D, List.replicate (xs.map V.int).length true, rfl, SqL.of c.lst, true, by rw [yes_all], iteF ?_⟩
      exact ⟨_, rfl, b, xs, rfl, c.same _ _ hB, W.lt, by omega, fun H2 s2 => q H2 (c.same.trans s2)⟩
def spNeedPlaces : Sp := fun vs H Q _ => ∃ (a b t : Addr) (n : Nat) (xs : List Int), vs = [.ref a, .ref b] ∧ H a = some (.tup [.int n, .ref t]) ∧ H b = some (TupO xs) ∧ PlacesIn n xs ∧ n ≤ 60 ∧ ∀ H', Same H H' → Q .non H'
theorem ok_needPlaces {f f1 : Addr} {fd fd1 : FuncData} (F : Fun K "need_places" "need_places" sNeedPlaces f fd)
    (G1 : FnOk P w K mg base CX0 2 f1 fd1 ["web", "thing"] spIsPlaces) (g1 : mg "is_places" = some (.ref f1)) (k1 : PySem.W.keepIn K (.ref f1) = true) (b1 : Binds K fd1 ["web", "thing"] []) : FnOk P w K mg base CX0 3 f fd ["web", "thing"] spNeedPlaces := by
  refine F.ok scNeedPlaces (fun vs H Q E h => ?_) (fun cdv A outer s H vs Q E hr h => ?_)
  · obtain ⟨a, b, t, n, xs, rfl, _⟩ := h
    rfl
  · obtain ⟨a, b, t, n, xs, rfl, hA, hB, W, h60, q⟩ := h
    refine ⟨_, pss_one (ps_if (pt_not (pt_val (pe_call G1 hr (by rfl) g1 k1 b1 .nil pass0 (pa_cons (pv 0) (pa_cons (pv 1) pa_nil))))) (pss_one ps_never) pss_nil), ?_⟩
    exact ⟨_, rfl, _, rfl, a, b, t, n, xs, rfl, hA, hB, W, h60, fun H' s' => ⟨true, rfl, iteF (q H' s')⟩⟩
end
end FwW

set_option Elab.async false
set_option linter.all false
set_option maxRecDepth 100000
set_option maxHeartbeats 4000000
namespace FwW
open PySem PySem.Spec PyProof.Rows L2 Fw FwX
/-! ### rows that are written -/
theorem Each.set {α : Type} {f : α → HO} {H : Hp} {as : List Addr} {xs : List α} (e : Each f H as xs) (nd : as.Nodup) {i : Nat} {a : Addr} (h : as[i]? = some a) (x : α) : Each f (upd H a (f x)) as (xs.set i x) := by
  refine ⟨by simp [e.len], fun j b y h1 h2 => ?_⟩
  by_cases hj : i = j
  · subst hj
    rw [h] at h1
    cases h1
    have hi : i < xs.length := by
      rw [← e.len]
      exact (List.getElem?_eq_some_iff.mp h).1
    rw [List.getElem?_set_self hi] at h2
    cases h2
    exact upd_same
  · rw [List.getElem?_set_ne hj] at h2
    have ne : b ≠ a := fun q => hj (nd_ix nd h (q ▸ h1))
    rw [upd_ne ne]
    exact e.at_ j b y h1 h2
theorem Each.put {α : Type} {f : α → HO} {H : Hp} {as : List Addr} {xs : List α} (e : Each f H as xs) {a : Addr} (h : a ∉ as) (o : HO) : Each f (upd H a o) as xs :=
  ⟨e.len, fun i b x h1 h2 => by
    have ne : b ≠ a := fun q => h (q ▸ List.mem_of_getElem? h1)
    rw [upd_ne ne]
    exact e.at_ i b x h1 h2⟩
theorem Each.add {α : Type} {f : α → HO} {H : Hp} {as : List Addr} {xs : List α} (e : Each f H as xs) {a : Addr} (h : H a = none) (o : HO) : Each f (upd H a o) as xs := e.same (same_new h o)
/-- a list that grows, by new things -/
structure Gr {α : Type} (f : α → HO) (H1 : Hp) (D : Addr) (as : List Addr) (xs : List α) (H : Hp) : Prop where
  lc : Lc H1 D (refs as) H
  each : Each f H as xs
  nd : as.Nodup
  new : ∀ a ∈ as, H1 a = none
  out : D ∉ as
theorem Gr.start {α : Type} {f : α → HO} {H1 : Hp} {D : Addr} (h : H1 D = none) : Gr f H1 D [] [] (upd H1 D (.lst [])) := ⟨Lc.start h, Each.nil, List.nodup_nil, fun _ h => (List.not_mem_nil h).elim, List.not_mem_nil⟩
theorem refs_snoc (as : List Addr) (a : Addr) : refs as ++ [.ref a] = refs (as ++ [a]) := by
  unfold refs
  rw [List.map_append]
  rfl
theorem Gr.add {α : Type} {f : α → HO} {H1 H : Hp} {D : Addr} {as : List Addr} {xs : List α} (g : Gr f H1 D as xs H) (h : H1 D = none) {a : Addr} (ha : H a = none) (x : α) :
    Gr f H1 D (as ++ [a]) (xs ++ [x]) (upd (upd H a (f x)) D (.lst (refs (as ++ [a])))) := by
  have ne : a ≠ D := fun q => by
    rw [q, g.lc.lst] at ha
    cases ha
  have nas : a ∉ as := fun q => by
    obtain ⟨i, hi⟩ := List.getElem?_of_mem q
    obtain ⟨y, _, hy⟩ := g.each.got hi
    rw [hy] at ha
    cases ha
  have lc := (g.lc.more (same_new ha (f x))).add h (.ref a)
  rw [refs_snoc] at lc
  have e1 := (g.each.add ha (f x)).snoc (a := a) (x := x) upd_same
  have out : D ∉ as ++ [a] := fun q => by
    rcases List.mem_append.mp q with q | q
    · exact g.out q
    · rw [List.mem_singleton] at q
      exact ne q.symm
  refine ⟨lc, e1.put out _, ?_, fun b hb => ?_, out⟩
  · rw [List.nodup_append]
    refine ⟨g.nd, by simp, fun b hb c hc e => ?_⟩
    rw [List.mem_singleton] at hc
    subst e
    subst hc
    exact nas hb
  · rcases List.mem_append.mp hb with hb | hb
    · exact g.new b hb
    · rw [List.mem_singleton] at hb
      subst hb
      exact g.lc.same.free ha
section
variable {P : Program} {w : World} {K : PySem.W.Frag} {mg : Str → Option Value} {base : Heap}
/-! ### near -/
/-- what near asks of a web -/
structure WebLo (n : Nat) (es : List Tie) : Prop where
  ok : WebOk n es
  nine : n ≤ 9
  few : es.length ≤ 1000
theorem WebIn.lo {n : Nat} {es : List Tie} (w : WebIn n es) : WebLo n es := ⟨w.ok, w.nine, w.few⟩
def spNear : Sp := fun vs H Q _ => ∃ (a : Addr) (n : Nat) (es : List Tie), vs = [.ref a] ∧ WebAt H a n es ∧ WebLo n es ∧ ∀ H' b xss, Same H H' → LstOf RowO H' b xss → NearOk n es xss → Q (.ref b) H'
/-- near's second part: the state in its loop -/
structure NearSt (n : Nat) (es : List Tie) (H : Hp) (D : Addr) (as : List Addr) (i : Nat) (xss : List (List Int)) (H' : Hp) : Prop where
  to : NearTo n es i xss
  each : Each RowO H' as xss
  same : Same H H'
  lst : H' D = some (.lst (refs as))
theorem NearSt.step {n : Nat} {es : List Tie} {H : Hp} {D : Addr} {as : List Addr} {i : Nat} {xss : List (List Int)} {H' : Hp} (S : NearSt n es H D as i xss H') (W : WebOk n es) (nd : as.Nodup) (new : ∀ a ∈ as, H a = none) (out : D ∉ as) {e : Tie} (he : es[i]? = some e) :
    ∃ a b ra rb, as[e.1.toNat]? = some a ∧ as[e.2.toNat]? = some b ∧ H' a = some (RowO ra) ∧ H' b = some (RowO rb) ∧ a ≠ b ∧ D ≠ a ∧ D ≠ b ∧ ra.length ≤ n ∧ rb.length ≤ n ∧
      NearSt n es H D as (i + 1) ((xss.set e.1.toNat (ra ++ [e.2])).set e.2.toNat (rb ++ [e.1])) (upd (upd H' a (RowO (ra ++ [e.2]))) b (RowO (rb ++ [e.1]))) := by
  have bd := W.bd e (List.mem_of_getElem? he)
  have l := S.to.len
  have l1 : e.1.toNat < xss.length := by omega
  have l2 : e.2.toNat < xss.length := by omega
  obtain ⟨a, ha, hra⟩ := S.each.get (List.getElem?_eq_getElem l1)
  obtain ⟨b, hb, hrb⟩ := S.each.get (List.getElem?_eq_getElem l2)
  have ne : a ≠ b := fun q => by
    have := nd_ix nd ha (q ▸ hb)
    omega
  have rl : ∀ (k : Nat) row, xss[k]? = some row → row.length ≤ n := fun k row hk => by
    refine length_le_n (S.to.nd row (List.mem_of_getElem? hk)) fun y hy => ?_
    have q := (S.to.mem k row hk y).mp hy
    have q2 : Adj es (k : Int) y := q.imp List.mem_of_mem_take List.mem_of_mem_take
    exact (W.adj q2).2.1
  refine ⟨a, b, xss[e.1.toNat], xss[e.2.toNat], ha, hb, hra, hrb, ne, fun (q : D = a) => out (q ▸ List.mem_of_getElem? ha), fun (q : D = b) => out (q ▸ List.mem_of_getElem? hb), rl _ _ (List.getElem?_eq_getElem l1), rl _ _ (List.getElem?_eq_getElem l2), ?_⟩
  refine ⟨S.to.step W (a := e.1) (b := e.2) he (List.getElem?_eq_getElem l1) (List.getElem?_eq_getElem l2), (S.each.set nd ha _).set nd hb _, fun c o hc => ?_, ?_⟩
  · rw [upd_ne (ne_of_none hc (new b (List.mem_of_getElem? hb))), upd_ne (ne_of_none hc (new a (List.mem_of_getElem? ha)))]
    exact S.same c o hc
  · rw [upd_ne (fun (q : D = b) => out (q ▸ List.mem_of_getElem? hb)), upd_ne (fun (q : D = a) => out (q ▸ List.mem_of_getElem? ha))]
    exact S.lst
theorem ok_near {f : Addr} {fd : FuncData} (F : Fun K "near" "near" sNear f fd) (T : Blt mg) : FnOk P w K mg base CX0 1 f fd ["web"] spNear := by
  refine F.ok scNear (fun vs H Q E h => ?_) (fun cdv A outer s H vs Q E hr h => ?_)
  · obtain ⟨a, n, es, rfl, _⟩ := h
    rfl
  · obtain ⟨a, n, es, rfl, ⟨t, hA, ts, ht, each⟩, W, q⟩ := h
    have nd := scNear.nd
    have h9 := W.nine
    refine ⟨_, pss_cons (ps_setLc (i := 1) (own := [("place", 2)]) (g := gName 2) (tt := tYes) rfl nd rfl rfl (sw_true rfl rfl rfl (by decide +kernel)) (pi_range1 (by rfl) T.range (pa_cons (pe_ix ix_tup (pv 0) pe_int (fun _ _ => rfl)) pa_nil))
        (blkOk_by (own := [("place", 2)]) (N := ["web", "found", "place", "one", "other", "some"]) (sc := defScope sNear) (by decide +kernel)) (fun _ _ _ _ _ => pg_name (i := 2) nd rfl (Or.inl rfl)) (fun _ _ _ _ _ => pts_nil) (fun _ _ _ _ _ => pe_lst pa_nil))
      (pss_cons (ps_for PassesOwn.never rfl (pi_tup (pe_ix ix_tup (pv 0) pe_int (fun _ _ => rfl))) (pg_tup (by rfl) (pgs_cons (pg_name (i := 3) nd rfl (.inl rfl)) (pgs_cons (pg_name (i := 4) nd rfl (.inl rfl)) pgs_nil)))
        (pss_cons (ps_expr (pe_bm PySem.F.plainAttrs_list PySem.F.slot_list_append PySem.F.type_list_append mt_append (pe_ix ix_list (pv 1) (pv 3) (fun _ _ => rfl)) (pa_cons (pv 4) pa_nil)))
        (pss_one (ps_expr (pe_bm PySem.F.plainAttrs_list PySem.F.slot_list_append PySem.F.type_list_append mt_append (pe_ix ix_list (pv 1) (pv 4) (fun _ _ => rfl)) (pa_cons (pv 3) pa_nil))))))
      (pss_one (ps_ret (pe_lc (own := [("some", 5)]) (g := gName 5) (tt := tYes) rfl nd (pi_list (pv 1)) (blkOk_by (own := [("some", 5)]) (N := ["web", "found", "place", "one", "other", "some"]) (sc := defScope sNear) (by decide +kernel))
        (fun _ _ _ _ _ => pg_name (i := 5) nd rfl (Or.inl rfl)) (fun _ _ _ _ _ => pts_nil) (fun _ _ _ _ _ => pe_callB (sortedI K) (by rfl) T.sorted boot_sorted (pa_cons (pv 5) pa_nil)))))), ?_⟩
    have hS : SqT K H a [.int n, .ref t] := SqT.of hA
    refine ⟨_, rfl, _, _, _, _, rfl, rfl, hS, atI_nat (j := 0) rfl, _, rfl, by omega, by omega, fun D hD => ?_⟩
    refine lc_range (lo := 0) (n := ((n : Int)).toNat) (fun i H' => ∃ as, Gr RowO H D as ((List.range i).map fun _ => ([] : List Int)) H') ⟨[], Gr.start hD⟩ (fun i H' hi ⟨as, g⟩ => ?_) (fun H1 ⟨as, g⟩ => ?_)
    · refine ⟨rfl, tyes ⟨Nat.zero_le _, fun p hp => ?_⟩⟩
      have ne : D ≠ p := ne_of_none g.lc.lst hp
      refine ⟨refs as, by rw [upd_ne ne]; exact g.lc.lst, ?_, as ++ [p], ?_⟩
      · have := g.each.len
        rw [List.length_map, List.length_range] at this
        rw [refs_len]
        exact small1000 (by omega)
      · have z := g.add hD hp []
        rw [refs_snoc, List.range_succ, List.map_append]
        exact z
    rw [Int.toNat_natCast] at g
    have hA1 := g.lc.same _ _ hA
    refine ⟨_, rfl, _, _, _, _, rfl, rfl, SqT.of hA1, atI_nat (j := 1) rfl, t, rfl, ⟨_, SqT.of (g.lc.same _ _ ht)⟩, ?_⟩
    refine for_tup (K := K) (a := t) (xs := refs ts) (fun i σ H' => ∃ xss y3 y4, σ = [some (.ref a), some (.ref D), none, y3, y4, none] ∧ NearSt n es H D as i xss H')
      ⟨_, none, none, rfl, NearTo.zero n es, g.each, g.lc.same, g.lc.lst⟩ (fun i σ H' _ ⟨_, _, _, _, S⟩ => SqT.of (S.same _ _ ht)) ?_ ?_
    · rintro i x σ H' hx ⟨xss, y3, y4, rfl, S⟩
      obtain ⟨c, hc, rfl⟩ := refs_at hx
      obtain ⟨e, he, hce⟩ := each.got hc
      obtain ⟨ra, rb, xa, xb, h1, h2, h3, h4, h5, h6, h7, h8, h9', S'⟩ := S.step W.ok g.nd g.new g.out he
      have bd := W.ok.bd e (List.mem_of_getElem? he)
      refine ⟨c, _, rfl, SqT.of (S.same _ _ hce), rfl, _, _, rfl, _, _, rfl, rfl, ?_⟩
      refine ⟨_, rfl, _, rfl, _, _, _, _, rfl, rfl, SqL.of S.lst, at_of (j := e.1.toNat) (by omega) (refs_get h1), .inl ⟨rfl, _, SqL.of h3⟩, _, rfl, ra, _, _, rfl, rfl, h3, ?_, ?_⟩
      · rw [List.length_map]
        exact small1000 (by omega)
      have e1 : upd H' ra (.lst (xa.map V.int ++ [.int e.2])) = upd H' ra (RowO (xa ++ [e.2])) := by
        unfold RowO
        rw [List.map_append]
        rfl
      rw [e1]
      have h4' : (upd H' ra (RowO (xa ++ [e.2]))) rb = some (RowO xb) := by
        rw [upd_ne h5.symm]
        exact h4
      refine ⟨_, rfl, _, rfl, _, _, _, _, rfl, rfl, SqL.of (by rw [upd_ne h6]; exact S.lst), at_of (j := e.2.toNat) (by omega) (refs_get h2), .inl ⟨rfl, _, SqL.of h4'⟩, _, rfl, rb, _, _, rfl, rfl, h4', ?_, ?_⟩
      · rw [List.length_map]
        exact small1000 (by omega)
      refine ⟨(xss.set e.1.toNat (xa ++ [e.2])).set e.2.toNat (xb ++ [e.1]), some (.int e.1), some (.int e.2), rfl, ?_⟩
      have e2 : ∀ G : Hp, upd G rb (.lst (xb.map V.int ++ [.int e.1])) = upd G rb (RowO (xb ++ [e.1])) := fun G => by
        unfold RowO
        rw [List.map_append]
        rfl
      rw [e2]
      exact S'
    · rintro σ H2 ⟨xss, y3, y4, rfl, S⟩
      rw [refs_len, each.len] at S
      refine ⟨_, rfl, D, rfl, ⟨_, SqL.of S.lst⟩, fun D2 hD2 => ?_⟩
      refine lc_list (K := K) (a := D) (xs := refs as) (fun i H' => ∃ bs yss, Gr RowO H2 D2 bs yss H' ∧ yss.length = i ∧ ∀ (j : Nat) x y, xss[j]? = some x → yss[j]? = some y → y.Perm x ∧ y.Pairwise (· ≤ ·)) ⟨[], [], Gr.start hD2, rfl, fun j x y _ h => by simp at h⟩
        (fun i H' _ ⟨_, _, g2, _⟩ => SqL.of (g2.lc.same _ _ S.lst)) ?_ ?_
      · rintro i x H' hx ⟨bs, yss, g2, hl, hp⟩
        obtain ⟨c, hc, rfl⟩ := refs_at hx
        obtain ⟨row, hrow, hcr⟩ := S.each.got hc
        refine ⟨rfl, tyes ?_⟩
        refine ⟨_, rfl, c, row, rfl, SqL.of (g2.lc.same _ _ hcr), fun ns p perm rise hp' => ?_⟩
        have ne : D2 ≠ p := ne_of_none g2.lc.lst hp'
        refine ⟨refs bs, by rw [upd_ne ne]; exact g2.lc.lst, ?_, bs ++ [p], yss ++ [ns], ?_, by simp [hl], fun j x2 y2 hx2 hy => ?_⟩
        · have := g2.each.len
          have := (List.getElem?_eq_some_iff.mp hrow).1
          have := S.to.len
          rw [refs_len]
          exact small1000 (by omega)
        · rw [refs_snoc]
          exact g2.add hD2 hp' ns
        · by_cases hj : j < yss.length
          · rw [List.getElem?_append_left hj] at hy
            exact hp j x2 y2 hx2 hy
          · rw [List.getElem?_append_right (by omega)] at hy
            have hz : j - yss.length = 0 := by
              have := (List.getElem?_eq_some_iff.mp hy).1
              simp at this
              omega
            rw [hz] at hy
            simp at hy
            subst hy
            have ej : j = i := by omega
            subst ej
            rw [hrow] at hx2
            cases hx2
            exact ⟨perm, rise⟩
      · rintro H3 ⟨bs, yss, g2, hl, hp⟩
        have l := S.each.len
        rw [refs_len] at hl
        have hn : yss.length = n := by rw [hl, l, S.to.len]
        exact q H3 D2 yss (S.same.trans g2.lc.same) ⟨bs, g2.lc.lst, g2.each⟩ (S.to.sorted hn hp)
end
end FwW

set_option Elab.async false
set_option linter.all false
set_option maxRecDepth 100000
set_option maxHeartbeats 4000000
namespace FwW
open PySem PySem.Spec PyProof.Rows L2 Fw FwX
section
variable {P : Program} {w : World} {K : PySem.W.Frag} {mg : Str → Option Value} {base : Heap}
/-! ### come_to -/
/-- rows of numbers below n, none twice in a row -/
structure RowsOk (n : Nat) (xss : List (List Int)) : Prop where
  sy : Symm n xss
  nd : ∀ row ∈ xss, row.Nodup
  nine : n ≤ 9
theorem NearOk.rows {n : Nat} {es : List Tie} {xss : List (List Int)} (N : NearOk n es xss) (W : WebLo n es) : RowsOk n xss := ⟨N.symm W.ok, N.nd, W.nine⟩
def spComeTo : Sp := fun vs H Q _ => ∃ (b : Addr) (p : Int) (n : Nat) (xss : List (List Int)), vs = [.ref b, .int p] ∧ LstOf RowO H b xss ∧ RowsOk n xss ∧ (0 ≤ p ∧ p < n) ∧ ∀ H' r c, Same H H' → H' r = some (RowO c) → Part n xss p c → Q (.ref r) H'
theorem ok_comeTo {f : Addr} {fd : FuncData} (F : Fun K "come_to" "come_to" sComeTo f fd) (T : Blt mg) : FnOk P w K mg base CX0 1 f fd ["beside", "place"] spComeTo := by
  refine F.ok scComeTo (fun vs H Q E h => ?_) (fun cdv A outer s H vs Q E hr h => ?_)
  · obtain ⟨b, p, n, xss, rfl, _⟩ := h
    rfl
  · obtain ⟨b, p, n, xss, rfl, ⟨as, hB, each⟩, R, hp, q⟩ := h
    have nd := scComeTo.nd
    have h9 := R.nine
    refine ⟨_, pss_cons (ps_set (i := 2) nd rfl (Or.inr rfl) (pe_lst (pa_cons (pv 1) pa_nil)))
      (pss_cons (ps_set (i := 3) nd rfl (Or.inl rfl) pe_int)
      (pss_cons (ps_while PassesOwn.never (pt_cmpR op_lt (pv 3) (pe_callB call_len_seq (by rfl) T.len PySem.boot_len (pa_cons (pv 2) pa_nil)) (nomark _))
        (pss_cons (ps_expr (pe_bm PySem.F.plainAttrs_list PySem.F.slot_list_extend PySem.F.type_list_extend mt_extend (pv 2) (pa_cons
          (pe_lc (own := [("other", 4)]) (g := gName 4) rfl nd (pi_list (pe_ix ix_list (pv 0) (pe_ix ix_list (pv 2) (pv 3) (fun _ _ => rfl)) (fun _ _ => rfl))) (blkOk_by (own := [("other", 4)]) (N := ["beside", "place", "found", "at", "other"]) (sc := defScope sComeTo) (by decide +kernel))
            (fun _ _ _ _ _ => pg_name (i := 4) nd rfl (Or.inl rfl)) (fun _ _ _ _ _ => pts_one (pt_cmpR (ninS K) (pv 4) (pv 2) (by rfl))) (fun _ _ _ _ _ => pv 4)) pa_nil)))
        (pss_one (ps_set (i := 3) nd rfl (Or.inl rfl) (pe_op op_add (pv 3) pe_int)))))
      (pss_one (ps_ret (pe_callB (sortedI K) (by rfl) T.sorted boot_sorted (pa_cons (pv 2) pa_nil)))))), ?_⟩
    refine ⟨_, rfl, by show 1 ≤ sizeLine; decide, fun D hD => ?_⟩
    refine ⟨fun m σ H' => ∃ k found y, m = n - k ∧ σ = [some (.ref b), some (.int p), some (.ref D), some (.int (k : Nat)), y] ∧ Same H H' ∧ H' D = some (RowO found) ∧ Found n xss p k found,
      ⟨n, 0, [p], none, rfl, rfl, same_new hD _, upd_same, Found.start hp⟩, fun m σ H' hW => ?_⟩
    obtain ⟨k, found, y, rfl, rfl, sm, hF, U⟩ := hW
    have hL : SqL K H' D (found.map V.int) := SqL.of hF
    have ul := U.len
    have hlen : (found.map V.int).length = found.length := List.length_map _
    refine ⟨_, rfl, _, rfl, D, _, rfl, .inl hL, _, _, rfl, rfl, _, rfl, ite2 (fun c => ?_) (fun c => ?_)⟩
    · have c := of_decide_eq_true c
      rw [hlen] at c
      have hk : k < found.length := by omega
      obtain ⟨x, hx⟩ : ∃ x, found[k]? = some x := ⟨_, List.getElem?_eq_getElem hk⟩
      have xb := U.bd x (List.mem_of_getElem? hx)
      have hxl : x.toNat < xss.length := by have := R.sy.1; omega
      obtain ⟨row, hrow⟩ : ∃ row, xss[x.toNat]? = some row := ⟨_, List.getElem?_eq_getElem hxl⟩
      obtain ⟨ra, hra, hrr⟩ := each.get hrow
      have rn := R.nd row (List.mem_of_getElem? hrow)
      have rb := R.sy.2.1 row (List.mem_of_getElem? hrow)
      have rl := length_le_n rn rb
      refine ⟨fun σ2 H2 => ∃ found2 y2, σ2 = [some (.ref b), some (.int p), some (.ref D), some (.int ((k : Nat) + 1 : Int)), y2] ∧ Same H H2 ∧ H2 D = some (RowO found2) ∧ Found n xss p (k + 1) found2, fun σ2 H2 hN => ?_, ?_⟩
      · obtain ⟨found2, y2, rfl, s2, e2, U2⟩ := hN
        have := U2.len
        have := U2.le
        exact ⟨n - (k + 1), by omega, k + 1, found2, y2, rfl, rfl, s2, e2, U2⟩
      refine ⟨_, rfl, .inl ⟨rfl, _, hL⟩, ?_⟩
      refine ⟨_, rfl, _, rfl, _, rfl, _, _, _, _, rfl, rfl, hL, atI_nat (ints_get hx), _, _, _, _, rfl, rfl, SqL.of (sm _ _ hB), at_of (j := x.toNat) (by omega) (refs_get hra), ra, rfl, ⟨_, SqL.of (sm _ _ hrr)⟩, fun D2 hD2 => ?_⟩
      have neD : D ≠ D2 := ne_of_none hF hD2
      refine lc_list (K := K) (a := ra) (xs := row.map V.int) (fun i G => Lc H' D2 (((row.take i).filter fun z => decide (z ∉ found)).map V.int) G) (Lc.start hD2) (fun i G _ c => SqL.of (c.same _ _ (sm _ _ hrr))) ?_ ?_
      · rintro i v G hv c
        obtain ⟨z, hz, rfl⟩ := ints_at hv
        refine ⟨rfl, _, rfl, _, rfl, D, _, rfl, .inl (SqL.of (c.same _ _ hF)), rfl, ints_flat _, _, rfl, ?_⟩
        rw [ints_any]
        have tk : row.take (i + 1) = row.take i ++ [z] := by rw [List.take_add_one, hz]; rfl
        rw [tk, List.filter_append, List.map_append]
        by_cases hm : z ∈ found
        · have e : ([z].filter fun z => decide (z ∉ found)) = [] := by simp [hm]
          rw [e, decide_eq_true hm]
          refine iteF ?_
          rw [List.map_nil, List.append_nil]
          exact c
        · have e : ([z].filter fun z => decide (z ∉ found)) = [z] := by simp [hm]
          rw [e, decide_eq_false hm]
          refine iteT ⟨_, rfl, _, c.lst, ?_, c.add hD2 _⟩
          rw [List.length_map]
          have l1 := List.length_filter_le (fun z => decide (z ∉ found)) (row.take i)
          have l2 := List.length_take_le i row
          have l3 : (row.take i).length ≤ row.length := by rw [List.length_take]; exact Nat.min_le_right _ _
          exact small1000 (by omega)
      · rintro G c
        have eT : row.take (row.map V.int).length = row := by rw [List.length_map, List.take_length]
        rw [eT] at c
        have U2 := U.step hx hrow rn rb
        have l2 := U2.len
        rw [List.length_append] at l2
        refine ⟨D, D2, _, _, rfl, rfl, c.same _ _ hF, c.lst, ?_, ?_⟩
        · rw [List.length_map, List.length_map]
          exact small9 (by omega)
        refine ⟨_, rfl, _, _, rfl, rfl, found ++ row.filter (fun z => decide (z ∉ found)), y, rfl, fun d o e => ?_, ?_, U2⟩
        · rw [upd_ne (ne_of_none e hD)]
          exact c.same _ _ (sm d o e)
        · rw [upd_same]
          unfold RowO
          rw [List.map_append]
    · have c : ¬ ((k : Int) < ((found.map V.int).length : Nat)) := of_decide_eq_false (Bool.eq_false_iff.mpr c)
      rw [hlen] at c
      have le := U.le
      have ek : k = found.length := by omega
      subst ek
      refine ⟨_, rfl, D, found, rfl, hL, fun ns r perm rise hr' => ?_⟩
      exact q _ r ns (sm.trans (same_new hr' _)) upd_same (U.part perm)
/-! ### parts_by -/
def spPartsBy : Sp := fun vs H Q _ => ∃ (b : Addr) (n : Nat) (xss : List (List Int)), vs = [.ref b] ∧ LstOf RowO H b xss ∧ RowsOk n xss ∧ ∀ H' r l m, Same H H' → H' r = some (.lst l) → l.length = m → PartsN n xss m → Q (.ref r) H'
theorem ok_partsBy {f f1 : Addr} {fd fd1 : FuncData} (F : Fun K "parts_by" "parts_by" sPartsBy f fd) (T : Blt mg)
    (G : FnOk P w K mg base CX0 1 f1 fd1 ["beside", "place"] spComeTo) (g1 : mg "come_to" = some (.ref f1)) (k1 : PySem.W.keepIn K (.ref f1) = true) (b1 : Binds K fd1 ["beside", "place"] []) :
    FnOk P w K mg base CX0 2 f fd ["beside"] spPartsBy := by
  refine F.ok scPartsBy (fun vs H Q E h => ?_) (fun cdv A outer s H vs Q E hr h => ?_)
  · obtain ⟨b, n, xss, rfl, _⟩ := h
    rfl
  · obtain ⟨b, n, xss, rfl, ⟨as, hB, each⟩, R, q⟩ := h
    have nd := scPartsBy.nd
    have h9 := R.nine
    refine ⟨_, pss_cons (ps_set (i := 1) nd rfl (Or.inl rfl) (pe_lst pa_nil))
      (pss_cons (ps_set (i := 2) nd rfl (Or.inl rfl) (pe_lst pa_nil))
      (pss_cons (ps_for PassesOwn.never rfl (pi_range1 (by rfl) T.range (pa_cons (pe_callB call_len_seq (by rfl) T.len PySem.boot_len (pa_cons (pv 0) pa_nil)) pa_nil)) (pg_name (i := 3) nd rfl (Or.inl rfl))
        (pss_one (ps_if (pt_cmpR op_notIn_seq (pv 3) (pv 2) (by rfl))
          (pss_cons (ps_expr (pe_bm PySem.F.plainAttrs_list PySem.F.slot_list_append PySem.F.type_list_append mt_append (pv 1) (pa_cons
            (pe_callTy call_tuple_of (by rfl) T.tuple boot_tuple (pa_cons (pe_call G hr (by rfl) g1 k1 b1 .nil pass0 (pa_cons (pv 0) (pa_cons (pv 3) pa_nil))) pa_nil)) pa_nil)))
          (pss_one (ps_expr (pe_bm PySem.F.plainAttrs_list PySem.F.slot_list_extend PySem.F.type_list_extend mt_extT (pv 2) (pa_cons (pe_ix ix_list (pv 1) (pe_un un_neg pe_int) (fun _ _ => rfl)) pa_nil)))))
          pss_nil)))
      (pss_one (ps_ret (pv 1))))), ?_⟩
    refine ⟨Nat.zero_le _, fun D hD => ⟨Nat.zero_le _, fun S hS => ?_⟩⟩
    have sD : Same H (upd H D (.lst [])) := same_new hD _
    have sS : Same H (upd (upd H D (.lst [])) S (.lst [])) := sD.trans (same_new hS _)
    have neDS : D ≠ S := ne_of_none upd_same hS
    have hS0 : H S = none := sD.free hS
    have hlen : (refs as).length = n := by rw [refs_len, each.len, R.sy.1]
    refine ⟨_, rfl, _, _, rfl, .inl (SqL.of (sS _ _ hB)), _, rfl, by omega, by omega, ?_⟩
    rw [hlen, Int.toNat_natCast]
    refine for_range (lo := 0) (n := n) (fun i σ H' => ∃ l ps seen y, σ = [some (.ref b), some (.ref D), some (.ref S), y] ∧ Same H H' ∧ H' D = some (.lst l) ∧ H' S = some (RowO seen) ∧ l.length = ps.length ∧ PartsTo n xss i ps seen)
      ⟨[], [], [], none, rfl, sS, by rw [upd_ne neDS]; exact upd_same, upd_same, rfl, PartsTo.zero n xss⟩ ?_ ?_
    · rintro i σ H' hi ⟨l, ps, seen, y, rfl, sm, hD', hS', hl, PT⟩
      refine ⟨_, rfl, _, rfl, S, _, rfl, .inl (SqL.of hS'), rfl, ints_flat _, _, rfl, ?_⟩
      rw [ints_any]
      have ei : (0 + (i : Int)) = (i : Int) := by omega
      rw [ei]
      by_cases hm : (i : Int) ∈ seen
      · rw [decide_eq_true hm]
        exact iteF ⟨l, ps, seen, _, rfl, sm, hD', hS', hl, PT.skip hm⟩
      · rw [decide_eq_false hm]
        refine iteT ?_
        refine ⟨_, rfl, .inl ⟨rfl, _, SqL.of hD'⟩, _, rfl, _, rfl, b, i, n, xss, rfl, ⟨as, sm _ _ hB, each.same sm⟩, R, by omega, fun H2 r c s2 hr2 C => ?_⟩
        refine ⟨r, _, rfl, .inl ⟨SqL.of hr2, fun p hp => ?_⟩⟩
        have s3 : Same H' (upd H2 p (.tup (c.map V.int))) := s2.trans (same_new hp _)
        have neDp : D ≠ p := ne_of_none (s2 _ _ hD') hp
        have neSp : S ≠ p := ne_of_none (s2 _ _ hS') hp
        have le := PT.le
        refine ⟨D, l, _, rfl, rfl, s3 _ _ hD', small1000 (by omega), ?_⟩
        have PT2 := PT.step R.sy hi hm C
        have sl := length_le_n PT2.nd PT2.bd
        rw [List.length_append] at sl
        refine ⟨_, rfl, .inl ⟨rfl, _, SqL.of (by rw [upd_ne neDS.symm]; exact s3 _ _ hS')⟩, _, rfl, _, rfl, _, _, _, _, rfl, rfl, SqL.of upd_same, atI_last l (.ref p), S, p, _, _, rfl, rfl, (by rw [upd_ne neDS.symm]; exact s3 _ _ hS'), SqT.of (by rw [upd_ne neDp.symm]; exact upd_same), ?_, ?_⟩
        · rw [List.length_map, List.length_map]
          exact small9 (by omega)
        refine ⟨l ++ [.ref p], ps ++ [c], seen ++ c, _, rfl, fun d o e => ?_, ?_, ?_, by simp [hl], PT2⟩
        · rw [upd_ne (ne_of_none e hS0), upd_ne (ne_of_none e hD)]
          exact s3 _ _ (sm d o e)
        · rw [upd_ne neDS]
          exact upd_same
        · rw [upd_same]
          unfold RowO
          rw [List.map_append]
    · rintro σ H' ⟨l, ps, seen, y, rfl, sm, hD', hS', hl, PT⟩
      exact ⟨_, rfl, q H' D l ps.length sm hD' hl ⟨ps, seen, PT, rfl⟩⟩
/-! ### parts -/
def spParts : Sp := fun vs H Q _ => ∃ (a : Addr) (n : Nat) (es : List Tie), vs = [.ref a] ∧ WebAt H a n es ∧ WebIn n es ∧ ∀ H' r l, Same H H' → H' r = some (.lst l) → (l.length : Int) = sh n es [] → Q (.ref r) H'
theorem ok_parts {f f1 f2 f3 : Addr} {fd fd1 fd2 fd3 : FuncData} (F : Fun K "parts" "parts" sParts f fd)
    (G1 : FnOk P w K mg base CX0 4 f1 fd1 ["thing"] spNeedWeb) (g1 : mg "need_web" = some (.ref f1)) (k1 : PySem.W.keepIn K (.ref f1) = true) (b1 : Binds K fd1 ["thing"] [])
    (G2 : FnOk P w K mg base CX0 1 f2 fd2 ["web"] spNear) (g2 : mg "near" = some (.ref f2)) (k2 : PySem.W.keepIn K (.ref f2) = true) (b2 : Binds K fd2 ["web"] [])
    (G3 : FnOk P w K mg base CX0 2 f3 fd3 ["beside"] spPartsBy) (g3 : mg "parts_by" = some (.ref f3)) (k3 : PySem.W.keepIn K (.ref f3) = true) (b3 : Binds K fd3 ["beside"] []) :
    FnOk P w K mg base CX0 5 f fd ["web"] spParts := by
  refine F.ok scParts (fun vs H Q E h => ?_) (fun cdv A outer s H vs Q E hr h => ?_)
  · obtain ⟨a, n, es, rfl, _⟩ := h
    rfl
  · obtain ⟨a, n, es, rfl, hA, W, q⟩ := h
    refine ⟨_, pss_cons (ps_expr (pe_call G1 hr (by rfl) g1 k1 b1 .nil pass0 (pa_cons (pv 0) pa_nil)))
      (pss_one (ps_ret (pe_call G3 (hr.mono (by decide)) (by rfl) g3 k3 b3 .nil pass0 (pa_cons (pe_call G2 (hr.mono (by decide)) (by rfl) g2 k2 b2 .nil pass0 (pa_cons (pv 0) pa_nil)) pa_nil)))), ?_⟩
    refine ⟨_, rfl, a, n, es, rfl, hA, W, fun H1 s1 => ?_⟩
    refine ⟨_, rfl, a, n, es, rfl, hA.same s1, W.lo, fun H2 b xss s2 hB N => ?_⟩
    refine ⟨b, n, xss, rfl, hB, NearOk.rows N W.lo, fun H3 r l m s3 hr3 hl Pn => ?_⟩
    exact q H3 r l ((s1.trans s2).trans s3) hr3 (by rw [hl]; exact shown_nil W.ok N Pn)
end
end FwW

set_option Elab.async false
set_option linter.all false
set_option maxRecDepth 100000
set_option maxHeartbeats 4000000
namespace FwW
open PySem PySem.Spec PyProof.Rows L2 Fw FwX
/-! ### data at depth -/
def dInts (xs : List Int) : List PyData := xs.map PyData.int
def dTie (e : Tie) : PyData := .tuple [.int e.1, .int e.2]
theorem dpAll_ints {K : PySem.W.Frag} {H : Hp} : ∀ xs : List Int, DpAll K H (xs.map V.int) (dInts xs)
  | [] => .nil
  | x :: xs => .cons (.int x) (dpAll_ints xs)
theorem dp_row {K : PySem.W.Frag} {H : Hp} {a : Addr} {xs : List Int} (h : H a = some (RowO xs)) : Dp K H (.ref a) (.list (dInts xs)) := .lst (SqL.of h) (dpAll_ints xs)
theorem dp_tup {K : PySem.W.Frag} {H : Hp} {a : Addr} {xs : List Int} (h : H a = some (TupO xs)) : Dp K H (.ref a) (.tuple (dInts xs)) := .tup (SqT.of h) (dpAll_ints xs)
theorem dp_tie {K : PySem.W.Frag} {H : Hp} {a : Addr} {e : Tie} (h : H a = some (TieO e)) : Dp K H (.ref a) (dTie e) := .tup (SqT.of h) (.cons (.int _) (.cons (.int _) .nil))
theorem Each.tail {α : Type} {f : α → HO} {H : Hp} {a : Addr} {as : List Addr} {x : α} {xs : List α} (e : Each f H (a :: as) (x :: xs)) : Each f H as xs :=
  ⟨by have := e.len; simpa using this, fun i b y h1 h2 => e.at_ (i + 1) b y (by simpa using h1) (by simpa using h2)⟩
theorem Each.head {α : Type} {f : α → HO} {H : Hp} {a : Addr} {as : List Addr} {x : α} {xs : List α} (e : Each f H (a :: as) (x :: xs)) : H a = some (f x) := e.at_ 0 a x rfl rfl
theorem dpAll_ties {K : PySem.W.Frag} {H : Hp} : ∀ (as : List Addr) (es : List Tie), Each TieO H as es → DpAll K H (refs as) (es.map dTie)
  | [], [], _ => .nil
  | [], e :: es, h => by have := h.len; simp at this
  | a :: as, [], h => by have := h.len; simp at this
  | a :: as, e :: es, h => .cons (dp_tie h.head) (dpAll_ties as es h.tail)
theorem lay_ints : ∀ xs : List Int, PyData.canLayAll0 (dInts xs) = true ∧ PyData.depthAll (dInts xs) = 0
  | [] => ⟨by simp [dInts, PyData.canLayAll0], by simp [dInts, PyData.depthAll]⟩
  | x :: xs => by
    obtain ⟨h1, h2⟩ := lay_ints xs
    unfold dInts at h1 h2
    exact ⟨by simp [dInts, PyData.canLayAll0, PyData.canLay0, h1], by simp [dInts, PyData.depthAll, PyData.depth, h2]⟩
theorem shaped_row (xs : List Int) : SeqAt.shaped (.list (dInts xs)) = true := by
  obtain ⟨h1, h2⟩ := lay_ints xs
  simp [SeqAt.shaped, PyData.canLay0, PyData.depth, h1, h2]
theorem shaped_tup (xs : List Int) : SeqAt.shaped (.tuple (dInts xs)) = true := by
  obtain ⟨h1, h2⟩ := lay_ints xs
  simp [SeqAt.shaped, PyData.canLay0, PyData.depth, h1, h2]
theorem shaped_tie (e : Tie) : SeqAt.shaped (dTie e) = true := by simp [SeqAt.shaped, dTie, PyData.canLay0, PyData.canLayAll0, PyData.depth, PyData.depthAll]
theorem lay_ties : ∀ es : List Tie, PyData.canLayAll0 (es.map dTie) = true
  | [] => by simp [PyData.canLayAll0]
  | e :: es => by
    have h := lay_ties es
    simp [PyData.canLayAll0, PyData.canLay0, dTie] at h ⊢
    exact h
theorem eqv_ints : ∀ xs ys : List Int, PyData.eqvAll (dInts xs) (dInts ys) = decide (xs = ys)
  | [], [] => by simp [dInts, PyData.eqvAll]
  | [], y :: ys => by simp [dInts, PyData.eqvAll]
  | x :: xs, [] => by simp [dInts, PyData.eqvAll]
  | x :: xs, y :: ys => by
    have h := eqv_ints xs ys
    unfold dInts at h
    by_cases e : x = y
    · subst e
      simp [dInts, PyData.eqvAll, PyData.eqv, h]
    · simp [dInts, PyData.eqvAll, PyData.eqv, e]
theorem eqv_row (xs ys : List Int) : PyData.eqv (.list (dInts xs)) (.list (dInts ys)) = decide (xs = ys) := by
  simp only [PyData.eqv]
  exact eqv_ints xs ys
theorem eqv_tup (xs ys : List Int) : PyData.eqv (.tuple (dInts xs)) (.tuple (dInts ys)) = decide (xs = ys) := by
  simp only [PyData.eqv]
  exact eqv_ints xs ys
theorem eqv_tie (e f : Tie) : PyData.eqv (dTie e) (dTie f) = decide (e = f) := by
  simp only [dTie, PyData.eqv, PyData.eqvAll, Bool.and_true]
  by_cases h : e = f
  · subst h
    simp
  · rw [decide_eq_false h]
    by_cases h1 : e.1 = f.1
    · by_cases h2 : e.2 = f.2
      · exact absurd (Prod.ext h1 h2) h
      · simp [h2]
    · simp [h1]
theorem any_tie (es : List Tie) (e : Tie) : ((es.map dTie).any fun z => PyData.eqv z (dTie e)) = decide (e ∈ es) := by
  rw [List.any_map]
  by_cases h : e ∈ es
  · rw [decide_eq_true h]
    refine List.any_eq_true.mpr ⟨e, h, ?_⟩
    show PyData.eqv (dTie e) (dTie e) = true
    rw [eqv_tie]
    simp
  · rw [decide_eq_false h]
    refine List.any_eq_false.mpr fun f hf => ?_
    show ¬ PyData.eqv (dTie f) (dTie e) = true
    rw [eqv_tie]
    intro q
    exact h ((of_decide_eq_true q) ▸ hf)
section
variable {X : Cx}
/-- x in t, t a tuple of data -/
def rInDT (K : PySem.W.Frag) : R2 := fun x y H Q => ∃ d ds, Dp K H x d ∧ Dp K H y (.tuple ds) ∧ SeqAt.shaped d = true ∧ PyData.canLayAll0 ds = true ∧ Q (.bl (ds.any fun z => PyData.eqv z d)) H
theorem inDT (K : PySem.W.Frag) (hu : X.A.units + 65 < cLine) (h : X.K = K := by rfl) : OpR X (compareOp .In) (rInDT K) := by
  subst h
  intro pins s σ H x y v u Q I rx ry h
  obtain ⟨d, ds, hd, he, sd, se, q⟩ := h
  obtain ⟨as, r1⟩ := Dp.reads I d x v hd rx
  obtain ⟨bs, r2⟩ := Dp.reads I (.tuple ds) y u he ry
  exact SeqAt.in_tuple_reads r2 r1 se (SeqAt.canLay_of_shaped sd) (room_in_shaped sd hu) ⟨.bl _, H, I, rfl, q⟩
end
theorem hu65 {k : Nat} {A : Around} (hr : Room k A) : A.units + 65 < cLine := by have := hr.un; omega
/-! ### the dict of new numbers -/
def kIx (kept : List Int) (i : Nat) : List (Key × V) := (List.range i).map fun j => (Sum.inl (kept.getD j 0), V.int (j : Nat))
theorem kIx_succ (kept : List Int) (i : Nat) : kIx kept (i + 1) = kIx kept i ++ [(Sum.inl (kept.getD i 0), V.int (i : Nat))] := by
  unfold kIx
  rw [List.range_succ, List.map_append]
  rfl
theorem merge_snoc (kvs : List (Key × V)) (p : Key × V) : mergeK [] (kvs ++ [p]) = putK (mergeK [] kvs) p.1 p.2 := by
  unfold mergeK
  rw [List.foldl_append]
  rfl
theorem kIx_get {kept : List Int} (nd : kept.Nodup) (x : Int) : ∀ i : Nat, i ≤ kept.length → valV (mergeK [] (kIx kept i)) (Sum.inl x) = if x ∈ kept.take i then some (.int (ixI kept x)) else none
  | 0, _ => by simp [kIx, mergeK, valV]
  | i + 1, h => by
    have ih := kIx_get nd x i (by omega)
    have hi : kept[i]? = some kept[i] := List.getElem?_eq_getElem (by omega)
    have e : kept.getD i 0 = kept[i] := by rw [List.getD_eq_getElem?_getD, hi]; rfl
    have tk : kept.take (i + 1) = kept.take i ++ [kept[i]] := by rw [List.take_add_one, hi]; rfl
    rw [kIx_succ, merge_snoc, valV_put, ih, e, tk]
    by_cases q : x = kept[i]
    · have ix : ixI kept x = i := ix_of nd (q ▸ hi)
      rw [if_pos (by rw [q]), if_pos (by rw [q]; exact List.mem_append_right _ List.mem_cons_self), ix]
    · have q2 : ¬ (Sum.inl x : Key) = Sum.inl kept[i] := fun z => q (Sum.inl.inj z)
      rw [if_neg q2]
      by_cases m : x ∈ kept.take i
      · rw [if_pos m, if_pos (List.mem_append_left _ m)]
      · rw [if_neg m, if_neg (fun z => (List.mem_append.mp z).elim m fun z => q (List.mem_singleton.mp z))]
theorem kIx_all {kept : List Int} (nd : kept.Nodup) (x : Int) : valV (mergeK [] (kIx kept kept.length)) (Sum.inl x) = if x ∈ kept then some (.int (ixI kept x)) else none := by
  rw [kIx_get nd x _ (Nat.le_refl _), List.take_length]
theorem kIx_some {kept : List Int} (nd : kept.Nodup) (x : Int) : (valV (mergeK [] (kIx kept kept.length)) (Sum.inl x)).isSome = decide (x ∈ kept) := by
  rw [kIx_all nd]
  by_cases h : x ∈ kept
  · simp [h]
  · simp [h]
/-- the pairs (place, its new number) -/
def prs (kept : List Int) (i : Nat) : List Tie := (List.range i).map fun j => (kept.getD j 0, ((j : Nat) : Int))
theorem prs_succ (kept : List Int) (i : Nat) : prs kept (i + 1) = prs kept i ++ [(kept.getD i 0, ((i : Nat) : Int))] := by
  unfold prs
  rw [List.range_succ, List.map_append]
  rfl
theorem paired_prs {K : PySem.W.Frag} {H : Hp} : ∀ (as : List Addr) (es : List Tie), Each TieO H as es → Paired (fun p (kv : Key × V) => SqT K H p [kV kv.1, kv.2]) as (es.map fun e => (Sum.inl e.1, V.int e.2))
  | [], [], _ => .nil
  | [], e :: es, h => by have := h.len; simp at this
  | a :: as, [], h => by have := h.len; simp at this
  | a :: as, e :: es, h => .cons (SqT.of h.head) (paired_prs as es h.tail)
theorem prs_kIx (kept : List Int) (i : Nat) : (prs kept i).map (fun e => ((Sum.inl e.1 : Key), V.int e.2)) = kIx kept i := by
  unfold prs kIx
  rw [List.map_map]
  rfl
theorem Gr.more {α : Type} {f : α → HO} {H1 H H' : Hp} {D : Addr} {as : List Addr} {xs : List α} (g : Gr f H1 D as xs H) (s : Same H H') : Gr f H1 D as xs H' := ⟨g.lc.more s, g.each.same s, g.nd, g.new, g.out⟩
theorem leftTies_snoc (es : List Tie) (kept : List Int) (e : Tie) : leftTies (es ++ [e]) kept = leftTies es kept ++ if decide (e.1 ∈ kept) && decide (e.2 ∈ kept) then [(ixI kept e.1, ixI kept e.2)] else [] := by
  unfold leftTies
  rw [List.filter_append, List.map_append, List.filter_cons]
  congr 1
  by_cases h : (decide (e.1 ∈ kept) && decide (e.2 ∈ kept)) = true
  · rw [if_pos h, if_pos h]
    rfl
  · rw [if_neg h, if_neg h]
    rfl
theorem leftTies_len (es : List Tie) (kept : List Int) : (leftTies es kept).length ≤ es.length := by
  unfold leftTies
  rw [List.length_map]
  exact List.length_filter_le _ _
theorem left_lo {n : Nat} {es : List Tie} (W : WebLo n es) (bar : List Int) : WebLo (keptL n bar).length (leftTies es (keptL n bar)) :=
  ⟨left_ok W.ok bar, Nat.le_trans (keptL_len n bar) W.nine, Nat.le_trans (leftTies_len _ _) W.few⟩
section
variable {P : Program} {w : World} {K : PySem.W.Frag} {mg : Str → Option Value} {base : Heap}
/-! ### left_over -/
def spLeftOver : Sp := fun vs H Q _ => ∃ (a b : Addr) (n : Nat) (es : List Tie) (bar : List Int), vs = [.ref a, .ref b] ∧ WebAt H a n es ∧ WebLo n es ∧ H b = some (TupO bar) ∧ ∀ H' r, Same H H' → WebAt H' r (keptL n bar).length (leftTies es (keptL n bar)) → Q (.ref r) H'
theorem ok_leftOver {f : Addr} {fd : FuncData} (F : Fun K "left_over" "left_over" sLeftOver f fd) (T : Blt mg) : FnOk P w K mg base CX0 1 f fd ["web", "places"] spLeftOver := by
  refine F.ok scLeftOver (fun vs H Q E h => ?_) (fun cdv A outer s H vs Q E hr h => ?_)
  · obtain ⟨a, b, n, es, bar, rfl, _⟩ := h
    rfl
  · obtain ⟨a, b, n, es, bar, rfl, ⟨t, hA, ts, ht, each⟩, W, hB, q⟩ := h
    have nd := scLeftOver.nd
    have hu := hu_of hr
    have h9 := W.nine
    refine ⟨_, pss_cons (ps_setLc (i := 2) (own := [("place", 3)]) (g := gName 3) rfl nd rfl rfl (sw_true rfl rfl rfl (by decide +kernel)) (pi_range1 (by rfl) T.range (pa_cons (pe_ix ix_tup (pv 0) pe_int (fun _ _ => rfl)) pa_nil))
        (blkOk_by (own := [("place", 3)]) (N := ["web", "places", "kept", "place", "number", "k", "ties", "one", "other"]) (sc := defScope sLeftOver) (by decide +kernel)) (fun _ _ _ _ _ => pg_name (i := 3) nd rfl (Or.inl rfl))
        (fun _ _ _ _ _ => pts_one (pt_cmpR (ninS K) (pv 3) (pv 1) (by rfl))) (fun _ _ _ _ _ => pv 3))
      (pss_cons (ps_set (i := 4) nd rfl (Or.inr rfl) (pe_callTy (call_dictP rfl) (by rfl) T.dict boot_dict (pa_cons
        (pe_lc (own := [("place", 3), ("k", 5)]) (g := gTup K 2 (gCons (gName 5) (gCons (gName 3) gNil))) (tt := tYes) rfl nd (pi_enum (by rfl) T.enumerate (pa_cons (pv 2) pa_nil))
          (blkOk_by (own := [("place", 3), ("k", 5)]) (N := ["web", "places", "kept", "place", "number", "k", "ties", "one", "other"]) (sc := defScope sLeftOver) (by decide +kernel))
          (fun _ _ _ _ _ => pg_tup (by rfl) (pgs_cons (pg_name (i := 5) nd rfl (Or.inl rfl)) (pgs_cons (pg_name (i := 3) nd rfl (Or.inl rfl)) pgs_nil))) (fun _ _ _ _ _ => pts_nil)
          (fun _ _ _ _ _ => pe_tup (pa_cons (pv 3) (pa_cons (pv 5) pa_nil)))) pa_nil)))
      (pss_cons (ps_setLc (i := 6) (own := [("one", 7), ("other", 8)]) (g := gTup K 2 (gCons (gName 7) (gCons (gName 8) gNil))) rfl nd rfl rfl (sw_true rfl rfl rfl (by decide +kernel)) (pi_tup (pe_ix ix_tup (pv 0) pe_int (fun _ _ => rfl)))
          (blkOk_by (own := [("one", 7), ("other", 8)]) (N := ["web", "places", "kept", "place", "number", "k", "ties", "one", "other"]) (sc := defScope sLeftOver) (by decide +kernel))
          (fun _ _ _ _ _ => pg_tup (by rfl) (pgs_cons (pg_name (i := 7) nd rfl (Or.inl rfl)) (pgs_cons (pg_name (i := 8) nd rfl (Or.inl rfl)) pgs_nil)))
          (fun _ _ _ _ _ => pts_one (PW.pt (pw_and (pt_cmp (pc_din hu (pv 7) (pv 4))) (pw_and1 (pt_cmp (pc_din hu (pv 8) (pv 4)))))))
          (fun _ _ _ _ _ => pe_tup (pa_cons (pe_dget hu (pv 4) (pv 7) (fun _ _ => rfl)) (pa_cons (pe_dget hu (pv 4) (pv 8) (fun _ _ => rfl)) pa_nil))))
      (pss_one (ps_ret (pe_tup (pa_cons (pe_callB call_len_seq (by rfl) T.len PySem.boot_len (pa_cons (pv 2) pa_nil)) (pa_cons (pe_callTy call_tuple_of (by rfl) T.tuple boot_tuple (pa_cons (pv 6) pa_nil)) pa_nil))))))), ?_⟩
    -- kept
    refine ⟨_, rfl, _, _, _, _, rfl, rfl, SqT.of hA, atI_nat (j := 0) rfl, _, rfl, by omega, by omega, fun D hD => ?_⟩
    refine lc_range (lo := 0) (n := ((n : Int)).toNat) (fun i H' => Lc H D ((keptL i bar).map V.int) H') (Lc.start hD) (fun i H' hi c => ?_) (fun H1 c => ?_)
    · have ei : (0 + (i : Int)) = (i : Int) := by omega
      rw [ei]
      refine ⟨rfl, _, rfl, _, rfl, b, _, rfl, .inr (SqT.of (c.same _ _ hB)), rfl, ints_flat _, _, rfl, ?_⟩
      rw [ints_any]
      have es1 : keptL (i + 1) bar = keptL i bar ++ [(i : Int)].filter fun p => decide (p ∉ bar) := by
        unfold keptL
        rw [irange_succ, List.filter_append]
      rw [es1, List.map_append]
      by_cases hm : (i : Int) ∈ bar
      · have e : ([(i : Int)].filter fun p => decide (p ∉ bar)) = [] := by simp [hm]
        rw [e, decide_eq_true hm]
        refine iteF ?_
        rw [List.map_nil, List.append_nil]
        exact c
      · have e : ([(i : Int)].filter fun p => decide (p ∉ bar)) = [(i : Int)] := by simp [hm]
        rw [e, decide_eq_false hm]
        refine iteT ⟨_, rfl, _, c.lst, ?_, c.add hD _⟩
        have := keptL_len i bar
        rw [List.length_map]
        exact small1000 (by omega)
    rw [Int.toNat_natCast] at c
    have kd := nodup_of_lt (keptL_lt n bar)
    have kl := keptL_len n bar
    generalize hk : keptL n bar = kept at c kd kl q
    -- number
    have hK1 : SqL K H1 D (kept.map V.int) := SqL.of c.lst
    refine ⟨_, rfl, D, _, rfl, hK1, fun D2 hD2 => ?_⟩
    refine ⟨fun i m H' => m = kept.length - i ∧ i ≤ kept.length ∧ ∃ as, Gr TieO H1 D2 as (prs kept i) H', ⟨_, rfl, Nat.zero_le _, [], Gr.start hD2⟩, fun i m H' hW => ?_⟩
    obtain ⟨rfl, hi, as, g⟩ := hW
    have hK : SqL K H' D (kept.map V.int) := g.lc.same.seq hK1
    by_cases hlt : i < kept.length
    · have hx : kept[i]? = some kept[i] := List.getElem?_eq_getElem hlt
      refine .inr ⟨⟨_, _, hK, ints_get hx⟩, fun H2 => ∃ as, Gr TieO H1 D2 as (prs kept (i + 1)) H2, fun H2 z => ⟨kept.length - (i + 1), by omega, rfl, by omega, z⟩, fun x H2 hy => ?_⟩
      obtain ⟨T2, y, rfl, nT, rfl, fy⟩ := hy
      have ey : y = .int kept[i] := Option.some.inj ((fy _ hK).symm.trans (ints_get hx))
      subst ey
      have sT : Same H' (upd H' T2 (.tup [.int (i : Nat), .int kept[i]])) := same_new nT _
      refine ⟨T2, _, rfl, SqT.of upd_same, rfl, _, _, rfl, _, _, rfl, rfl, rfl, tyes ?_⟩
      refine ⟨_, rfl, _, rfl, by show 2 ≤ sizeLine; decide, fun p hp => ?_⟩
      have g2 := g.more sT
      have ne : D2 ≠ p := ne_of_none g2.lc.lst hp
      have e : kept.getD i 0 = kept[i] := by rw [List.getD_eq_getElem?_getD, hx]; rfl
      refine ⟨refs as, by rw [upd_ne ne]; exact g2.lc.lst, ?_, as ++ [p], ?_⟩
      · have := g.each.len
        unfold prs at this
        rw [List.length_map, List.length_range] at this
        rw [refs_len]
        exact small1000 (by omega)
      · rw [refs_snoc, prs_succ, e]
        exact g2.add hD2 hp (kept[i], ((i : Nat) : Int))
    · have ei : i = kept.length := by omega
      subst ei
      refine .inl ⟨⟨_, hK, by rw [List.length_map]; omega⟩, ?_⟩
      have pr := paired_prs (K := K) as _ g.each
      rw [prs_kIx] at pr
      refine ⟨D2, as, _, rfl, SqL.of g.lc.lst, pr, fun d hd => ?_⟩
      -- ties
      have s3 : Same H (upd H' d (.dK (mergeK [] (kIx kept kept.length)))) := (c.same.trans g.lc.same).trans (same_new hd _)
      have hd3 : (upd H' d (.dK (mergeK [] (kIx kept kept.length)))) d = some (.dK (mergeK [] (kIx kept kept.length))) := upd_same
      have hK3 : SqL K (upd H' d (.dK (mergeK [] (kIx kept kept.length)))) D (kept.map V.int) := (same_new hd _).seq hK
      generalize hH3 : upd H' d (.dK (mergeK [] (kIx kept kept.length))) = H3 at s3 hd3 hK3
      refine ⟨_, rfl, _, _, _, _, rfl, rfl, SqT.of (s3 _ _ hA), atI_nat (j := 1) rfl, t, rfl, ⟨_, SqT.of (s3 _ _ ht)⟩, fun D4 hD4 => ?_⟩
      refine lc_tup (K := K) (a := t) (xs := refs ts) (fun i G => ∃ bs, Gr TieO H3 D4 bs (leftTies (es.take i) kept) G) ⟨[], Gr.start hD4⟩ (fun i G _ ⟨_, g4⟩ => SqT.of (g4.lc.same _ _ (s3 _ _ ht))) ?_ ?_
      · rintro i x G hx ⟨bs, g4⟩
        obtain ⟨y, hy, rfl⟩ := refs_at hx
        obtain ⟨e, he, hye⟩ := each.got hy
        have hye' : G y = some (TieO e) := g4.lc.same _ _ (s3 _ _ hye)
        have hdG : G d = some (.dK (mergeK [] (kIx kept kept.length))) := g4.lc.same _ _ hd3
        have tk : es.take (i + 1) = es.take i ++ [e] := by rw [List.take_add_one, he]; rfl
        rw [tk, leftTies_snoc]
        refine ⟨y, _, rfl, SqT.of hye', rfl, _, _, rfl, _, _, rfl, rfl, rfl, ?_⟩
        refine ⟨_, rfl, _, rfl, d, _, rfl, DGet.k (k := Sum.inl e.1) hdG, _, rfl, ?_⟩
        rw [kIx_some kd]
        by_cases h1 : e.1 ∈ kept
        · rw [decide_eq_true h1]
          refine iteT ⟨_, rfl, _, rfl, d, _, rfl, DGet.k (k := Sum.inl e.2) hdG, _, rfl, ?_⟩
          rw [kIx_some kd]
          by_cases h2 : e.2 ∈ kept
          · rw [decide_eq_true h2]
            have v1 := kIx_all kd e.1
            have v2 := kIx_all kd e.2
            rw [if_pos h1] at v1
            rw [if_pos h2] at v2
            refine iteT ⟨_, rfl, _, rfl, d, _, rfl, v1 ▸ DGet.k (k := Sum.inl e.1) hdG, _, rfl, _, rfl, d, _, rfl, v2 ▸ DGet.k (k := Sum.inl e.2) hdG, by show 2 ≤ sizeLine; decide, fun p hp => ?_⟩
            have ne : D4 ≠ p := ne_of_none g4.lc.lst hp
            refine ⟨refs bs, by rw [upd_ne ne]; exact g4.lc.lst, ?_, bs ++ [p], ?_⟩
            · have l1 := g4.each.len
              have l2 := leftTies_len (es.take i) kept
              rw [List.length_take] at l2
              have := W.few
              rw [refs_len]
              exact small1000 (by omega)
            · rw [refs_snoc]
              exact g4.add hD4 hp (ixI kept e.1, ixI kept e.2)
          · rw [decide_eq_false h2]
            refine iteF ?_
            simp only [Bool.and_false, Bool.false_eq_true, if_false, List.append_nil]
            exact ⟨bs, g4⟩
        · rw [decide_eq_false h1]
          refine iteF ?_
          simp only [Bool.false_and, Bool.false_eq_true, if_false, List.append_nil]
          exact ⟨bs, g4⟩
      · rintro G ⟨bs, g4⟩
        have eT : es.take (refs ts).length = es := by rw [refs_len, each.len, List.take_length]
        rw [eT] at g4
        have hK4 : SqL K G D (kept.map V.int) := g4.lc.same.seq hK3
        refine ⟨_, rfl, D, _, rfl, .inl hK4, _, rfl, D4, _, rfl, .inl ⟨SqL.of g4.lc.lst, fun u hu4 => ?_⟩⟩
        refine ⟨by show 2 ≤ sizeLine; decide, fun r hr4 => ?_⟩
        have s5 : Same G (upd G u (.tup (refs bs))) := same_new hu4 _
        have s6 := same_new hr4 (.tup [.int ((kept.map V.int).length : Nat), .ref u])
        have el : (kept.map V.int).length = kept.length := List.length_map _
        refine q _ r (((s3.trans g4.lc.same).trans s5).trans s6) ⟨u, ?_, bs, s6 _ _ upd_same, (g4.each.same s5).same s6⟩
        rw [upd_same, el]
end
end FwW

set_option Elab.async false
set_option linter.all false
set_option maxRecDepth 100000
set_option maxHeartbeats 4000000
namespace FwW
open PySem PySem.Spec PyProof.Rows L2 Fw FwX
section
variable {P : Program} {w : World} {K : PySem.W.Frag} {mg : Str → Option Value} {base : Heap}
/-! ### what a bar shows -/
def spShown : Sp := fun vs H Q _ => ∃ (a b : Addr) (n : Nat) (es : List Tie) (bar : List Int), vs = [.ref a, .ref b] ∧ WebAt H a n es ∧ WebLo n es ∧ H b = some (TupO bar) ∧ ∀ H', Same H H' → Shown n es bar (sh n es bar) → Q (.int (sh n es bar)) H'
theorem ok_shown {f f1 f2 f3 : Addr} {fd fd1 fd2 fd3 : FuncData} (F : Fun K "shown" "shown" sShown f fd) (T : Blt mg)
    (G1 : FnOk P w K mg base CX0 1 f1 fd1 ["web", "places"] spLeftOver) (g1 : mg "left_over" = some (.ref f1)) (k1 : PySem.W.keepIn K (.ref f1) = true) (b1 : Binds K fd1 ["web", "places"] [])
    (G2 : FnOk P w K mg base CX0 1 f2 fd2 ["web"] spNear) (g2 : mg "near" = some (.ref f2)) (k2 : PySem.W.keepIn K (.ref f2) = true) (b2 : Binds K fd2 ["web"] [])
    (G3 : FnOk P w K mg base CX0 2 f3 fd3 ["beside"] spPartsBy) (g3 : mg "parts_by" = some (.ref f3)) (k3 : PySem.W.keepIn K (.ref f3) = true) (b3 : Binds K fd3 ["beside"] []) :
    FnOk P w K mg base CX0 3 f fd ["web", "bar"] spShown := by
  refine F.ok scShown (fun vs H Q E h => ?_) (fun cdv A outer s H vs Q E hr h => ?_)
  · obtain ⟨a, b, n, es, bar, rfl, _⟩ := h
    rfl
  · obtain ⟨a, b, n, es, bar, rfl, hA, W, hB, q⟩ := h
    have hr1 := hr.mono (by decide : 1 ≤ 2)
    refine ⟨_, pss_one (ps_ret (pe_op op_sub (pe_callB call_len_seq (by rfl) T.len PySem.boot_len (pa_cons (pe_call G3 hr (by rfl) g3 k3 b3 .nil pass0 (pa_cons (pe_call G2 hr1 (by rfl) g2 k2 b2 .nil pass0 (pa_cons
      (pe_call G1 hr1 (by rfl) g1 k1 b1 .nil pass0 (pa_cons (pv 0) (pa_cons (pv 1) pa_nil))) pa_nil)) pa_nil)) pa_nil)) (pe_callB call_len_seq (by rfl) T.len PySem.boot_len (pa_cons (pv 1) pa_nil)))), ?_⟩
    refine ⟨_, rfl, _, rfl, a, b, n, es, bar, rfl, hA, W, hB, fun H1 r s1 hr1 => ?_⟩
    have W1 := left_lo W bar
    refine ⟨r, _, _, rfl, hr1, W1, fun H2 c xss s2 hC N => ?_⟩
    refine ⟨c, _, xss, rfl, hC, NearOk.rows N W1, fun H3 d l m s3 hd hl Pn => ?_⟩
    refine ⟨d, l, rfl, .inl (SqL.of hd), ?_⟩
    have s13 := (s1.trans s2).trans s3
    refine ⟨_, rfl, b, _, rfl, .inr (SqT.of (s13 _ _ hB)), _, _, rfl, rfl, ?_⟩
    have is : Shown n es bar (((l.length : Nat) : Int) - (((bar.map V.int).length : Nat) : Int)) := by
      refine ⟨xss, m, N, Pn, ?_⟩
      rw [hl, List.length_map]
    have e := Shown.eq W.ok is
    rw [e] at is
    show Q (.int ((l.length : Int) - ((bar.map V.int).length : Int))) H3
    rw [e]
    exact q H3 s13 is
def spShows : Sp := fun vs H Q _ => ∃ (a b : Addr) (n : Nat) (es : List Tie) (bar : List Int), vs = [.ref a, .ref b] ∧ WebAt H a n es ∧ WebIn n es ∧ H b = some (TupO bar) ∧ PlacesIn n bar ∧ ∀ H', Same H H' → Shown n es bar (sh n es bar) → Q (.int (sh n es bar)) H'
theorem ok_shows {f f1 f2 f3 : Addr} {fd fd1 fd2 fd3 : FuncData} (F : Fun K "shows" "shows" sShows f fd)
    (G1 : FnOk P w K mg base CX0 4 f1 fd1 ["thing"] spNeedWeb) (g1 : mg "need_web" = some (.ref f1)) (k1 : PySem.W.keepIn K (.ref f1) = true) (b1 : Binds K fd1 ["thing"] [])
    (G2 : FnOk P w K mg base CX0 3 f2 fd2 ["web", "thing"] spNeedPlaces) (g2 : mg "need_places" = some (.ref f2)) (k2 : PySem.W.keepIn K (.ref f2) = true) (b2 : Binds K fd2 ["web", "thing"] [])
    (G3 : FnOk P w K mg base CX0 3 f3 fd3 ["web", "bar"] spShown) (g3 : mg "shown" = some (.ref f3)) (k3 : PySem.W.keepIn K (.ref f3) = true) (b3 : Binds K fd3 ["web", "bar"] []) :
    FnOk P w K mg base CX0 5 f fd ["web", "bar"] spShows := by
  refine F.ok scShows (fun vs H Q E h => ?_) (fun cdv A outer s H vs Q E hr h => ?_)
  · obtain ⟨a, b, n, es, bar, rfl, _⟩ := h
    rfl
  · obtain ⟨a, b, n, es, bar, rfl, hA, W, hB, p, q⟩ := h
    have hr3 := hr.mono (by decide : 3 ≤ 4)
    refine ⟨_, pss_cons (ps_expr (pe_call G1 hr (by rfl) g1 k1 b1 .nil pass0 (pa_cons (pv 0) pa_nil)))
      (pss_cons (ps_expr (pe_call G2 hr3 (by rfl) g2 k2 b2 .nil pass0 (pa_cons (pv 0) (pa_cons (pv 1) pa_nil))))
      (pss_one (ps_ret (pe_call G3 hr3 (by rfl) g3 k3 b3 .nil pass0 (pa_cons (pv 0) (pa_cons (pv 1) pa_nil)))))), ?_⟩
    refine ⟨_, rfl, a, n, es, rfl, hA, W, fun H1 s1 => ?_⟩
    obtain ⟨t, hT, _⟩ := id hA
    have h9 := W.nine
    refine ⟨_, rfl, _, rfl, a, b, t, n, bar, rfl, s1 _ _ hT, s1 _ _ hB, p, by omega, fun H2 s2 => ?_⟩
    have s12 := s1.trans s2
    exact ⟨_, rfl, _, rfl, a, b, n, es, bar, rfl, hA.same s12, W.lo, s12 _ _ hB, fun H3 s3 is => q H3 (s12.trans s3) is⟩
def spShownWith : Sp := fun vs H Q _ => ∃ (a c b : Addr) (n : Nat) (es : List Tie) (ends bar : List Int), vs = [.ref a, .ref c, .ref b] ∧ WebAt H a n es ∧ WebLo n es ∧ H c = some (TupO ends) ∧ H b = some (TupO bar) ∧ bar.length ≤ 1000 ∧ ∀ H', Same H H' → Q (.int (sh n es bar + both bar ends)) H'
theorem ok_shownWith {f f3 : Addr} {fd fd3 : FuncData} (F : Fun K "shown_with" "shown_with" sShownWith f fd) (T : Blt mg)
    (G3 : FnOk P w K mg base CX0 3 f3 fd3 ["web", "bar"] spShown) (g3 : mg "shown" = some (.ref f3)) (k3 : PySem.W.keepIn K (.ref f3) = true) (b3 : Binds K fd3 ["web", "bar"] []) :
    FnOk P w K mg base CX0 4 f fd ["web", "ends", "bar"] spShownWith := by
  refine F.ok scShownWith (fun vs H Q E h => ?_) (fun cdv A outer s H vs Q E hr h => ?_)
  · obtain ⟨a, c, b, n, es, ends, bar, rfl, _⟩ := h
    rfl
  · obtain ⟨a, c, b, n, es, ends, bar, rfl, hA, W, hC, hB, hl, q⟩ := h
    have nd := scShownWith.nd
    refine ⟨_, pss_one (ps_ret (pe_op op_add (pe_call G3 hr (by rfl) g3 k3 b3 .nil pass0 (pa_cons (pv 0) (pa_cons (pv 2) pa_nil))) (pe_callB call_len_seq (by rfl) T.len PySem.boot_len (pa_cons
      (pe_lc (own := [("place", 3)]) (g := gName 3) rfl nd (pi_tup (pv 2)) (blkOk_by (own := [("place", 3)]) (N := ["web", "ends", "bar", "place"]) (sc := defScope sShownWith) (by decide +kernel))
        (fun _ _ _ _ _ => pg_name (i := 3) nd rfl (Or.inl rfl)) (fun _ _ _ _ _ => pts_one (pt_cmpR (inS K) (pv 3) (pv 1) (by rfl))) (fun _ _ _ _ _ => pv 3)) pa_nil)))), ?_⟩
    refine ⟨_, rfl, _, rfl, a, b, n, es, bar, rfl, hA, W, hB, fun H1 s1 _ => ?_⟩
    refine ⟨_, rfl, b, rfl, ⟨_, SqT.of (s1 _ _ hB)⟩, fun D hD => ?_⟩
    refine lc_tup (K := K) (a := b) (xs := bar.map V.int) (fun i G => Lc H1 D (((bar.take i).filter fun z => decide (z ∈ ends)).map V.int) G) (Lc.start hD) (fun i G _ c' => SqT.of (c'.same _ _ (s1 _ _ hB))) ?_ ?_
    · rintro i v G hv c'
      obtain ⟨z, hz, rfl⟩ := ints_at hv
      refine ⟨rfl, _, rfl, _, rfl, c, _, rfl, .inr (SqT.of (c'.same _ _ (s1 _ _ hC))), rfl, ints_flat _, _, rfl, ?_⟩
      rw [ints_any]
      have tk : bar.take (i + 1) = bar.take i ++ [z] := by rw [List.take_add_one, hz]; rfl
      rw [tk, List.filter_append, List.map_append]
      by_cases hm : z ∈ ends
      · have e : ([z].filter fun z => decide (z ∈ ends)) = [z] := by simp [hm]
        rw [e, decide_eq_true hm]
        refine iteT ⟨_, rfl, _, c'.lst, ?_, c'.add hD _⟩
        rw [List.length_map]
        have l1 := List.length_filter_le (fun z => decide (z ∈ ends)) (bar.take i)
        have l3 : (bar.take i).length ≤ bar.length := by rw [List.length_take]; exact Nat.min_le_right _ _
        exact small1000 (by omega)
      · have e : ([z].filter fun z => decide (z ∈ ends)) = [] := by simp [hm]
        rw [e, decide_eq_false hm]
        refine iteF ?_
        rw [List.map_nil, List.append_nil]
        exact c'
    · rintro G c'
      have eT : bar.take (bar.map V.int).length = bar := by rw [List.length_map, List.take_length]
      rw [eT] at c'
      refine ⟨D, _, rfl, .inl (SqL.of c'.lst), _, _, rfl, rfl, ?_⟩
      have e : ((((bar.filter fun z => decide (z ∈ ends)).map V.int).length : Nat) : Int) = (both bar ends : Int) := by
        rw [List.length_map]
        rfl
      dsimp only
      rw [e]
      exact q G (s1.trans c'.same)
def spShowsWith : Sp := fun vs H Q _ => ∃ (a c b : Addr) (n : Nat) (es : List Tie) (ends bar : List Int), vs = [.ref a, .ref c, .ref b] ∧ WebAt H a n es ∧ WebIn n es ∧ H c = some (TupO ends) ∧ PlacesIn n ends ∧ H b = some (TupO bar) ∧ PlacesIn n bar ∧ ∀ H', Same H H' → Q (.int (sh n es bar + both bar ends)) H'
theorem ok_showsWith {f f1 f2 f3 : Addr} {fd fd1 fd2 fd3 : FuncData} (F : Fun K "shows_with" "shows_with" sShowsWith f fd)
    (G1 : FnOk P w K mg base CX0 4 f1 fd1 ["thing"] spNeedWeb) (g1 : mg "need_web" = some (.ref f1)) (k1 : PySem.W.keepIn K (.ref f1) = true) (b1 : Binds K fd1 ["thing"] [])
    (G2 : FnOk P w K mg base CX0 3 f2 fd2 ["web", "thing"] spNeedPlaces) (g2 : mg "need_places" = some (.ref f2)) (k2 : PySem.W.keepIn K (.ref f2) = true) (b2 : Binds K fd2 ["web", "thing"] [])
    (G3 : FnOk P w K mg base CX0 4 f3 fd3 ["web", "ends", "bar"] spShownWith) (g3 : mg "shown_with" = some (.ref f3)) (k3 : PySem.W.keepIn K (.ref f3) = true) (b3 : Binds K fd3 ["web", "ends", "bar"] []) :
    FnOk P w K mg base CX0 5 f fd ["web", "ends", "bar"] spShowsWith := by
  refine F.ok scShowsWith (fun vs H Q E h => ?_) (fun cdv A outer s H vs Q E hr h => ?_)
  · obtain ⟨a, c, b, n, es, ends, bar, rfl, _⟩ := h
    rfl
  · obtain ⟨a, c, b, n, es, ends, bar, rfl, hA, W, hC, pc, hB, p, q⟩ := h
    have hr3 := hr.mono (by decide : 3 ≤ 4)
    refine ⟨_, pss_cons (ps_expr (pe_call G1 hr (by rfl) g1 k1 b1 .nil pass0 (pa_cons (pv 0) pa_nil)))
      (pss_cons (ps_expr (pe_call G2 hr3 (by rfl) g2 k2 b2 .nil pass0 (pa_cons (pv 0) (pa_cons (pv 1) pa_nil))))
      (pss_cons (ps_expr (pe_call G2 hr3 (by rfl) g2 k2 b2 .nil pass0 (pa_cons (pv 0) (pa_cons (pv 2) pa_nil))))
      (pss_one (ps_ret (pe_call G3 hr (by rfl) g3 k3 b3 .nil pass0 (pa_cons (pv 0) (pa_cons (pv 1) (pa_cons (pv 2) pa_nil)))))))), ?_⟩
    refine ⟨_, rfl, a, n, es, rfl, hA, W, fun H1 s1 => ?_⟩
    obtain ⟨t, hT, _⟩ := id hA
    have h9 := W.nine
    refine ⟨_, rfl, _, rfl, a, c, t, n, ends, rfl, s1 _ _ hT, s1 _ _ hC, pc, by omega, fun H2 s2 => ?_⟩
    have s12 := s1.trans s2
    refine ⟨_, rfl, _, rfl, a, b, t, n, bar, rfl, s12 _ _ hT, s12 _ _ hB, p, by omega, fun H3 s3 => ?_⟩
    have s13 := s12.trans s3
    have pl := p.len
    exact ⟨_, rfl, _, rfl, _, rfl, a, c, b, n, es, ends, bar, rfl, hA.same s13, W.lo, s13 _ _ hC, s13 _ _ hB, by omega, fun H4 s4 => q H4 (s13.trans s4)⟩
/-! ### partings -/
theorem cut_inner {ws : List Int} (ne : ws ≠ []) : cutV (ws.map V.int) (some 1) (some (-1)) = (inner ws).map V.int := by
  obtain ⟨x, r, rfl⟩ := List.exists_cons_of_ne_nil ne
  unfold cutV
  have h1 : HT.sIx ((x :: r).map V.int).length 0 (some 1) = 1 := by
    have := HT.sIx_nat ((x :: r).map V.int).length 0 1
    rw [show (some 1 : Option Int) = some ((1 : Nat) : Int) from rfl, this]
    simp
  have h2 : HT.sIx ((x :: r).map V.int).length ((x :: r).map V.int).length (some (-1)) = r.length := by
    show (if (-1 : Int) < 0 then ((-1 : Int) + (((x :: r).map V.int).length : Int)).toNat else min (-1 : Int).toNat ((x :: r).map V.int).length) = r.length
    rw [if_pos (by decide)]
    simp
    omega
  rw [h1, h2]
  show (r.map V.int).take (r.length - 1) = (r.dropLast).map V.int
  rw [← List.map_take, List.dropLast_eq_take]
theorem not_whole (ws : List Int) (ne : ws ≠ []) : ¬ (HT.sIx (ws.map V.int).length 0 (some 1) = 0 ∧ HT.sIx (ws.map V.int).length (ws.map V.int).length (some (-1)) = (ws.map V.int).length) := by
  rintro ⟨h1, _⟩
  have e : HT.sIx (ws.map V.int).length 0 (some 1) = min 1 (ws.map V.int).length := HT.sIx_nat (ws.map V.int).length 0 1
  rw [e, List.length_map] at h1
  have := List.length_pos_iff.mpr ne
  omega
def spKept : Sp := fun vs H Q _ => ∃ (c t : Addr) (n : Nat) (es : List Tie) (ends : List Int) (ws : List (List Int)), vs = [.ref c, .ref t] ∧ H c = some (TupO ends) ∧ TupOf TupO H t ws ∧ Parting n es ws ∧ n ≤ 9 ∧ ends.length ≤ 1000 ∧ Keeps ends ws ∧ ∀ H', Same H H' → Q (.bl true) H'
theorem Parting.flat_len {n : Nat} {es : List Tie} {ws : List (List Int)} (P : Parting n es ws) : ws.flatten.length = n := by rw [P.all.length_eq, irange_length]
theorem flat_take_len {ws : List (List Int)} (i : Nat) : ((ws.take i).flatten).length ≤ ws.flatten.length := by
  have e : ws.flatten = (ws.take i).flatten ++ (ws.drop i).flatten := by rw [← List.flatten_append, List.take_append_drop]
  rw [e, List.length_append]
  omega
theorem ok_kept {f : Addr} {fd : FuncData} (F : Fun K "kept" "kept" sKept f fd) (T : Blt mg) : FnOk P w K mg base CX0 1 f fd ["ends", "parting"] spKept := by
  refine F.ok scKept (fun vs H Q E h => ?_) (fun cdv A outer s H vs Q E hr h => ?_)
  · obtain ⟨c, t, n, es, ends, ws, rfl, _⟩ := h
    rfl
  · obtain ⟨c, t, n, es, ends, ws, rfl, hC, ⟨as, hT, each⟩, Pt, h9, he, Kp, q⟩ := h
    have nd := scKept.nd
    refine ⟨_, pss_cons (ps_set (i := 2) nd rfl (Or.inr rfl) (pe_lst pa_nil))
      (pss_cons (ps_for PassesOwn.never rfl (pi_tup (pv 1)) (pg_name (i := 3) nd rfl (Or.inl rfl))
        (pss_one (ps_expr (pe_bm PySem.F.plainAttrs_list PySem.F.slot_list_extend PySem.F.type_list_extend mt_extT (pv 2) (pa_cons (pe_slice sl_tup (pv 3) (po_some pe_int) (po_some (pe_un un_neg pe_int))) pa_nil)))))
      (pss_one (ps_ret (pe_cmpR (op_eqD hr.units) (pe_lc (own := [("place", 4)]) (g := gName 4) rfl nd (pi_tup (pv 0)) (blkOk_by (own := [("place", 4)]) (N := ["ends", "parting", "within", "way", "place"]) (sc := defScope sKept) (by decide +kernel))
        (fun _ _ _ _ _ => pg_name (i := 4) nd rfl (Or.inl rfl)) (fun _ _ _ _ _ => pts_one (pt_cmpR (inS K) (pv 4) (pv 2) (by rfl))) (fun _ _ _ _ _ => pv 4)) (pe_lst pa_nil) (nomark _))))), ?_⟩
    refine ⟨Nat.zero_le _, fun D hD => ?_⟩
    have s0 : Same H (upd H D (.lst [])) := same_new hD _
    refine ⟨_, rfl, t, rfl, ⟨_, SqT.of (s0 _ _ hT)⟩, ?_⟩
    refine for_tup (K := K) (a := t) (xs := refs as) (fun i σ H' => ∃ y3, σ = [some (.ref c), some (.ref t), some (.ref D), y3, none] ∧ Same H H' ∧ H' D = some (RowO ((ws.take i).flatMap inner))) ⟨none, rfl, s0, upd_same⟩ (fun i σ H' _ ⟨_, _, s, _⟩ => SqT.of (s _ _ hT)) ?_ ?_
    · rintro i x σ H' hx ⟨y3, rfl, sm, hD'⟩
      obtain ⟨b, hb, rfl⟩ := refs_at hx
      obtain ⟨v, hv, hbv⟩ := each.got hb
      have Wv := Pt.way v (List.mem_of_getElem? hv)
      have tk : ws.take (i + 1) = ws.take i ++ [v] := by rw [List.take_add_one, hv]; rfl
      refine ⟨_, rfl, .inl ⟨rfl, _, SqL.of hD'⟩, ?_⟩
      refine ⟨_, rfl, 1, rfl, _, rfl, -1, rfl, b, v.map V.int, rfl, SqT.of (sm _ _ hbv), not_whole v Wv.ne, fun p hp => ?_⟩
      have ne : D ≠ p := ne_of_none hD' hp
      rw [cut_inner Wv.ne]
      have l1 : ((ws.take (i + 1)).flatMap inner).length ≤ n := by
        have := ((inners_sub (ws.take (i + 1))).length_le)
        have := flat_take_len (ws := ws) (i + 1)
        have := Parting.flat_len Pt
        omega
      rw [tk, List.flatMap_append, List.length_append] at l1
      have e2 : [v].flatMap inner = inner v := by simp
      rw [e2] at l1
      refine ⟨D, p, _, _, rfl, rfl, by rw [upd_ne ne]; exact hD', SqT.of upd_same, ?_, _, rfl, fun d o e => ?_, ?_⟩
      · rw [List.length_map, List.length_map]
        exact small9 (by omega)
      · rw [upd_ne (ne_of_none e hD)]
        exact same_new hp _ _ _ (sm d o e)
      · rw [upd_same, tk, List.flatMap_append, e2]
        unfold RowO
        rw [List.map_append]
    · rintro σ H' ⟨y3, rfl, sm, hD'⟩
      have eT : ws.take (refs as).length = ws := by rw [refs_len, each.len, List.take_length]
      rw [eT] at hD'
      refine ⟨_, rfl, c, rfl, ⟨_, SqT.of (sm _ _ hC)⟩, fun D2 hD2 => ?_⟩
      refine lc_tup (K := K) (a := c) (xs := ends.map V.int) (fun i G => Lc H' D2 [] G) (Lc.start hD2) (fun i G _ c' => SqT.of (c'.same _ _ (sm _ _ hC))) ?_ ?_
      · rintro i v G hv c'
        obtain ⟨z, hz, rfl⟩ := ints_at hv
        refine ⟨rfl, _, rfl, _, rfl, D, _, rfl, .inl (SqL.of (c'.same _ _ hD')), rfl, ints_flat _, _, rfl, ?_⟩
        rw [ints_any, decide_eq_false (Kp z (List.mem_of_getElem? hz))]
        exact iteF c'
      · rintro G c'
        refine ⟨Nat.zero_le _, fun p hp => ?_⟩
        have ne : D2 ≠ p := ne_of_none c'.lst hp
        have sp : Same G (upd G p (.lst [])) := same_new hp _
        refine ⟨.list (dInts []), .list (dInts []), dp_row (xs := []) (by rw [upd_ne ne]; exact c'.lst), dp_row (xs := []) upd_same, shaped_row [], shaped_row [], ?_⟩
        rw [eqv_row, decide_eq_true rfl]
        exact q _ ((sm.trans c'.same).trans sp)
def spTieOf : Sp := fun vs H Q _ => ∃ x y : Int, vs = [.int x, .int y] ∧ ∀ p, H p = none → Q (.ref p) (upd H p (TieO (if y < x then y else x, if y > x then y else x)))
theorem ok_tieOf {f : Addr} {fd : FuncData} (F : Fun K "tie_of" "tie_of" sTieOf f fd) (T : Blt mg) : FnOk P w K mg base CX0 1 f fd ["one", "other"] spTieOf := by
  refine F.ok scTieOf (fun vs H Q E h => ?_) (fun cdv A outer s H vs Q E hr h => ?_)
  · obtain ⟨x, y, rfl, _⟩ := h
    rfl
  · obtain ⟨x, y, rfl, q⟩ := h
    refine ⟨_, pss_one (ps_ret (pe_tup (pa_cons (pe_callB (call_min2 rfl) (by rfl) T.min boot_min (pa_cons (pv 0) (pa_cons (pv 1) pa_nil))) (pa_cons (pe_callB (call_max2 rfl) (by rfl) T.max boot_max (pa_cons (pv 0) (pa_cons (pv 1) pa_nil))) pa_nil)))), ?_⟩
    exact ⟨_, rfl, _, rfl, x, y, rfl, _, rfl, _, rfl, x, y, rfl, by show 2 ≤ sizeLine; decide, fun p hp => q p hp⟩
end
end FwW

set_option Elab.async false
set_option linter.all false
set_option maxRecDepth 100000
set_option maxHeartbeats 4000000
namespace FwW
open PySem PySem.Spec PyProof.Rows L2 Fw FwX
theorem linked_at {es : List Tie} : ∀ {ws : List Int} {k : Nat} {x y : Int}, Linked es ws → ws[k]? = some x → ws[k + 1]? = some y → Adj es x y
  | [], _, _, _, _, h, _ => by simp at h
  | [_], 0, _, _, _, _, h => by simp at h
  | [_], _ + 1, _, _, _, h, _ => by simp at h
  | a :: b :: r, 0, x, y, l, h, h2 => by
    have e1 : a = x := Option.some.inj h
    have e2 : b = y := Option.some.inj h2
    rw [← e1, ← e2]
    exact l.1
  | a :: b :: r, k + 1, x, y, l, h, h2 => linked_at (ws := b :: r) l.2 h h2
theorem tie_in {n : Nat} {es : List Tie} (W : WebOk n es) {x y : Int} (h : Adj es x y) : ((if y < x then y else x, if y > x then y else x) : Tie) ∈ es := by
  rcases h with h | h
  · have b := W.bd _ h
    simp only at b
    rw [if_neg (by omega), if_pos (by omega)]
    exact h
  · have b := W.bd _ h
    simp only at b
    rw [if_pos (by omega), if_neg (by omega)]
    exact h
theorem rgV_irange (n : Nat) : rgV 0 n = (irange n).map V.int := by
  unfold rgV irange
  rw [List.map_map]
  have e : ((n : Int) - 0).toNat = n := by omega
  rw [e]
  refine List.map_congr_left fun i _ => ?_
  show V.int (0 + (i : Int)) = V.int (i : Int)
  congr 1
  omega
section
variable {P : Program} {w : World} {K : PySem.W.Frag} {mg : Str → Option Value} {base : Heap}
def spGoes : Sp := fun vs H Q _ => ∃ (a b : Addr) (n : Nat) (es : List Tie) (ws : List Int), vs = [.ref a, .ref b] ∧ WebAt H a n es ∧ WebLo n es ∧ H b = some (TupO ws) ∧ Way n es ws ∧ ∀ H', Same H H' → Q (.bl true) H'
theorem ok_goes {f f1 f2 : Addr} {fd fd1 fd2 : FuncData} (F : Fun K "goes" "goes" sGoes f fd) (T : Blt mg)
    (G1 : FnOk P w K mg base CX0 1 f1 fd1 ["thing", "least", "below"] spIsNumber) (g1 : mg "is_number" = some (.ref f1)) (k1 : PySem.W.keepIn K (.ref f1) = true) (b1 : Binds K fd1 ["thing", "least", "below"] [])
    (G2 : FnOk P w K mg base CX0 1 f2 fd2 ["one", "other"] spTieOf) (g2 : mg "tie_of" = some (.ref f2)) (k2 : PySem.W.keepIn K (.ref f2) = true) (b2 : Binds K fd2 ["one", "other"] []) :
    FnOk P w K mg base CX0 2 f fd ["web", "thing"] spGoes := by
  refine F.ok scGoes (fun vs H Q E h => ?_) (fun cdv A outer s H vs Q E hr h => ?_)
  · obtain ⟨a, b, n, es, ws, rfl, _⟩ := h
    rfl
  · obtain ⟨a, b, n, es, ws, rfl, ⟨t, hA, ts, ht, each⟩, W, hB, U, q⟩ := h
    have nd := scGoes.nd
    have h9 := W.nine
    have ul : ws.length ≤ n := length_le_n U.nd U.bd
    refine ⟨_, pss_cons (ps_if (PW.pt (pw_or (pt_not (pt_val (pe_callB call_isi (by rfl) T.isinstance boot_isinstance (pa_cons (pv 1) (pa_cons (pe_bltn (v := .ty "tuple") (by rfl) T.tuple boot_tuple rfl) pa_nil)))))
        (pw_or (pt_cmpR (op_eqD hr.units) (pv 1) (pe_tup pa_nil) (nomark _))
        (pw_or1 (pt_not (pt_val (pe_callB (cr_all rfl) (by rfl) T.all boot_all (pa_cons
          (pe_lc (own := [("one", 2)]) (g := gName 2) (tt := tYes) rfl nd (pi_tup (pv 1)) (blkOk_by (own := [("one", 2)]) (N := ["web", "thing", "one", "k"]) (sc := defScope sGoes) (by decide +kernel))
            (fun _ _ _ _ _ => pg_name (i := 2) nd rfl (Or.inl rfl)) (fun _ _ _ _ _ => pts_nil)
            (fun _ _ _ _ _ => pe_call G1 hr (by rfl) g1 k1 b1 .nil pass0 (pa_cons (pv 2) (pa_cons pe_int (pa_cons (pe_ix (ixT K) (pv 0) pe_int (fun _ _ => rfl)) pa_nil))))) pa_nil))))))))
        (pss_one (ps_ret pe_bl)) pss_nil)
      (pss_cons (ps_if (pt_cmpR op_ne (pe_lenSetT (by rfl) T.len (by rfl) T.set (pv 1)) (pe_callB call_len_seq (by rfl) T.len PySem.boot_len (pa_cons (pv 1) pa_nil)) (nomark _)) (pss_one (ps_ret pe_bl)) pss_nil)
      (pss_one (ps_ret (pe_callB (cr_all rfl) (by rfl) T.all boot_all (pa_cons
        (pe_lc (own := [("k", 3)]) (g := gName 3) (tt := tYes) rfl nd (pi_range1 (by rfl) T.range (pa_cons (pe_op op_sub (pe_callB call_len_seq (by rfl) T.len PySem.boot_len (pa_cons (pv 1) pa_nil)) pe_int) pa_nil))
          (blkOk_by (own := [("k", 3)]) (N := ["web", "thing", "one", "k"]) (sc := defScope sGoes) (by decide +kernel)) (fun _ _ _ _ _ => pg_name (i := 3) nd rfl (Or.inl rfl)) (fun _ _ _ _ _ => pts_nil)
          (fun _ _ _ _ _ => pe_cmpR (inDT K (hu65 hr)) (pe_call G2 hr (by rfl) g2 k2 b2 .nil pass0 (pa_cons (pe_ix (ixT K) (pv 1) (pv 3) (fun _ _ => rfl)) (pa_cons (pe_ix (ixT K) (pv 1) (pe_op op_add (pv 3) pe_int) (fun _ _ => rfl)) pa_nil)))
            (pe_ix (ixT K) (pv 0) pe_int (fun _ _ => rfl)) (by rfl))) pa_nil))))), ?_⟩
    have hl : (ws.map V.int).length = ws.length := List.length_map _
    refine ⟨_, rfl, _, _, _, _, _, rfl, .ty _, .base (.tup hB), kit_ty (r := true) (by decide +kernel), true, rfl, iteF ?_⟩
    refine ⟨_, rfl, Nat.zero_le _, fun p hp => ?_⟩
    have s1 : Same H (upd H p (.tup [])) := same_new hp _
    have z1 : (upd H p (.tup [])) p = some (TupO []) := upd_same
    generalize hH1 : upd H p (.tup []) = H1 at s1 z1
    refine ⟨_, _, dp_tup (s1 _ _ hB), dp_tup (xs := []) z1, shaped_tup ws, shaped_tup [], _, rfl, ?_⟩
    rw [eqv_tup, decide_eq_false U.ne]
    refine iteF ?_
    refine ⟨_, rfl, b, rfl, ⟨_, SqT.of (s1 _ _ hB)⟩, fun D hD => ?_⟩
    refine lc_tup (K := K) (a := b) (xs := ws.map V.int) (fun i G => Lc H1 D (yes i) G) (Lc.start hD) (fun i G _ c => SqT.of (c.same _ _ (s1 _ _ hB))) (fun i x G hx c => ?_) (fun G c => ?_)
    · obtain ⟨z, hz, rfl⟩ := ints_at hx
      have bd := U.bd z (List.mem_of_getElem? hz)
      refine ⟨rfl, tyes ?_⟩
      refine ⟨_, rfl, _, rfl, _, _, _, _, rfl, rfl, SqT.of (c.same _ _ (s1 _ _ hA)), atI_nat (j := 0) rfl, _, _, _, rfl, yes i, c.lst, ?_, ?_⟩
      · rw [yes_len]
        have := (List.getElem?_eq_some_iff.mp hz).1
        exact small1000 (by omega)
      · rw [decide_eq_true bd, ← yes_snoc]
        exact c.add hD _
    refine ⟨D, List.replicate (ws.map V.int).length true, rfl, SqL.of c.lst, true, by rw [yes_all], iteF ?_⟩
    have s2 := s1.trans c.same
    have hB2 : SqT K G b (ws.map V.int) := SqT.of (s2 _ _ hB)
    refine ⟨_, rfl, b, ws, rfl, hB2, U.nd, by omega, _, rfl, b, _, rfl, .inr hB2, rfl, _, rfl, ?_⟩
    rw [hl]
    refine iteNS rfl ?_
    refine ⟨_, rfl, _, _, rfl, .inr hB2, _, _, rfl, rfl, _, rfl, by rw [hl]; omega, by rw [hl]; omega, fun D2 hD2 => ?_⟩
    rw [hl, toNat_len]
    refine lc_range (lo := 0) (n := ws.length - 1) (fun i G' => Lc G D2 (yes i) G') (Lc.start hD2) (fun i G' hi c' => ?_) (fun G' c' => ?_)
    · obtain ⟨h1, e1⟩ : ∃ h : i < ws.length, ws[i]? = some ws[i] := ⟨by omega, List.getElem?_eq_getElem _⟩
      obtain ⟨h2, e2⟩ : ∃ h : i + 1 < ws.length, ws[i + 1]? = some ws[i + 1] := ⟨by omega, List.getElem?_eq_getElem _⟩
      have s3 := s2.trans c'.same
      have hB' : SqT K G' b (ws.map V.int) := SqT.of (s3 _ _ hB)
      have ad := linked_at U.lk e1 e2
      have ti := tie_in W.ok ad
      refine ⟨rfl, tyes ?_⟩
      refine ⟨_, rfl, _, rfl, _, _, _, _, rfl, rfl, hB', at_of (j := i) (by omega) (ints_get e1), _, rfl, _, rfl, _, _, rfl, rfl, _, _, _, _, rfl, rfl, hB', at_of (j := i + 1) (by omega) (ints_get e2), _, _, rfl, fun p2 hp2 => ?_⟩
      have s4 := same_new hp2 (TieO (if ws[i + 1] < ws[i] then ws[i + 1] else ws[i], if ws[i + 1] > ws[i] then ws[i + 1] else ws[i]))
      have tA := s4 _ _ (s3 _ _ hA)
      have tt := s4 _ _ (s3 _ _ ht)
      refine ⟨_, rfl, _, _, _, _, rfl, rfl, SqT.of tA, atI_nat (j := 1) rfl, dTie _, es.map dTie, dp_tie upd_same, .tup (SqT.of tt) (dpAll_ties ts es ((each.same s3).same s4)), shaped_tie _, lay_ties es, yes i, (c'.more s4).lst, ?_, ?_⟩
      · rw [yes_len]
        exact small1000 (by omega)
      · rw [any_tie, decide_eq_true ti, ← yes_snoc]
        exact (c'.more s4).add hD2 _
    · refine ⟨D2, List.replicate (ws.length - 1) true, rfl, SqL.of c'.lst, ?_⟩
      rw [yes_all]
      exact q _ (s2.trans c'.same)
def spPartsAll : Sp := fun vs H Q _ => ∃ (a t : Addr) (n : Nat) (es : List Tie) (ws : List (List Int)), vs = [.ref a, .ref t] ∧ WebAt H a n es ∧ WebLo n es ∧ TupOf TupO H t ws ∧ Parting n es ws ∧ ∀ H', Same H H' → Q (.bl true) H'
theorem Parting.count {n : Nat} {es : List Tie} {ws : List (List Int)} (P : Parting n es ws) : ws.length ≤ n := by
  have g : ∀ vs : List (List Int), (∀ v ∈ vs, v ≠ []) → vs.length ≤ vs.flatten.length := fun vs => by
    induction vs with
    | nil => intro _; exact Nat.le_refl _
    | cons v vs ih =>
      intro hv
      have q := ih fun u hu => hv u (List.mem_cons_of_mem _ hu)
      have r := List.length_pos_iff.mpr (hv v List.mem_cons_self)
      rw [List.flatten_cons, List.length_append, List.length_cons]
      omega
  have := g ws fun v hv => (P.way v hv).ne
  have := Parting.flat_len P
  omega
theorem ok_partsAll {f f1 : Addr} {fd fd1 : FuncData} (F : Fun K "parts_all" "parts_all" sPartsAll f fd) (T : Blt mg)
    (G1 : FnOk P w K mg base CX0 2 f1 fd1 ["web", "thing"] spGoes) (g1 : mg "goes" = some (.ref f1)) (k1 : PySem.W.keepIn K (.ref f1) = true) (b1 : Binds K fd1 ["web", "thing"] []) :
    FnOk P w K mg base CX0 3 f fd ["web", "thing"] spPartsAll := by
  refine F.ok scPartsAll (fun vs H Q E h => ?_) (fun cdv A outer s H vs Q E hr h => ?_)
  · obtain ⟨a, t, n, es, ws, rfl, _⟩ := h
    rfl
  · obtain ⟨a, t, n, es, ws, rfl, hA, W, ⟨as, hT, each⟩, Pt, q⟩ := h
    have nd := scPartsAll.nd
    have h9 := W.nine
    have cnt := Parting.count Pt
    refine ⟨_, pss_cons (ps_if (PW.pt (pw_or (pt_not (pt_val (pe_callB call_isi (by rfl) T.isinstance boot_isinstance (pa_cons (pv 1) (pa_cons (pe_bltn (v := .ty "tuple") (by rfl) T.tuple boot_tuple rfl) pa_nil)))))
        (pw_or1 (pt_not (pt_val (pe_callB (cr_all rfl) (by rfl) T.all boot_all (pa_cons
          (pe_lc (own := [("way", 2)]) (g := gName 2) (tt := tYes) rfl nd (pi_tup (pv 1)) (blkOk_by (own := [("way", 2)]) (N := ["web", "thing", "way", "places"]) (sc := defScope sPartsAll) (by decide +kernel))
            (fun _ _ _ _ _ => pg_name (i := 2) nd rfl (Or.inl rfl)) (fun _ _ _ _ _ => pts_nil)
            (fun _ _ _ _ _ => pe_call G1 hr (by rfl) g1 k1 b1 .nil pass0 (pa_cons (pv 0) (pa_cons (pv 2) pa_nil)))) pa_nil)))))))
        (pss_one (ps_ret pe_bl)) pss_nil)
      (pss_cons (ps_set (i := 3) nd rfl (Or.inl rfl) (pe_lst pa_nil))
      (pss_cons (ps_for PassesOwn.never rfl (pi_tup (pv 1)) (pg_name (i := 2) nd rfl (Or.inl rfl))
        (pss_one (ps_expr (pe_bm PySem.F.plainAttrs_list PySem.F.slot_list_extend PySem.F.type_list_extend mt_extT (pv 3) (pa_cons (pv 2) pa_nil)))))
      (pss_one (ps_ret (pe_cmpR (op_eqD hr.units) (pe_callB (sortedI K) (by rfl) T.sorted boot_sorted (pa_cons (pv 3) pa_nil)) (pe_listRg rfl (by rfl) T.list (prg_1 (by rfl) T.range (pe_ix ix_tup (pv 0) pe_int (fun _ _ => rfl)))) (nomark _)))))), ?_⟩
    refine ⟨_, rfl, _, _, _, _, _, rfl, .ty _, .base (.tup hT), kit_ty (r := true) (by decide +kernel), true, rfl, iteF ?_⟩
    refine ⟨_, rfl, t, rfl, ⟨_, SqT.of hT⟩, fun D hD => ?_⟩
    refine lc_tup (K := K) (a := t) (xs := refs as) (fun i G => Lc H D (yes i) G) (Lc.start hD) (fun i G _ c => SqT.of (c.same _ _ hT)) (fun i x G hx c => ?_) (fun G c => ?_)
    · obtain ⟨b, hb, rfl⟩ := refs_at hx
      obtain ⟨v, hv, hbv⟩ := each.got hb
      refine ⟨rfl, tyes ?_⟩
      refine ⟨_, rfl, _, rfl, a, b, n, es, v, rfl, hA.same c.same, W, c.same _ _ hbv, Pt.way v (List.mem_of_getElem? hv), fun G2 s2 => ?_⟩
      have c2 := c.more s2
      refine ⟨yes i, c2.lst, ?_, ?_⟩
      · rw [yes_len]
        have := (List.getElem?_eq_some_iff.mp hv).1
        exact small1000 (by omega)
      · rw [← yes_snoc]
        exact c2.add hD _
    refine ⟨D, List.replicate (refs as).length true, rfl, SqL.of c.lst, true, by rw [yes_all], iteF ?_⟩
    have s2 := c.same
    refine ⟨Nat.zero_le _, fun S hS => ?_⟩
    have s3 : Same H (upd G S (.lst [])) := s2.trans (same_new hS _)
    have hS0 := s2.free hS
    refine ⟨_, rfl, t, rfl, ⟨_, SqT.of (s3 _ _ hT)⟩, ?_⟩
    refine for_tup (K := K) (a := t) (xs := refs as) (fun i σ H' => ∃ y2, σ = [some (.ref a), some (.ref t), y2, some (.ref S)] ∧ Same H H' ∧ H' S = some (RowO (ws.take i).flatten)) ⟨none, rfl, s3, upd_same⟩ (fun i σ H' _ ⟨_, _, s, _⟩ => SqT.of (s _ _ hT)) ?_ ?_
    · rintro i x σ H' hx ⟨y2, rfl, sm, hS'⟩
      obtain ⟨b, hb, rfl⟩ := refs_at hx
      obtain ⟨v, hv, hbv⟩ := each.got hb
      have tk : ws.take (i + 1) = ws.take i ++ [v] := by rw [List.take_add_one, hv]; rfl
      have l1 := flat_take_len (ws := ws) (i + 1)
      have l2 := Parting.flat_len Pt
      rw [tk, flatten_snoc, List.length_append] at l1
      refine ⟨_, rfl, .inl ⟨rfl, _, SqL.of hS'⟩, _, rfl, S, b, _, _, rfl, rfl, hS', SqT.of (sm _ _ hbv), ?_, _, rfl, fun d o e => ?_, ?_⟩
      · rw [List.length_map, List.length_map]
        exact small9 (by omega)
      · rw [upd_ne (ne_of_none e hS0)]
        exact sm d o e
      · rw [upd_same, tk, flatten_snoc]
        unfold RowO
        rw [List.map_append]
    · rintro σ H' ⟨y2, rfl, sm, hS'⟩
      have eT : ws.take (refs as).length = ws := by rw [refs_len, each.len, List.take_length]
      rw [eT] at hS'
      refine ⟨_, rfl, S, _, rfl, SqL.of hS', fun ns p perm rise hp => ?_⟩
      have e1 := sorted_irange perm Pt.all rise
      subst e1
      have sp := same_new hp (.lst ((irange n).map V.int))
      obtain ⟨tt, hA2, _⟩ := hA.same (sm.trans sp)
      refine ⟨_, rfl, _, _, _, _, rfl, rfl, SqT.of hA2, atI_nat (j := 0) rfl, _, rfl, ⟨by omega, by omega, by omega, by omega⟩, fun r hr2 => ?_⟩
      have ne : p ≠ r := ne_of_none upd_same hr2
      rw [rgV_irange]
      have sr := same_new hr2 (.lst ((irange n).map V.int))
      refine ⟨_, _, dp_row (xs := irange n) (sr _ _ upd_same), dp_row (xs := irange n) upd_same, shaped_row _, shaped_row _, ?_⟩
      rw [eqv_row, decide_eq_true rfl]
      exact q _ ((sm.trans sp).trans sr)
def spNeedParting : Sp := fun vs H Q _ => ∃ (a t : Addr) (n : Nat) (es : List Tie) (ws : List (List Int)), vs = [.ref a, .ref t] ∧ WebAt H a n es ∧ WebLo n es ∧ TupOf TupO H t ws ∧ Parting n es ws ∧ ∀ H', Same H H' → Q .non H'
theorem ok_needParting {f f1 : Addr} {fd fd1 : FuncData} (F : Fun K "need_parting" "need_parting" sNeedParting f fd)
    (G1 : FnOk P w K mg base CX0 3 f1 fd1 ["web", "thing"] spPartsAll) (g1 : mg "parts_all" = some (.ref f1)) (k1 : PySem.W.keepIn K (.ref f1) = true) (b1 : Binds K fd1 ["web", "thing"] []) : FnOk P w K mg base CX0 4 f fd ["web", "thing"] spNeedParting := by
  refine F.ok scNeedParting (fun vs H Q E h => ?_) (fun cdv A outer s H vs Q E hr h => ?_)
  · obtain ⟨a, t, n, es, ws, rfl, _⟩ := h
    rfl
  · obtain ⟨a, t, n, es, ws, rfl, hA, W, hT, Pt, q⟩ := h
    refine ⟨_, pss_one (ps_if (pt_not (pt_val (pe_call G1 hr (by rfl) g1 k1 b1 .nil pass0 (pa_cons (pv 0) (pa_cons (pv 1) pa_nil))))) (pss_one ps_never) pss_nil), ?_⟩
    exact ⟨_, rfl, _, rfl, a, t, n, es, ws, rfl, hA, W, hT, Pt, fun H' s' => ⟨true, rfl, iteF (q H' s')⟩⟩
end
end FwW

set_option Elab.async false
set_option linter.all false
set_option maxRecDepth 100000
set_option maxHeartbeats 4000000
namespace FwW
open PySem PySem.Spec PyProof.Rows L2 Fw FwX
/-! ### order of tuples -/
theorem lex_irr : ∀ xs : List Int, HT.lexLt xs xs = false
  | [] => rfl
  | x :: xs => by rw [HT.lexLt_cons, if_pos rfl, lex_irr xs]
theorem lex_trans : ∀ {xs ys zs : List Int}, HT.lexLt xs ys = true → HT.lexLt ys zs = true → HT.lexLt xs zs = true
  | [], [], _, h, _ => by cases h
  | [], _ :: _, [], _, h => by cases h
  | [], _ :: _, _ :: _, _, _ => rfl
  | _ :: _, [], _, h, _ => by cases h
  | _ :: _, _ :: _, [], _, h => by cases h
  | x :: xs, y :: ys, z :: zs, h1, h2 => by
    rw [HT.lexLt_cons] at h1 h2 ⊢
    by_cases e1 : x = y
    · subst e1
      rw [if_pos rfl] at h1
      by_cases e2 : x = z
      · subst e2
        rw [if_pos rfl] at h2 ⊢
        exact lex_trans h1 h2
      · rw [if_neg e2] at h2 ⊢
        exact h2
    · rw [if_neg e1] at h1
      have h1 := of_decide_eq_true h1
      by_cases e2 : y = z
      · subst e2
        rw [if_neg e1]
        exact decide_eq_true h1
      · rw [if_neg e2] at h2
        have h2 := of_decide_eq_true h2
        rw [if_neg (by omega)]
        exact decide_eq_true (by omega)
/-! ### bits and bars -/
def bitsOf : List Int → Nat
  | [] => 0
  | b :: r => 2 ^ b.toNat ||| bitsOf r
theorem bitsOf_test : ∀ (l : List Int), (∀ x ∈ l, 0 ≤ x) → ∀ k : Nat, (bitsOf l).testBit k = decide ((k : Int) ∈ l)
  | [], _, k => by simp [bitsOf]
  | b :: r, h, k => by
    have hb := h b List.mem_cons_self
    rw [bitsOf, Nat.testBit_or, Nat.testBit_two_pow, bitsOf_test r (fun x hx => h x (List.mem_cons_of_mem _ hx)) k]
    by_cases e : b = k
    · have : b.toNat = k := by omega
      simp [this, e]
    · have : b.toNat ≠ k := by omega
      have e2 : ¬ (k : Int) = b := fun z => e z.symm
      simp [this, e2]
theorem bar_bits {n : Nat} {bar : List Int} (p : PlacesIn n bar) : ∃ m, m < 2 ^ n ∧ places n m = bar := by
  have h0 : ∀ x ∈ bar, 0 ≤ x := fun x hx => (p.bd x hx).1
  refine ⟨bitsOf bar, Nat.lt_pow_two_of_testBit _ fun i hi => ?_, eq_of_lt (places_lt _ _) p.lt fun x => ?_⟩
  · rw [bitsOf_test bar h0]
    refine decide_eq_false fun hm => ?_
    have := p.bd _ hm
    omega
  · rw [mem_places]
    unfold on
    rw [bitsOf_test bar h0]
    constructor
    · rintro ⟨hb, hm⟩
      have hm := of_decide_eq_true hm
      have e : ((x.toNat : Nat) : Int) = x := by omega
      rw [e] at hm
      exact hm
    · intro hx
      have b := p.bd x hx
      have e : ((x.toNat : Nat) : Int) = x := by omega
      rw [e]
      exact ⟨b, decide_eq_true hx⟩
theorem places_in (n m : Nat) : PlacesIn n (places n m) := ⟨places_lt n m, fun x hx => (mem_places.mp hx).1⟩
theorem places_zero (n : Nat) : places n 0 = [] := by
  unfold places
  rw [List.filter_eq_nil_iff]
  intro x _
  unfold on
  rw [Nat.zero_testBit]
  simp
theorem bit_on (m : Nat) (p : Int) : Builtin.bitAnd ((m : Int) / 2 ^ p.toNat) 1 = if on m p = true then 1 else 0 := by
  have e := Bits.bitAnd_mask (x := (m : Int) / 2 ^ p.toNat) 1 (Int.ediv_nonneg (by omega) (Int.le_of_lt (Int.pow_pos (by decide))))
  rw [show ((2 : Int) ^ 1 - 1) = 1 from rfl] at e
  rw [e]
  have e2 : (m : Int) / 2 ^ p.toNat = ((m / 2 ^ p.toNat : Nat) : Int) := by
    rw [Int.natCast_ediv, Int.natCast_pow]
    rfl
  rw [e2]
  unfold on
  rw [Nat.testBit_eq_decide_div_mod_eq]
  by_cases h : m / 2 ^ p.toNat % 2 = 1
  · rw [decide_eq_true h, if_pos rfl]
    omega
  · rw [decide_eq_false h, if_neg (by simp)]
    show ((m / 2 ^ p.toNat : Nat) : Int) % 2 = 0
    omega
theorem bit_test (m : Nat) (p : Int) : decide (V.int (Builtin.bitAnd ((m : Int) / 2 ^ p.toNat) 1) = V.int 1) = on m p := by
  rw [bit_on]
  cases on m p with
  | true => rfl
  | false => rfl
theorem places_snoc (i m : Nat) : places (i + 1) m = places i m ++ if on m (i : Int) = true then [(i : Int)] else [] := by
  unfold places
  rw [irange_succ, List.filter_append, List.filter_cons]
  rfl
/-- the best of the first i bars -/
structure BestTo (n : Nat) (es : List Tie) (i : Nat) (t : Int) (bar : List Int) : Prop where
  is : t = sh n es bar
  pl : PlacesIn n bar
  le : ∀ j, j < i → sh n es (places n j) ≤ t
  lex : ∀ j, j < i → sh n es (places n j) = t → HT.lexLt (places n j) bar = false
theorem BestTo.first (n : Nat) (es : List Tie) : BestTo n es 1 (sh n es (places n 0)) (places n 0) :=
  ⟨rfl, places_in n 0, fun j hj => by
    have e : j = 0 := by omega
    subst e
    exact Int.le_refl _, fun j hj _ => by
    have e : j = 0 := by omega
    subst e
    exact lex_irr _⟩
theorem BestTo.new {n : Nat} {es : List Tie} {i : Nat} {t : Int} {bar : List Int} (B : BestTo n es i t bar) (h : t < sh n es (places n i) ∨ (sh n es (places n i) = t ∧ HT.lexLt (places n i) bar = true)) : BestTo n es (i + 1) (sh n es (places n i)) (places n i) := by
  refine ⟨rfl, places_in n i, fun j hj => ?_, fun j hj e => ?_⟩
  · by_cases q : j = i
    · subst q
      exact Int.le_refl _
    · have := B.le j (by omega)
      rcases h with h | h <;> omega
  · by_cases q : j = i
    · subst q
      exact lex_irr _
    · have l := B.le j (by omega)
      rcases h with h | ⟨h1, h2⟩
      · omega
      · have z := B.lex j (by omega) (by omega)
        cases c : HT.lexLt (places n j) (places n i) with
        | false => rfl
        | true => rw [lex_trans c h2] at z; cases z
theorem BestTo.old {n : Nat} {es : List Tie} {i : Nat} {t : Int} {bar : List Int} (B : BestTo n es i t bar) (h1 : ¬ t < sh n es (places n i)) (h2 : sh n es (places n i) = t → HT.lexLt (places n i) bar = false) : BestTo n es (i + 1) t bar := by
  refine ⟨B.is, B.pl, fun j hj => ?_, fun j hj e => ?_⟩
  · by_cases q : j = i
    · subst q
      omega
    · exact B.le j (by omega)
  · by_cases q : j = i
    · subst q
      exact h2 e
    · exact B.lex j (by omega) e
/-- what best_bar tells -/
structure Best (n : Nat) (es : List Tie) (t : Int) (bar : List Int) : Prop where
  is : t = sh n es bar
  pl : PlacesIn n bar
  le : ∀ b, PlacesIn n b → sh n es b ≤ t
  lex : ∀ b, PlacesIn n b → sh n es b = t → HT.lexLt b bar = false
theorem BestTo.best {n : Nat} {es : List Tie} {t : Int} {bar : List Int} (B : BestTo n es (2 ^ n) t bar) : Best n es t bar := by
  refine ⟨B.is, B.pl, fun b hb => ?_, fun b hb e => ?_⟩
  · obtain ⟨m, hm, rfl⟩ := bar_bits hb
    exact B.le m hm
  · obtain ⟨m, hm, rfl⟩ := bar_bits hb
    exact B.lex m hm e
theorem shl_nat (n : Nat) : ((1 : Int) * 2 ^ (n : Int).toNat) = ((2 ^ n : Nat) : Int) := by
  rw [Int.one_mul, Int.toNat_natCast, Int.natCast_pow]
  rfl
theorem pow9 {n : Nat} (h : n ≤ 9) : 2 ^ n ≤ 512 := Nat.pow_le_pow_right (by decide) h
section
variable {P : Program} {w : World} {K : PySem.W.Frag} {mg : Str → Option Value} {base : Heap}
def spKeeps : Sp := fun vs H Q _ => ∃ (a c t : Addr) (n : Nat) (es : List Tie) (ends : List Int) (ws : List (List Int)), vs = [.ref a, .ref c, .ref t] ∧ WebAt H a n es ∧ WebIn n es ∧ H c = some (TupO ends) ∧ PlacesIn n ends ∧ TupOf TupO H t ws ∧ Parting n es ws ∧ Keeps ends ws ∧ ∀ H', Same H H' → Q (.bl true) H'
theorem ok_keeps {f f1 f2 f3 f4 : Addr} {fd fd1 fd2 fd3 fd4 : FuncData} (F : Fun K "keeps" "keeps" sKeeps f fd)
    (G1 : FnOk P w K mg base CX0 4 f1 fd1 ["thing"] spNeedWeb) (g1 : mg "need_web" = some (.ref f1)) (k1 : PySem.W.keepIn K (.ref f1) = true) (b1 : Binds K fd1 ["thing"] [])
    (G2 : FnOk P w K mg base CX0 3 f2 fd2 ["web", "thing"] spNeedPlaces) (g2 : mg "need_places" = some (.ref f2)) (k2 : PySem.W.keepIn K (.ref f2) = true) (b2 : Binds K fd2 ["web", "thing"] [])
    (G3 : FnOk P w K mg base CX0 4 f3 fd3 ["web", "thing"] spNeedParting) (g3 : mg "need_parting" = some (.ref f3)) (k3 : PySem.W.keepIn K (.ref f3) = true) (b3 : Binds K fd3 ["web", "thing"] [])
    (G4 : FnOk P w K mg base CX0 1 f4 fd4 ["ends", "parting"] spKept) (g4 : mg "kept" = some (.ref f4)) (k4 : PySem.W.keepIn K (.ref f4) = true) (b4 : Binds K fd4 ["ends", "parting"] []) :
    FnOk P w K mg base CX0 5 f fd ["web", "ends", "parting"] spKeeps := by
  refine F.ok scKeeps (fun vs H Q E h => ?_) (fun cdv A outer s H vs Q E hr h => ?_)
  · obtain ⟨a, c, t, n, es, ends, ws, rfl, _⟩ := h
    rfl
  · obtain ⟨a, c, t, n, es, ends, ws, rfl, hA, W, hC, pc, hT, Pt, Kp, q⟩ := h
    have hr3 := hr.mono (by decide : 3 ≤ 4)
    have hr1 := hr.mono (by decide : 1 ≤ 4)
    refine ⟨_, pss_cons (ps_expr (pe_call G1 hr (by rfl) g1 k1 b1 .nil pass0 (pa_cons (pv 0) pa_nil)))
      (pss_cons (ps_expr (pe_call G2 hr3 (by rfl) g2 k2 b2 .nil pass0 (pa_cons (pv 0) (pa_cons (pv 1) pa_nil))))
      (pss_cons (ps_expr (pe_call G3 hr (by rfl) g3 k3 b3 .nil pass0 (pa_cons (pv 0) (pa_cons (pv 2) pa_nil))))
      (pss_one (ps_ret (pe_call G4 hr1 (by rfl) g4 k4 b4 .nil pass0 (pa_cons (pv 1) (pa_cons (pv 2) pa_nil))))))), ?_⟩
    refine ⟨_, rfl, a, n, es, rfl, hA, W, fun H1 s1 => ?_⟩
    obtain ⟨u, hU, _⟩ := id hA
    have h9 := W.nine
    have pl := pc.len
    refine ⟨_, rfl, _, rfl, a, c, u, n, ends, rfl, s1 _ _ hU, s1 _ _ hC, pc, by omega, fun H2 s2 => ?_⟩
    have s12 := s1.trans s2
    refine ⟨_, rfl, _, rfl, a, t, n, es, ws, rfl, hA.same s12, W.lo, hT.same s12, Pt, fun H3 s3 => ?_⟩
    have s13 := s12.trans s3
    exact ⟨_, rfl, _, rfl, c, t, n, es, ends, ws, rfl, s13 _ _ hC, hT.same s13, Pt, h9, by omega, Kp, fun H4 s4 => q H4 (s13.trans s4)⟩
def spBarPaper : Sp := fun vs H Q _ => ∃ (a u c t b : Addr) (n : Nat) (es : List Tie) (ends bar : List Int) (ws : List (List Int)), vs = [.ref a, .ref u] ∧ WebAt H a n es ∧ WebIn n es ∧ H u = some (.tup [.ref c, .ref t, .ref b]) ∧ H c = some (TupO ends) ∧ PlacesIn n ends ∧
  TupOf TupO H t ws ∧ Parting n es ws ∧ Keeps ends ws ∧ H b = some (TupO bar) ∧ PlacesIn n bar ∧ ∀ H', Same H H' → Q (.bl (decide (sh n es bar + both bar ends = (ws.length : Int)))) H'
theorem ok_barPaper {f f1 f2 f3 f4 f5 : Addr} {fd fd1 fd2 fd3 fd4 fd5 : FuncData} (F : Fun K "is_bar_paper" "is_bar_paper" sIsBarPaper f fd) (T : Blt mg)
    (G1 : FnOk P w K mg base CX0 4 f1 fd1 ["thing"] spNeedWeb) (g1 : mg "need_web" = some (.ref f1)) (k1 : PySem.W.keepIn K (.ref f1) = true) (b1 : Binds K fd1 ["thing"] [])
    (G2 : FnOk P w K mg base CX0 2 f2 fd2 ["web", "thing"] spIsPlaces) (g2 : mg "is_places" = some (.ref f2)) (k2 : PySem.W.keepIn K (.ref f2) = true) (b2 : Binds K fd2 ["web", "thing"] [])
    (G3 : FnOk P w K mg base CX0 3 f3 fd3 ["web", "thing"] spPartsAll) (g3 : mg "parts_all" = some (.ref f3)) (k3 : PySem.W.keepIn K (.ref f3) = true) (b3 : Binds K fd3 ["web", "thing"] [])
    (G4 : FnOk P w K mg base CX0 1 f4 fd4 ["ends", "parting"] spKept) (g4 : mg "kept" = some (.ref f4)) (k4 : PySem.W.keepIn K (.ref f4) = true) (b4 : Binds K fd4 ["ends", "parting"] [])
    (G5 : FnOk P w K mg base CX0 4 f5 fd5 ["web", "ends", "bar"] spShownWith) (g5 : mg "shown_with" = some (.ref f5)) (k5 : PySem.W.keepIn K (.ref f5) = true) (b5 : Binds K fd5 ["web", "ends", "bar"] []) :
    FnOk P w K mg base CX0 5 f fd ["web", "thing"] spBarPaper := by
  refine F.ok scIsBarPaper (fun vs H Q E h => ?_) (fun cdv A outer s H vs Q E hr h => ?_)
  · obtain ⟨a, u, c, t, b, n, es, ends, bar, ws, rfl, _⟩ := h
    rfl
  · obtain ⟨a, u, c, t, b, n, es, ends, bar, ws, rfl, hA, W, hU, hC, pc, hT, Pt, Kp, hB, pb, q⟩ := h
    have nd := scIsBarPaper.nd
    have hr3 := hr.mono (by decide : 3 ≤ 4)
    have hr2 := hr.mono (by decide : 2 ≤ 4)
    have hr1 := hr.mono (by decide : 1 ≤ 4)
    refine ⟨_, pss_cons (ps_expr (pe_call G1 hr (by rfl) g1 k1 b1 .nil pass0 (pa_cons (pv 0) pa_nil)))
      (pss_cons (ps_if (PW.pt (pw_or (pt_not (pt_val (pe_callB call_isi (by rfl) T.isinstance boot_isinstance (pa_cons (pv 1) (pa_cons (pe_bltn (v := .ty "tuple") (by rfl) T.tuple boot_tuple rfl) pa_nil)))))
        (pw_or1 (pt_cmpR op_ne (pe_callB call_len_seq (by rfl) T.len PySem.boot_len (pa_cons (pv 1) pa_nil)) pe_int (nomark _))))) (pss_one (ps_ret pe_bl)) pss_nil)
      (pss_cons (ps_asg (pv 1) (pg_tup (by rfl) (pgs_cons (pg_name (i := 2) nd rfl (.inl rfl)) (pgs_cons (pg_name (i := 3) nd rfl (.inl rfl)) (pgs_cons (pg_name (i := 4) nd rfl (.inl rfl)) pgs_nil)))))
      (pss_cons (ps_if (PW.pt (pw_or (pt_not (pt_val (pe_call G2 hr2 (by rfl) g2 k2 b2 .nil pass0 (pa_cons (pv 0) (pa_cons (pv 2) pa_nil)))))
        (pw_or (pt_not (pt_val (pe_call G3 hr3 (by rfl) g3 k3 b3 .nil pass0 (pa_cons (pv 0) (pa_cons (pv 3) pa_nil)))))
        (pw_or1 (pt_not (pt_val (pe_call G2 hr2 (by rfl) g2 k2 b2 .nil pass0 (pa_cons (pv 0) (pa_cons (pv 4) pa_nil))))))))) (pss_one (ps_ret pe_bl)) pss_nil)
      (pss_one (ps_ret (pe_and (pe_call G4 hr1 (by rfl) g4 k4 b4 .nil pass0 (pa_cons (pv 2) (pa_cons (pv 3) pa_nil)))
        (pe_one (pe_cmpR op_eq (pe_call G5 hr (by rfl) g5 k5 b5 .nil pass0 (pa_cons (pv 0) (pa_cons (pv 2) (pa_cons (pv 4) pa_nil)))) (pe_callB call_len_seq (by rfl) T.len PySem.boot_len (pa_cons (pv 3) pa_nil)) (nomark _))))))))), ?_⟩
    refine ⟨_, rfl, a, n, es, rfl, hA, W, fun H1 s1 => ?_⟩
    obtain ⟨v, hV, _⟩ := id hA
    have h9 := W.nine
    have hU1 := s1 _ _ hU
    refine ⟨_, rfl, _, _, _, _, _, rfl, .ty _, .base (.tup hU1), kit_ty (r := true) (by decide +kernel), true, rfl, iteF ?_⟩
    refine ⟨_, rfl, _, _, rfl, .inr (SqT.of hU1), rfl, _, rfl, iteF ?_⟩
    refine ⟨_, rfl, u, _, rfl, SqT.of hU1, rfl, _, _, rfl, _, _, rfl, _, _, rfl, rfl, ?_⟩
    refine ⟨_, rfl, _, rfl, a, c, v, n, ends, rfl, s1 _ _ hV, s1 _ _ hC, pc, by omega, fun H2 s2 => ⟨true, rfl, iteF ?_⟩⟩
    have s12 := s1.trans s2
    refine ⟨_, rfl, _, rfl, a, t, n, es, ws, rfl, hA.same s12, W.lo, hT.same s12, Pt, fun H3 s3 => ⟨true, rfl, iteF ?_⟩⟩
    have s13 := s12.trans s3
    refine ⟨_, rfl, _, rfl, a, b, v, n, bar, rfl, s13 _ _ hV, s13 _ _ hB, pb, by omega, fun H4 s4 => ⟨true, rfl, iteF ?_⟩⟩
    have s14 := s13.trans s4
    have pl := pc.len
    have pl2 := pb.len
    refine ⟨_, rfl, _, rfl, c, t, n, es, ends, ws, rfl, s14 _ _ hC, hT.same s14, Pt, h9, by omega, Kp, fun H5 s5 => ⟨true, rfl, iteT ?_⟩⟩
    have s15 := s14.trans s5
    refine ⟨_, rfl, _, rfl, _, rfl, a, c, b, n, es, ends, bar, rfl, hA.same s15, W.lo, s15 _ _ hC, s15 _ _ hB, by omega, fun H6 s6 => ?_⟩
    have s16 := s15.trans s6
    obtain ⟨as, hT6, each⟩ := hT.same s16
    refine ⟨_, rfl, t, _, rfl, .inr (SqT.of hT6), rfl, ?_⟩
    have e : decide (V.int (sh n es bar + (both bar ends : Int)) = V.int (((refs as).length : Nat) : Int)) = decide (sh n es bar + (both bar ends : Int) = (ws.length : Int)) := by
      rw [refs_len, each.len]
      by_cases z : sh n es bar + (both bar ends : Int) = (ws.length : Int)
      · rw [decide_eq_true z, decide_eq_true (by rw [z])]
      · rw [decide_eq_false z, decide_eq_false (fun y => z (V.int.inj y))]
    show Q (.bl (decide (V.int (sh n es bar + (both bar ends : Int)) = V.int (((refs as).length : Nat) : Int)))) H6
    rw [e]
    exact q H6 s16
def spNeedSmall : Sp := fun vs H Q _ => ∃ (a : Addr) (n : Nat) (es : List Tie), vs = [.ref a] ∧ WebAt H a n es ∧ WebIn n es ∧ ∀ H', Same H H' → Q .non H'
theorem ok_needSmall {f f1 : Addr} {fd fd1 : FuncData} (F : Fun K "need_small" "need_small" sNeedSmall f fd) (T : Blt mg)
    (G1 : FnOk P w K mg base CX0 4 f1 fd1 ["thing"] spNeedWeb) (g1 : mg "need_web" = some (.ref f1)) (k1 : PySem.W.keepIn K (.ref f1) = true) (b1 : Binds K fd1 ["thing"] []) :
    FnOk P w K mg base CX0 5 f fd ["web"] spNeedSmall := by
  refine F.ok scNeedSmall (fun vs H Q E h => ?_) (fun cdv A outer s H vs Q E hr h => ?_)
  · obtain ⟨a, n, es, rfl, _⟩ := h
    rfl
  · obtain ⟨a, n, es, rfl, hA, W, q⟩ := h
    obtain ⟨tm, hm⟩ := T.tried
    refine ⟨_, pss_cons (ps_expr (pe_call G1 hr (by rfl) g1 k1 b1 .nil pass0 (pa_cons (pv 0) pa_nil)))
      (pss_one (ps_if (pt_cmpR op_gt (pe_ix ix_tup (pv 0) pe_int (fun _ _ => rfl)) (pe_glob (v := .int 10) (by rfl) hm ⟨_, rfl⟩) (nomark _)) (pss_one ps_never) pss_nil)), ?_⟩
    refine ⟨_, rfl, a, n, es, rfl, hA, W, fun H1 s1 => ?_⟩
    obtain ⟨u, hU, _⟩ := hA.same s1
    have h9 := W.nine
    refine ⟨_, rfl, _, _, _, _, rfl, rfl, SqT.of hU, atI_nat (j := 0) rfl, _, _, rfl, rfl, _, rfl, ?_⟩
    rw [decide_eq_false (by omega)]
    exact iteF (q H1 s1)
def spBestBar : Sp := fun vs H Q _ => ∃ (a : Addr) (n : Nat) (es : List Tie), vs = [.ref a] ∧ WebAt H a n es ∧ WebIn n es ∧ ∀ H' r b t bar, Same H H' → H' r = some (.tup [.int t, .ref b]) → H' b = some (TupO bar) → Best n es t bar → Q (.ref r) H'
theorem ok_bestBar {f f1 f2 : Addr} {fd fd1 fd2 : FuncData} (F : Fun K "best_bar" "best_bar" sBestBar f fd) (T : Blt mg)
    (G1 : FnOk P w K mg base CX0 4 f1 fd1 ["thing"] spNeedWeb) (g1 : mg "need_web" = some (.ref f1)) (k1 : PySem.W.keepIn K (.ref f1) = true) (b1 : Binds K fd1 ["thing"] [])
    (G2 : FnOk P w K mg base CX0 3 f2 fd2 ["web", "bar"] spShown) (g2 : mg "shown" = some (.ref f2)) (k2 : PySem.W.keepIn K (.ref f2) = true) (b2 : Binds K fd2 ["web", "bar"] []) :
    FnOk P w K mg base CX0 5 f fd ["web"] spBestBar := by
  refine F.ok scBestBar (fun vs H Q E h => ?_) (fun cdv A outer s H vs Q E hr h => ?_)
  · obtain ⟨a, n, es, rfl, _⟩ := h
    rfl
  · obtain ⟨a, n, es, rfl, hA, W, q⟩ := h
    have nd := scBestBar.nd
    have hr3 := hr.mono (by decide : 3 ≤ 4)
    obtain ⟨tm, hm⟩ := T.barred
    have h9 := W.nine
    have hp9 := pow9 h9
    refine ⟨_, pss_cons (ps_expr (pe_call G1 hr (by rfl) g1 k1 b1 .nil pass0 (pa_cons (pv 0) pa_nil)))
      (pss_cons (ps_if (pt_cmpR op_gt (pe_ix ix_tup (pv 0) pe_int (fun _ _ => rfl)) (pe_glob (v := .int 12) (by rfl) hm ⟨_, rfl⟩) (nomark _)) (pss_one ps_never) pss_nil)
      (pss_cons (ps_set (i := 1) nd rfl (Or.inl rfl) pe_non)
      (pss_cons (ps_for PassesOwn.never rfl (pi_range1 (by rfl) T.range (pa_cons (pe_op op_shl pe_int (pe_ix ix_tup (pv 0) pe_int (fun _ _ => rfl))) pa_nil)) (pg_name (i := 2) nd rfl (Or.inr rfl))
        (pss_cons (ps_set (i := 3) nd rfl (Or.inl rfl) (pe_callTy call_tuple_of (by rfl) T.tuple boot_tuple (pa_cons
          (pe_lc (own := [("place", 4)]) (g := gName 4) rfl nd (pi_range1 (by rfl) T.range (pa_cons (pe_ix ix_tup (pv 0) pe_int (fun _ _ => rfl)) pa_nil)) (blkOk_by (own := [("place", 4)]) (N := ["web", "best", "bits", "bar", "place", "told"]) (sc := defScope sBestBar) (by decide +kernel))
            (fun _ _ _ _ _ => pg_name (i := 4) nd rfl (Or.inl rfl)) (fun _ _ _ _ _ => pts_one (pt_cmpR op_eq (pe_op op_and (pe_op op_shr (pv 2) (pv 4)) pe_int) pe_int (nomark _))) (fun _ _ _ _ _ => pv 4)) pa_nil)))
        (pss_cons (ps_set (i := 5) nd rfl (Or.inl rfl) (pe_call G2 hr3 (by rfl) g2 k2 b2 .nil pass0 (pa_cons (pv 0) (pa_cons (pv 3) pa_nil))))
        (pss_one (ps_if (PW.pt (pw_or (pt_cmp (pc_isN (pv 1))) (pw_or (pt_cmpR op_gt (pv 5) (pe_ix ix_tup (pv 1) pe_int (fun _ _ => rfl)) (nomark _))
            (pw_or1 (PW.pt (pw_and (pt_cmpR op_eq (pv 5) (pe_ix ix_tup (pv 1) pe_int (fun _ _ => rfl)) (nomark _)) (pw_and1 (pt_cmpR (op_ltT hr.units0) (pv 3) (pe_ix ix_tup (pv 1) pe_int (fun _ _ => rfl)) (nomark _)))))))))
          (pss_one (ps_set (i := 1) nd rfl (Or.inl rfl) (pe_tup (pa_cons (pv 5) (pa_cons (pv 3) pa_nil))))) pss_nil)))))
      (pss_one (ps_ret (pv 1)))))), ?_⟩
    refine ⟨_, rfl, a, n, es, rfl, hA, W, fun H1 s1 => ?_⟩
    obtain ⟨u, hU, hUt⟩ := hA.same s1
    refine ⟨_, rfl, _, _, _, _, rfl, rfl, SqT.of hU, atI_nat (j := 0) rfl, _, _, rfl, rfl, _, rfl, ?_⟩
    rw [decide_eq_false (by omega)]
    refine iteF ?_
    refine ⟨_, rfl, _, _, _, _, rfl, rfl, SqT.of hU, atI_nat (j := 0) rfl, _, _, rfl, rfl, ⟨by omega, by omega, by decide⟩, _, rfl, ?_⟩
    rw [shl_nat]
    have hz : ((2 ^ n : Nat) : Int) ≤ 512 := Int.ofNat_le.mpr hp9
    have hz0 : (0 : Int) ≤ ((2 ^ n : Nat) : Int) := Int.natCast_nonneg _
    refine ⟨Int.le_trans (by decide) hz0, Int.lt_of_le_of_lt hz (by decide), ?_⟩
    rw [Int.toNat_natCast]
    refine for_range (lo := 0) (n := 2 ^ n) (fun i σ H' => ∃ y1 y2 y3 y5, σ = [some (.ref a), some y1, y2, y3, none, y5] ∧ Same H H' ∧ ((i = 0 ∧ y1 = .non) ∨ (0 < i ∧ ∃ r b t bar, y1 = .ref r ∧ H' r = some (.tup [.int t, .ref b]) ∧ H' b = some (TupO bar) ∧ BestTo n es i t bar)))
      ⟨.non, none, none, none, rfl, s1, .inl ⟨rfl, rfl⟩⟩ ?_ ?_
    · rintro i σ H' hi ⟨y1, y2, y3, y5, rfl, sm, st⟩
      have ei : (0 + (i : Int)) = (i : Int) := by omega
      rw [ei]
      obtain ⟨u', hU', _⟩ := hA.same sm
      refine ⟨_, rfl, _, _, _, _, rfl, rfl, SqT.of hU', atI_nat (j := 0) rfl, _, rfl, by omega, by omega, fun D hD => ?_⟩
      refine lc_range (lo := 0) (n := ((n : Int)).toNat) (fun j G => Lc H' D ((places j i).map V.int) G) (Lc.start hD) (fun j G hj c => ?_) (fun G c => ?_)
      · have ej : (0 + (j : Int)) = (j : Int) := by omega
        rw [ej]
        refine ⟨rfl, _, rfl, _, rfl, _, _, rfl, rfl, by omega, _, _, rfl, rfl, rfl, _, rfl, ?_⟩
        rw [bit_test, places_snoc, List.map_append]
        cases on i (j : Int) with
        | false =>
          refine iteF ?_
          rw [if_neg (by simp), List.map_nil, List.append_nil]
          exact c
        | true =>
          refine iteT ⟨_, rfl, _, c.lst, ?_, ?_⟩
          · have := places_len j i
            rw [List.length_map]
            exact small1000 (by omega)
          · rw [if_pos rfl]
            exact c.add hD _
      rw [Int.toNat_natCast] at c
      have sG := sm.trans c.same
      refine ⟨D, _, rfl, .inl ⟨SqL.of c.lst, fun p hp => ?_⟩⟩
      have sp : Same G (upd G p (.tup ((places n i).map V.int))) := same_new hp _
      have s2 := sG.trans sp
      refine ⟨_, rfl, _, rfl, a, p, n, es, places n i, rfl, hA.same s2, W.lo, upd_same, fun H3 s3 _ => ?_⟩
      have s4 := s2.trans s3
      have hp3 : H3 p = some (TupO (places n i)) := s3 _ _ upd_same
      have s5 : Same H' H3 := (c.same.trans sp).trans s3
      have fin : ∀ r, H3 r = none → BestTo n es (i + 1) (sh n es (places n i)) (places n i) → ∃ y1 y2 y3 y5, ([some (.ref a), some (.ref r), some (.int (i : Int)), some (.ref p), none, some (.int (sh n es (places n i)))] : L2.St) = [some (.ref a), some y1, y2, y3, none, y5] ∧
          Same H (upd H3 r (.tup [.int (sh n es (places n i)), .ref p])) ∧ ((i + 1 = 0 ∧ y1 = .non) ∨ (0 < i + 1 ∧ ∃ r' b t bar, y1 = .ref r' ∧ (upd H3 r (.tup [.int (sh n es (places n i)), .ref p])) r' = some (.tup [.int t, .ref b]) ∧ (upd H3 r (.tup [.int (sh n es (places n i)), .ref p])) b = some (TupO bar) ∧ BestTo n es (i + 1) t bar)) := fun r hr' B => by
        have sr := same_new hr' (.tup [.int (sh n es (places n i)), .ref p])
        exact ⟨.ref r, _, _, _, rfl, s4.trans sr, .inr ⟨by omega, r, p, _, _, rfl, upd_same, sr _ _ hp3, B⟩⟩
      rcases st with ⟨rfl, rfl⟩ | ⟨h0, r, b, t, bar, rfl, hr2, hb2, B⟩
      · refine ⟨_, rfl, true, rfl, iteT (iteT ?_)⟩
        refine ⟨_, rfl, _, rfl, by show 2 ≤ sizeLine; decide, fun r hr' => ?_⟩
        exact fin r hr' (BestTo.first n es)
      · have hr3' := s5 _ _ hr2
        have hb3' := s5 _ _ hb2
        have hS : SqT K H3 r [.int t, .ref b] := SqT.of hr3'
        refine ⟨_, rfl, false, rfl, iteF ?_⟩
        refine ⟨_, rfl, _, rfl, _, _, _, _, rfl, rfl, hS, atI_nat (j := 0) rfl, _, _, rfl, rfl, _, rfl, ?_⟩
        by_cases c1 : t < sh n es (places n i)
        · rw [decide_eq_true c1]
          refine iteT (iteT ?_)
          refine ⟨_, rfl, _, rfl, by show 2 ≤ sizeLine; decide, fun r hr' => ?_⟩
          exact fin r hr' (B.new (.inl c1))
        · rw [decide_eq_false c1]
          refine iteF ?_
          have same : BestTo n es (i + 1) t bar → ∃ y1 y2 y3 y5, ([some (.ref a), some (.ref r), some (.int (i : Int)), some (.ref p), none, some (.int (sh n es (places n i)))] : L2.St) = [some (.ref a), some y1, y2, y3, none, y5] ∧
              Same H H3 ∧ ((i + 1 = 0 ∧ y1 = .non) ∨ (0 < i + 1 ∧ ∃ r' b t bar, y1 = .ref r' ∧ H3 r' = some (.tup [.int t, .ref b]) ∧ H3 b = some (TupO bar) ∧ BestTo n es (i + 1) t bar)) := fun B' =>
            ⟨.ref r, _, _, _, rfl, s4, .inr ⟨by omega, r, b, t, bar, rfl, hr3', hb3', B'⟩⟩
          refine ⟨_, rfl, _, rfl, _, _, _, _, rfl, rfl, hS, atI_nat (j := 0) rfl, rfl, _, rfl, ?_⟩
          by_cases c2 : sh n es (places n i) = t
          · rw [decide_eq_true (by rw [c2])]
            refine iteT ?_
            refine ⟨_, rfl, _, rfl, _, _, _, _, rfl, rfl, hS, atI_nat (j := 1) rfl, p, b, places n i, bar, rfl, rfl, SqT.of hp3, SqT.of hb3', _, rfl, ?_⟩
            cases c3 : HT.lexLt (places n i) bar with
            | true =>
              refine iteT ?_
              refine ⟨_, rfl, _, rfl, by show 2 ≤ sizeLine; decide, fun r hr' => ?_⟩
              exact fin r hr' (B.new (.inr ⟨c2, c3⟩))
            | false =>
              refine iteF ?_
              exact same (B.old c1 fun _ => c3)
          · rw [decide_eq_false (fun z => c2 (V.int.inj z))]
            refine iteF ?_
            refine iteF ?_
            exact same (B.old c1 fun z => absurd z c2)
    · rintro σ H' ⟨y1, y2, y3, y5, rfl, sm, st⟩
      have h2 := Nat.two_pow_pos n
      rcases st with ⟨h0, _⟩ | ⟨h0, r, b, t, bar, rfl, hr2, hb2, B⟩
      · omega
      · exact ⟨_, rfl, q H' r b t bar sm hr2 hb2 B.best⟩
end
end FwW

set_option Elab.async false
set_option linter.all false
set_option maxRecDepth 100000
set_option maxHeartbeats 4000000
namespace FwW
open PySem PySem.Spec PyProof.Rows L2 Fw FwX
/-! ### a Trial -/
def flds (n : Nat) (b df dl : Addr) : List (Str × V) := putF "led" (.ref dl) (putF "few" (.ref df) (putF "beside" (.ref b) (putF "many" (.int n) [])))
theorem flds_len (n : Nat) (b df dl : Addr) : (flds n b df dl).length ≤ 4 := by
  unfold flds
  have h1 := length_putF "many" (.int n) []
  have h2 := length_putF "beside" (.ref b) (putF "many" (.int n) [])
  have h3 := length_putF "few" (.ref df) (putF "beside" (.ref b) (putF "many" (.int n) []))
  have h4 := length_putF "led" (.ref dl) (putF "few" (.ref df) (putF "beside" (.ref b) (putF "many" (.int n) [])))
  simp only [List.length_nil] at h1
  omega
theorem flds_led (n : Nat) (b df dl : Addr) : (flds n b df dl).lookup ("led" : Str) = some (.ref dl) := by
  unfold flds
  rw [lookup_putF, if_pos rfl]
theorem flds_few (n : Nat) (b df dl : Addr) : (flds n b df dl).lookup ("few" : Str) = some (.ref df) := by
  unfold flds
  rw [lookup_putF, if_neg (by decide +kernel), lookup_putF, if_pos rfl]
theorem flds_beside (n : Nat) (b df dl : Addr) : (flds n b df dl).lookup ("beside" : Str) = some (.ref b) := by
  unfold flds
  rw [lookup_putF, if_neg (by decide +kernel), lookup_putF, if_neg (by decide +kernel), lookup_putF, if_pos rfl]
theorem flds_many (n : Nat) (b df dl : Addr) : (flds n b df dl).lookup ("many" : Str) = some (.int n) := by
  unfold flds
  rw [lookup_putF, if_neg (by decide +kernel), lookup_putF, if_neg (by decide +kernel), lookup_putF, if_neg (by decide +kernel), lookup_putF, if_pos rfl]
theorem flds_no (n : Nat) (b df dl : Addr) {m : Str} (h1 : ¬ m = "led") (h2 : ¬ m = "few") (h3 : ¬ m = "beside") (h4 : ¬ m = "many") : (flds n b df dl).lookup m = none := by
  unfold flds
  rw [lookup_putF, if_neg h1, lookup_putF, if_neg h2, lookup_putF, if_neg h3, lookup_putF, if_neg h4]
  rfl
/-- what is kept by heart is right -/
structure FewOk (n : Nat) (xss : List (List Int)) (kf : List (Key × V)) : Prop where
  nd : (kf.map (·.1)).Nodup
  ok : ∀ k ∈ kf.map (·.1), ∃ m : Nat, k = Sum.inl (m : Int) ∧ m < 2 ^ n
  at_ : ∀ (m : Nat) v, valV kf (Sum.inl (m : Int)) = some v → v = .int (leastN n xss m)
structure LedOk (n : Nat) (xss : List (List Int)) (kl : List (List Key × V)) : Prop where
  nd : (kl.map (·.1)).Nodup
  ok : ∀ k ∈ kl.map (·.1), ∃ (m e : Nat), k = [Sum.inl (m : Int), Sum.inl (e : Int)] ∧ m < 2 ^ n ∧ e < n
  at_ : ∀ (m e : Nat) v, valV kl [Sum.inl (m : Int), Sum.inl (e : Int)] = some v → v = .int (ledN n xss m e)
theorem FewOk.len {n : Nat} {xss : List (List Int)} {kf : List (Key × V)} (h : FewOk n xss kf) (h9 : n ≤ 9) : kf.length ≤ 512 := by
  have := List.Nodup.length_le_of_subset h.nd (l₂ := (List.range (2 ^ n)).map fun m => Sum.inl ((m : Nat) : Int)) fun k hk => by
    obtain ⟨m, rfl, hm⟩ := h.ok k hk
    exact List.mem_map.mpr ⟨m, List.mem_range.mpr hm, rfl⟩
  rw [List.length_map, List.length_map, List.length_range] at this
  exact Nat.le_trans this (pow9 h9)
theorem flat_le {α β : Type} (f : α → List β) (c : Nat) : ∀ l : List α, (∀ a ∈ l, (f a).length ≤ c) → (l.flatMap f).length ≤ l.length * c
  | [], _ => by simp
  | a :: l, h => by
    have h1 := h a List.mem_cons_self
    have h2 := flat_le f c l fun b hb => h b (List.mem_cons_of_mem _ hb)
    rw [List.flatMap_cons, List.length_append, List.length_cons, Nat.succ_mul]
    omega
theorem LedOk.len {n : Nat} {xss : List (List Int)} {kl : List (List Key × V)} (h : LedOk n xss kl) (h9 : n ≤ 9) : kl.length ≤ 5000 := by
  have := List.Nodup.length_le_of_subset h.nd (l₂ := (List.range (2 ^ n)).flatMap fun m => (List.range n).map fun e => [Sum.inl ((m : Nat) : Int), Sum.inl ((e : Nat) : Int)]) fun k hk => by
    obtain ⟨m, e, rfl, hm, he⟩ := h.ok k hk
    exact List.mem_flatMap.mpr ⟨m, List.mem_range.mpr hm, List.mem_map.mpr ⟨e, List.mem_range.mpr he, rfl⟩⟩
  have q := flat_le (fun m => (List.range n).map fun e => ([Sum.inl ((m : Nat) : Int), Sum.inl ((e : Nat) : Int)] : List Key)) 9 (List.range (2 ^ n)) fun m _ => by
    rw [List.length_map, List.length_range]
    exact h9
  rw [List.length_map] at this
  rw [List.length_range] at q
  have := pow9 h9
  omega
theorem FewOk.start (n : Nat) (xss : List (List Int)) : FewOk n xss (mergeK [] [((Sum.inl 0 : Key), V.int 0)]) := by
  have e : mergeK [] [((Sum.inl 0 : Key), V.int 0)] = [((Sum.inl 0 : Key), V.int 0)] := rfl
  rw [e]
  refine ⟨by simp, fun k hk => ?_, fun m v h => ?_⟩
  · simp only [List.map_cons, List.map_nil, List.mem_singleton] at hk
    subst hk
    exact ⟨0, rfl, Nat.two_pow_pos n⟩
  · by_cases hm : m = 0
    · subst hm
      have z : valV [((Sum.inl 0 : Key), V.int 0)] (Sum.inl ((0 : Nat) : Int)) = some (.int 0) := valV_pos rfl
      rw [z] at h
      cases h
      rw [leastN_zero]
      rfl
    · have z : valV [((Sum.inl 0 : Key), V.int 0)] (Sum.inl (m : Int)) = none := by
        rw [valV_neg (fun q => hm (by have := Sum.inl.inj q; omega))]
        rfl
      rw [z] at h
      cases h
theorem FewOk.zero {n : Nat} {xss : List (List Int)} : valV (mergeK [] [((Sum.inl 0 : Key), V.int 0)]) (Sum.inl ((0 : Nat) : Int)) = some (.int 0) := valV_pos rfl
theorem putK_keys {κ : Type} [DecidableEq κ] (kvs : List (κ × V)) (k : κ) (v : V) : ((putK kvs k v).map (·.1)) = if k ∈ kvs.map (·.1) then kvs.map (·.1) else kvs.map (·.1) ++ [k] := by
  cases e : valV kvs k with
  | none =>
    rw [if_neg (valV_not e), putK_new v e, List.map_append]
    rfl
  | some y =>
    rw [if_pos (valV_in e)]
    unfold putK
    rw [valV_any, e, if_pos (show (some y).isSome = true from rfl), List.map_map]
    refine List.map_congr_left fun p _ => ?_
    show (if p.1 = k then (p.1, v) else p).1 = p.1
    split <;> rfl
theorem putK_nd {κ : Type} [DecidableEq κ] {kvs : List (κ × V)} (k : κ) (v : V) (h : (kvs.map (·.1)).Nodup) : ((putK kvs k v).map (·.1)).Nodup := by
  rw [putK_keys]
  split
  · exact h
  · exact nd_snoc h (by assumption)
theorem putK_mem {κ : Type} [DecidableEq κ] {kvs : List (κ × V)} {k j : κ} {v : V} (h : j ∈ (putK kvs k v).map (·.1)) : j ∈ kvs.map (·.1) ∨ j = k := by
  rw [putK_keys] at h
  split at h
  · exact .inl h
  · rcases List.mem_append.mp h with h | h
    · exact .inl h
    · exact .inr (List.mem_singleton.mp h)
theorem FewOk.put {n : Nat} {xss : List (List Int)} {kf : List (Key × V)} (h : FewOk n xss kf) {m : Nat} (hm : m < 2 ^ n) : FewOk n xss (putK kf (Sum.inl (m : Int)) (.int (leastN n xss m))) := by
  refine ⟨putK_nd _ _ h.nd, fun k hk => ?_, fun m' v hv => ?_⟩
  · rcases putK_mem hk with hk | hk
    · exact h.ok k hk
    · exact ⟨m, hk, hm⟩
  · rw [valV_put] at hv
    by_cases q : (Sum.inl (m' : Int) : Key) = Sum.inl (m : Int)
    · rw [if_pos q] at hv
      have e : m' = m := by have := Sum.inl.inj q; omega
      subst e
      exact (Option.some.inj hv).symm
    · rw [if_neg q] at hv
      exact h.at_ m' v hv
theorem LedOk.put {n : Nat} {xss : List (List Int)} {kl : List (List Key × V)} (h : LedOk n xss kl) {m e : Nat} (hm : m < 2 ^ n) (he : e < n) : LedOk n xss (putK kl [Sum.inl (m : Int), Sum.inl (e : Int)] (.int (ledN n xss m e))) := by
  refine ⟨putK_nd _ _ h.nd, fun k hk => ?_, fun m' e' v hv => ?_⟩
  · rcases putK_mem hk with hk | hk
    · exact h.ok k hk
    · exact ⟨m, e, hk, hm, he⟩
  · rw [valV_put] at hv
    by_cases q : ([Sum.inl (m' : Int), Sum.inl (e' : Int)] : List Key) = [Sum.inl (m : Int), Sum.inl (e : Int)]
    · rw [if_pos q] at hv
      simp only [List.cons.injEq, and_true] at q
      have e1 : m' = m := by have := Sum.inl.inj q.1; omega
      have e2 : e' = e := by have := Sum.inl.inj q.2; omega
      subst e1
      subst e2
      exact (Option.some.inj hv).symm
    · rw [if_neg q] at hv
      exact h.at_ m' e' v hv
/-- the Trial at p: its web's rows at b, its dicts at df and dl -/
structure TrialAt (C : Addr) (n : Nat) (xss : List (List Int)) (H : Hp) (p b df dl : Addr) (kf : List (Key × V)) (kl : List (List Key × V)) : Prop where
  ob : ∃ dx, H p = some (.ins C dx (flds n b df dl))
  rows : LstOf RowO H b xss
  few : H df = some (.dK kf)
  led : H dl = some (.dT kl)
  fok : FewOk n xss kf
  lok : LedOk n xss kl
  z : (valV kf (Sum.inl ((0 : Nat) : Int))).isSome = true
/-- all but the two dicts stands -/
def Kept2 (df dl : Addr) (H H' : Hp) : Prop := ∀ c o, H c = some o → c ≠ df → c ≠ dl → H' c = some o
theorem Kept2.refl (df dl : Addr) (H : Hp) : Kept2 df dl H H := fun _ _ h _ _ => h
theorem Kept2.trans {df dl : Addr} {H H1 H2 : Hp} (a : Kept2 df dl H H1) (b : Kept2 df dl H1 H2) : Kept2 df dl H H2 := fun c o h n1 n2 => b c o (a c o h n1 n2) n1 n2
theorem Kept2.of {df dl : Addr} {H H' : Hp} (s : Same H H') : Kept2 df dl H H' := fun c o h _ _ => s c o h
/-- a Trial stands, with some dicts -/
def TrialSt (C : Addr) (n : Nat) (xss : List (List Int)) (H : Hp) (p b df dl : Addr) : Prop := ∃ kf kl, TrialAt C n xss H p b df dl kf kl
section
variable {C : Addr} {n : Nat} {xss : List (List Int)} {H H' : Hp} {p b df dl : Addr} {kf : List (Key × V)} {kl : List (List Key × V)}
theorem TrialAt.same (T : TrialAt C n xss H p b df dl kf kl) (s : Same H H') : TrialAt C n xss H' p b df dl kf kl :=
  ⟨let ⟨dx, e⟩ := T.ob; ⟨dx, s _ _ e⟩, T.rows.same s, s _ _ T.few, s _ _ T.led, T.fok, T.lok, T.z⟩
theorem TrialSt.same (T : TrialSt C n xss H p b df dl) (s : Same H H') : TrialSt C n xss H' p b df dl :=
  let ⟨kf, kl, t⟩ := T
  ⟨kf, kl, t.same s⟩
theorem TrialAt.ne_few (T : TrialAt C n xss H p b df dl kf kl) {c : Addr} {o : HO} (h : H c = some o) (d : ∀ k, o ≠ .dK k) : c ≠ df := ne_of h T.few (d _)
theorem TrialAt.ne_led (T : TrialAt C n xss H p b df dl kf kl) {c : Addr} {o : HO} (h : H c = some o) (d : ∀ k, o ≠ .dT k) : c ≠ dl := ne_of h T.led (d _)
theorem TrialAt.putFew (T : TrialAt C n xss H p b df dl kf kl) {m : Nat} (hm : m < 2 ^ n) :
    TrialAt C n xss (upd H df (.dK (putK kf (Sum.inl (m : Int)) (.int (leastN n xss m))))) p b df dl (putK kf (Sum.inl (m : Int)) (.int (leastN n xss m))) kl := by
  obtain ⟨dx, e⟩ := T.ob
  obtain ⟨as, hb, each⟩ := T.rows
  have n1 : p ≠ df := T.ne_few e (fun k z => by cases z)
  have n2 : b ≠ df := T.ne_few hb (fun k z => by cases z)
  have n3 : dl ≠ df := T.ne_few T.led (fun k z => by cases z)
  refine ⟨⟨dx, by rw [upd_ne n1]; exact e⟩, ⟨as, by rw [upd_ne n2]; exact hb, ⟨each.len, fun i a x h1 h2 => ?_⟩⟩, upd_same, by rw [upd_ne n3]; exact T.led, T.fok.put hm, T.lok, ?_⟩
  · have q := each.at_ i a x h1 h2
    rw [upd_ne (T.ne_few q (fun k z => by cases z))]
    exact q
  · rw [valV_put]
    split
    · rfl
    · exact T.z
theorem TrialAt.putLed (T : TrialAt C n xss H p b df dl kf kl) {m e : Nat} (hm : m < 2 ^ n) (he : e < n) :
    TrialAt C n xss (upd H dl (.dT (putK kl [Sum.inl (m : Int), Sum.inl (e : Int)] (.int (ledN n xss m e))))) p b df dl kf (putK kl [Sum.inl (m : Int), Sum.inl (e : Int)] (.int (ledN n xss m e))) := by
  obtain ⟨dx, q⟩ := T.ob
  obtain ⟨as, hb, each⟩ := T.rows
  have n1 : p ≠ dl := T.ne_led q (fun k z => by cases z)
  have n2 : b ≠ dl := T.ne_led hb (fun k z => by cases z)
  have n3 : df ≠ dl := T.ne_led T.few (fun k z => by cases z)
  refine ⟨⟨dx, by rw [upd_ne n1]; exact q⟩, ⟨as, by rw [upd_ne n2]; exact hb, ⟨each.len, fun i a x h1 h2 => ?_⟩⟩, by rw [upd_ne n3]; exact T.few, upd_same, T.fok, T.lok.put hm he, T.z⟩
  have q := each.at_ i a x h1 h2
  rw [upd_ne (T.ne_led q (fun k z => by cases z))]
  exact q
/-- something else is written -/
theorem TrialAt.over {G : Hp} {kf1 : List (Key × V)} {kl1 : List (List Key × V)} (T1 : TrialAt C n xss H p b df dl kf1 kl1) (T : TrialAt C n xss G p b df dl kf kl) (k : Kept2 df dl H G) {D : Addr} (hD : H D = none) (o : HO) : TrialAt C n xss (upd G D o) p b df dl kf kl := by
  obtain ⟨dx1, e1⟩ := T1.ob
  obtain ⟨as, hb, each⟩ := T1.rows
  obtain ⟨dx, e⟩ := T.ob
  refine ⟨⟨dx, by rw [upd_ne (ne_of_none e1 hD)]; exact e⟩, ⟨as, ?_, each.len, fun i a x h1 h2 => ?_⟩, ?_, ?_, T.fok, T.lok, T.z⟩
  · rw [upd_ne (ne_of_none hb hD)]
    exact k _ _ hb (T1.ne_few hb (fun k z => by cases z)) (T1.ne_led hb (fun k z => by cases z))
  · have q := each.at_ i a x h1 h2
    rw [upd_ne (ne_of_none q hD)]
    exact k _ _ q (T1.ne_few q (fun k z => by cases z)) (T1.ne_led q (fun k z => by cases z))
  · rw [upd_ne (ne_of_none T1.few hD)]
    exact T.few
  · rw [upd_ne (ne_of_none T1.led hD)]
    exact T.led
theorem Kept2.over {G : Hp} (k : Kept2 df dl H G) {D : Addr} (hD : H D = none) (o : HO) : Kept2 df dl H (upd G D o) := fun c u e n1 n2 => by
  rw [upd_ne (ne_of_none e hD)]
  exact k c u e n1 n2
theorem Kept2.few {G : Hp} (k : Kept2 df dl H G) (o : HO) : Kept2 df dl H (upd G df o) := fun c u e n1 n2 => by
  rw [upd_ne n1]
  exact k c u e n1 n2
theorem Kept2.led {G : Hp} (k : Kept2 df dl H G) (o : HO) : Kept2 df dl H (upd G dl o) := fun c u e n1 n2 => by
  rw [upd_ne n2]
  exact k c u e n1 n2
end
/-- the class as the top has made it -/
structure TTxt (K : PySem.W.Frag) (mg : Str → Option Value) (C : Addr) : Prop where
  cl : Cls K C
  nM : NoAttr K C "many"
  nB : NoAttr K C "beside"
  nF : NoAttr K C "few"
  nL : NoAttr K C "led"
  mgC : mg "Trial" = some (.ref C)
theorem sub_bit {m : Nat} {p : Int} (h : on m p = true) : ((m : Int) - 1 * 2 ^ p.toNat) = ((m - 2 ^ p.toNat : Nat) : Int) := by
  have := on_le h
  rw [Int.one_mul, Int.ofNat_sub this, Int.natCast_pow]
  rfl
section
variable {P : Program} {w : World} {K : PySem.W.Frag} {mg : Str → Option Value} {base : Heap}
def spTInit (C : Addr) : Sp := fun vs H Q _ => ∃ (p dx a : Addr) (n : Nat) (es : List Tie), vs = [.ref p, .ref a] ∧ H p = some (.ins C dx []) ∧ WebAt H a n es ∧ WebLo n es ∧
  ∀ H' b df dl xss, NearOk n es xss → TrialSt C n xss H' p b df dl → H df = none → H dl = none → (∀ c o, H c = some o → c ≠ p → H' c = some o) → Q .non H'
theorem ok_tInit {f f1 C : Addr} {fd fd1 : FuncData} (F : Fun K "__init__" "Trial.__init__" sTInit f fd) (T : TTxt K mg C)
    (G : FnOk P w K mg base CX0 1 f1 fd1 ["web"] spNear) (g1 : mg "near" = some (.ref f1)) (k1 : PySem.W.keepIn K (.ref f1) = true) (b1 : Binds K fd1 ["web"] []) :
    FnOk P w K mg base CX0 2 f fd ["self", "web"] (spTInit C) := by
  refine F.ok scTInit (fun vs H Q E h => ?_) (fun cdv A outer s H vs Q E hr h => ?_)
  · obtain ⟨p, dx, a, n, es, rfl, _⟩ := h
    rfl
  · obtain ⟨p, dx, a, n, es, rfl, hp, hA, W, q⟩ := h
    refine ⟨_, pss_cons (ps_fld (pv 0) (pe_ix ix_tup (pv 1) pe_int (fun _ _ => rfl)) rfl)
      (pss_cons (ps_fld (pv 0) (pe_call G hr (by rfl) g1 k1 b1 .nil pass0 (pa_cons (pv 1) pa_nil)) rfl)
      (pss_cons (ps_fld (pv 0) (pe_disp (pps_cons pe_int pe_int pps_nil) (by rfl) (by rfl) (fun z => by cases z) (by decide)) rfl)
      (pss_one (ps_fld (pv 0) pe_dnewT rfl)))), ?_⟩
    obtain ⟨t, hT, ts, ht, each⟩ := id hA
    have pa : a ≠ p := ne_of hT hp (by intro z; cases z)
    have pt : t ≠ p := ne_of ht hp (by intro z; cases z)
    have web : ∀ fs, WebAt (upd H p (.ins C dx fs)) a n es := fun fs =>
      ⟨t, by rw [upd_ne pa]; exact hT, ts, by rw [upd_ne pt]; exact ht, each.len, fun i x e h1 h2 => by
        have z := each.at_ i x e h1 h2
        rw [upd_ne (ne_of z hp (by intro y; cases y))]
        exact z⟩
    refine ⟨_, rfl, _, _, _, _, rfl, rfl, SqT.of hT, atI_nat (j := 0) rfl, _, rfl, p, C, dx, [], rfl, hp, T.cl, T.nM, (by show 0 < 1000; decide), ?_⟩
    refine ⟨_, rfl, a, n, es, rfl, web _, W, fun H1 b xss s1 hB N => ?_⟩
    have hp1 := s1 _ _ (upd_same (H := H) (a := p))
    have l1 := length_putF "many" (V.int n) []
    simp only [List.length_nil] at l1
    refine ⟨_, rfl, p, C, dx, _, rfl, hp1, T.cl, T.nB, by omega, ?_⟩
    obtain ⟨as, hb, rows⟩ := hB
    have pb : b ≠ p := ne_of hb hp1 (by intro z; cases z)
    intro df hdf
    have n1 : p ≠ df := ne_of_none upd_same hdf
    have n2 : b ≠ df := ne_of_none (by rw [upd_ne pb]; exact hb) hdf
    refine ⟨upd_same, [(Sum.inl 0, .int 0)], rfl, by decide, ?_⟩
    rw [upd_upd]
    have l2 := length_putF "beside" (V.ref b) (putF "many" (.int n) [])
    refine ⟨_, rfl, p, C, dx, _, rfl, (by rw [upd_ne n1]; exact upd_same), T.cl, T.nF, by omega, ?_⟩
    intro dl hdl
    have n3 : p ≠ dl := ne_of_none upd_same hdl
    have n4 : df ≠ dl := ne_of_none (by rw [upd_ne n1.symm]; exact upd_same) hdl
    have n5 : b ≠ dl := ne_of_none (by rw [upd_ne pb, upd_ne n2, upd_ne pb]; exact hb) hdl
    have l3 := length_putF "few" (V.ref df) (putF "beside" (V.ref b) (putF "many" (.int n) []))
    refine ⟨_, rfl, p, C, dx, _, rfl, (by rw [upd_ne n3]; exact upd_same), T.cl, T.nL, by omega, ?_⟩
    have low : ∀ c o, H1 c = some o → c ≠ p → c ≠ df ∧ c ≠ dl := fun c o e h => by
      have d1 : c ≠ df := ne_of_none (by rw [upd_ne h]; exact e) hdf
      exact ⟨d1, ne_of_none (by rw [upd_ne h, upd_ne d1, upd_ne h]; exact e) hdl⟩
    have all : ∀ (o1 o2 o3 o4 o5 : HO) c o, H1 c = some o → c ≠ p → upd (upd (upd (upd (upd H1 p o1) df o2) p o3) dl o4) p o5 c = some o := fun o1 o2 o3 o4 o5 c o e h => by
      obtain ⟨d1, d2⟩ := low c o e h
      rw [upd_ne h, upd_ne d2, upd_ne h, upd_ne d1, upd_ne h]
      exact e
    refine q _ b df dl xss N ⟨_, [], ⟨dx, upd_same⟩, ⟨as, all _ _ _ _ _ _ _ hb pb, rows.len, fun i x row h1 h2 => ?_⟩, ?_, ?_, FewOk.start n xss, ⟨List.nodup_nil, fun k hk => by simp at hk, fun m e v hv => by simp [valV] at hv⟩, ?_⟩ ?_ ?_ (fun c o e h => ?_)
    · have z := rows.at_ i x row h1 h2
      exact all _ _ _ _ _ _ _ z (ne_of z hp1 (by intro y; cases y))
    · rw [upd_ne n1.symm, upd_ne n4, upd_ne n1.symm]
      exact upd_same
    · rw [upd_ne n3.symm]
      exact upd_same
    · rw [FewOk.zero (n := n) (xss := xss)]
      rfl
    · cases z : H df with
      | none => rfl
      | some o =>
        have h := s1 df o (by rw [upd_ne n1.symm]; exact z)
        exact absurd rfl (low df o h n1.symm).1
    · cases z : H dl with
      | none => rfl
      | some o =>
        have h := s1 dl o (by rw [upd_ne n3.symm]; exact z)
        exact absurd rfl (low dl o h n3.symm).2
    · exact all _ _ _ _ _ c o (s1 c o (by rw [upd_ne h]; exact e)) h
def spTPlaces (C : Addr) : Sp := fun vs H Q _ => ∃ (p dx b df dl : Addr) (n m : Nat), vs = [.ref p, .int m] ∧ H p = some (.ins C dx (flds n b df dl)) ∧ n ≤ 9 ∧ ∀ H' r, Same H H' → H r = none → H' r = some (RowO (places n m)) → Q (.ref r) H'
theorem ok_tPlaces {f C : Addr} {fd : FuncData} (F : Fun K "places_in" "Trial.places_in" sTPlaces f fd) (T : TTxt K mg C) (B : Blt mg) : FnOk P w K mg base CX0 1 f fd ["self", "bits"] (spTPlaces C) := by
  refine F.ok scTPlaces (fun vs H Q E h => ?_) (fun cdv A outer s H vs Q E hr h => ?_)
  · obtain ⟨p, dx, b, df, dl, n, m, rfl, _⟩ := h
    rfl
  · obtain ⟨p, dx, b, df, dl, n, m, rfl, hp, h9, q⟩ := h
    have nd := scTPlaces.nd
    refine ⟨_, pss_one (ps_ret (pe_lc (own := [("place", 2)]) (g := gName 2) rfl nd (pi_range1 (by rfl) B.range (pa_cons (pe_fld (pv 0) rfl) pa_nil)) (blkOk_by (own := [("place", 2)]) (N := ["self", "bits", "place"]) (sc := defScope sTPlaces) (by decide +kernel))
      (fun _ _ _ _ _ => pg_name (i := 2) nd rfl (Or.inl rfl)) (fun _ _ _ _ _ => pts_one (pt_cmpR op_eq (pe_op op_and (pe_op op_shr (pv 1) (pv 2)) pe_int) pe_int (nomark _))) (fun _ _ _ _ _ => pv 2))), ?_⟩
    refine ⟨_, rfl, p, C, dx, _, _, rfl, hp, T.cl, T.nM, flds_many _ _ _ _, _, rfl, by omega, by omega, fun D hD => ?_⟩
    refine lc_range (lo := 0) (n := ((n : Int)).toNat) (fun j G => Lc H D ((places j m).map V.int) G) (Lc.start hD) (fun j G hj c => ?_) (fun G c => ?_)
    · have ej : (0 + (j : Int)) = (j : Int) := by omega
      rw [ej]
      refine ⟨rfl, _, rfl, _, rfl, _, _, rfl, rfl, by omega, _, _, rfl, rfl, rfl, _, rfl, ?_⟩
      rw [bit_test, places_snoc, List.map_append]
      cases on m (j : Int) with
      | false =>
        refine iteF ?_
        rw [if_neg (by simp), List.map_nil, List.append_nil]
        exact c
      | true =>
        refine iteT ⟨_, rfl, _, c.lst, ?_, ?_⟩
        · have := places_len j m
          rw [List.length_map]
          exact small1000 (by omega)
        · rw [if_pos rfl]
          exact c.add hD _
    · rw [Int.toNat_natCast] at c
      exact q G D c.same hD c.lst
end
end FwW

set_option Elab.async false
set_option linter.all false
set_option maxRecDepth 100000
set_option maxHeartbeats 4000000
namespace FwW
open PySem PySem.Spec PyProof.Rows L2 Fw FwX
def spTLeast (C : Addr) (k : Nat) : Sp := fun vs H Q _ => ∃ (p b df dl : Addr) (n m : Nat) (xss : List (List Int)) (kf : List (Key × V)) (kl : List (List Key × V)), vs = [.ref p, .int m] ∧ TrialAt C n xss H p b df dl kf kl ∧ RowsOk n xss ∧ m < 2 ^ n ∧ (places n m).length < k ∧
  ∀ H', TrialSt C n xss H' p b df dl → Kept2 df dl H H' → Q (.int (leastN n xss m)) H'
def spTLed (C : Addr) (k : Nat) : Sp := fun vs H Q _ => ∃ (p b df dl : Addr) (n m e : Nat) (xss : List (List Int)) (kf : List (Key × V)) (kl : List (List Key × V)), vs = [.ref p, .int m, .int e] ∧ TrialAt C n xss H p b df dl kf kl ∧ RowsOk n xss ∧ m < 2 ^ n ∧ e < n ∧ (places n m).length < k ∧
  ∀ H', TrialSt C n xss H' p b df dl → Kept2 df dl H H' → Q (.int (ledN n xss m e)) H'
theorem nat_ints (l : List Nat) : l.map (fun k => V.int ((k : Nat) : Int)) = (l.map fun k => ((k : Nat) : Int)).map V.int := by rw [List.map_map]; rfl
section
variable {P : Program} {w : World} {K : PySem.W.Frag} {mg : Str → Option Value} {base : Heap}
/-- where the methods stand -/
structure TMeths (K : PySem.W.Frag) (C : Addr) (fP fF fL : Addr) (dP dF dL : FuncData) : Prop where
  mP : Meth K C "places_in" fP
  mF : Meth K C "least_for" fF
  mL : Meth K C "led_on" fL
  bP : Binds K dP ["self", "bits"] []
  bF : Binds K dF ["self", "bits"] []
  bL : Binds K dL ["self", "bits", "end"] []
theorem ok_tLeast {fP fF fL C : Addr} {dP dF dL : FuncData} {j k : Nat} (F : Fun K "least_for" "Trial.least_for" sTLeast fF dF) (T : TTxt K mg C) (B : Blt mg) (M : TMeths K C fP fF fL dP dF dL) (hj : 1 ≤ j)
    (GP : FnOk P w K mg base CX0 1 fP dP ["self", "bits"] (spTPlaces C)) (GL : FnOk P w K mg base CX0 j fL dL ["self", "bits", "end"] (spTLed C k)) :
    FnOk P w K mg base CX0 (j + 1) fF dF ["self", "bits"] (spTLeast C (k + 1)) := by
  refine F.ok scTLeast (fun vs H Q E h => ?_) (fun cdv A outer s H vs Q E hr h => ?_)
  · obtain ⟨p, b, df, dl, n, m, xss, kf, kl, rfl, _⟩ := h
    rfl
  · obtain ⟨p, b, df, dl, n, m, xss, kf, kl, rfl, U, R, hm, hk, q⟩ := h
    have nd := scTLeast.nd
    have hu := hu_of hr
    have hr1 := hr.mono hj
    have h9 := R.nine
    obtain ⟨dx, hp⟩ := U.ob
    refine ⟨_, pss_cons (ps_if (pt_cmp (pc_dnotin hu (pv 1) (pe_fld (pv 0) rfl)))
        (pss_cons (ps_setLc (i := 2) (own := [("place", 3)]) (g := gName 3) (tt := tYes) rfl nd rfl rfl (sw_true rfl rfl rfl (by decide +kernel)) (pi_list (pe_meth (pv 0) T.cl M.mP GP hr1 M.bP .nil pass0 (pa_cons (pv 1) pa_nil)))
          (blkOk_by (own := [("place", 3)]) (N := ["self", "bits", "some", "place"]) (sc := defScope sTLeast) (by decide +kernel)) (fun _ _ _ _ _ => pg_name (i := 3) nd rfl (Or.inl rfl)) (fun _ _ _ _ _ => pts_nil)
          (fun _ _ _ _ _ => pe_meth (pv 0) T.cl M.mL GL hr M.bL .nil pass0 (pa_cons (pe_op op_sub (pv 1) (pe_op op_shl pe_int (pv 3))) (pa_cons (pv 3) pa_nil))))
        (pss_one (ps_dput hu (pe_fld (pv 0) rfl) (pv 1) (pe_op op_add pe_int (pe_callB (cr_min rfl) (by rfl) B.min boot_min (pa_cons (pv 2) pa_nil))) rfl))) pss_nil)
      (pss_one (ps_ret (pe_dget hu (pe_fld (pv 0) rfl) (pv 1) (fun _ _ => rfl)))), ?_⟩
    refine ⟨_, rfl, _, rfl, p, C, dx, _, _, rfl, hp, T.cl, T.nF, flds_few _ _ _ _, df, _, rfl, DGet.k (k := Sum.inl (m : Int)) U.few, _, rfl, ?_⟩
    cases e : valV kf (Sum.inl (m : Int) : Key) with
    | some v =>
      refine iteF ?_
      have ev := U.fok.at_ m v e
      refine ⟨_, rfl, p, C, dx, _, _, rfl, hp, T.cl, T.nF, flds_few _ _ _ _, _, rfl, df, v, rfl, e ▸ DGet.k (k := Sum.inl (m : Int)) U.few, ?_⟩
      rw [ev]
      exact q H ⟨kf, kl, U⟩ (Kept2.refl _ _ _)
    | none =>
      refine iteT ?_
      have m0 : m ≠ 0 := fun z => by
        subst z
        have := U.z
        rw [e] at this
        cases this
      refine ⟨_, rfl, p, dx, _, rfl, hp, flds_no _ _ _ _ (by decide +kernel) (by decide +kernel) (by decide +kernel) (by decide +kernel), _, rfl, p, dx, b, df, dl, n, m, rfl, hp, h9, fun H1 r s1 hr0 hr' => ?_⟩
      have U1 := U.same s1
      have rf : r ≠ df := U1.ne_few hr' (fun k z => by cases z)
      have rl : r ≠ dl := U1.ne_led hr' (fun k z => by cases z)
      refine ⟨r, rfl, ⟨_, SqL.of hr'⟩, fun D hD => ?_⟩
      refine lc_list (K := K) (a := r) (xs := (places n m).map V.int) (fun i G => TrialSt C n xss G p b df dl ∧ Kept2 df dl H1 G ∧ G D = some (.lst (((places n m).take i).map fun x => V.int ((ledN n xss (m - 2 ^ x.toNat) x : Nat) : Int))))
        ⟨⟨kf, kl, U1.over U1 (Kept2.refl _ _ _) hD _⟩, (Kept2.refl _ _ _).over hD _, upd_same⟩ (fun i G _ ⟨_, k2, _⟩ => SqL.of (k2 _ _ hr' rf rl)) ?_ ?_
      · rintro i v G hv ⟨⟨kf2, kl2, U2⟩, k2, hG⟩
        obtain ⟨x, hx, rfl⟩ := ints_at hv
        have hxm := List.mem_of_getElem? hx
        obtain ⟨xb, xo⟩ := mem_places.mp hxm
        obtain ⟨dx2, hp2⟩ := U2.ob
        have po := places_off hxm
        have ex : ((x.toNat : Nat) : Int) = x := by omega
        refine ⟨rfl, tyes ?_⟩
        refine ⟨_, rfl, p, dx2, _, rfl, hp2, flds_no _ _ _ _ (by decide +kernel) (by decide +kernel) (by decide +kernel) (by decide +kernel), _, rfl, _, rfl, _, _, rfl, rfl, ⟨by omega, by omega, by decide⟩, _, _, rfl, rfl, _, rfl, p, b, df, dl, n, m - 2 ^ x.toNat, x.toNat, xss, kf2, kl2, ?_, U2, R, off_lt hm _, by omega, by omega, fun G2 U3 k3 => ?_⟩
        · show ([V.ref p, V.int ((m : Int) - 1 * 2 ^ x.toNat), V.int x] : List V) = _
          rw [sub_bit xo, ex]
        · obtain ⟨kf3, kl3, U3⟩ := U3
          rw [ex]
          have neF : D ≠ df := (ne_of_none U1.few hD).symm
          have neL : D ≠ dl := (ne_of_none U1.led hD).symm
          have kk := k2.trans k3
          refine ⟨_, k3 _ _ hG neF neL, ?_, ⟨kf3, kl3, U1.over U3 kk hD _⟩, kk.over hD _, ?_⟩
          · rw [List.length_map, List.length_take]
            have := places_len n m
            exact small1000 (by omega)
          · have tk : (places n m).take (i + 1) = (places n m).take i ++ [x] := by rw [List.take_add_one, hx]; rfl
            rw [upd_same, tk, List.map_append]
            rfl
      · rintro G ⟨⟨kf2, kl2, U2⟩, k2, hG⟩
        have eT : (places n m).take ((places n m).map V.int).length = places n m := by rw [List.length_map, List.take_length]
        rw [eT] at hG
        obtain ⟨dx2, hp2⟩ := U2.ob
        have eL : ((places n m).map fun x => V.int ((ledN n xss (m - 2 ^ x.toNat) x : Nat) : Int)) = (((places n m).map fun x => ledN n xss (m - 2 ^ x.toNat) x).map fun k => ((k : Nat) : Int)).map V.int := by
          rw [List.map_map, List.map_map]
          rfl
        rw [eL] at hG
        have ln := leastN_eq (n := n) (xss := xss) m0
        have pp := places_pos hm m0
        generalize hLL : ((places n m).map fun x => ledN n xss (m - 2 ^ x.toNat) x) = L at hG ln
        have neL : L ≠ [] := fun z => pp (List.map_eq_nil_iff.mp (hLL.trans z))
        refine ⟨_, rfl, D, _, rfl, SqL.of hG, ?_, fun z hz hle => ?_⟩
        · rw [List.length_map]
          exact List.length_pos_iff.mpr neL
        obtain ⟨y, hy, rfl⟩ := List.mem_map.mp hz
        have ey : y = minL L := minL_eq hy fun u hu => by
          have := hle (u : Int) (List.mem_map.mpr ⟨u, hu, rfl⟩)
          omega
        refine ⟨_, _, rfl, rfl, _, rfl, p, C, dx2, _, _, rfl, hp2, T.cl, T.nF, flds_few _ _ _ _, _, rfl, df, _, rfl, DPut.k (k := Sum.inl (m : Int)) U2.few ?_, ?_⟩
        · have := U2.fok.len h9
          exact small1000 (by omega)
        have ev : V.int (1 + (y : Int)) = V.int ((leastN n xss m : Nat) : Int) := by
          rw [ln, ← ey]
          congr 1
        have e2 : (fun i j : Int => V.int (i + j)) 1 (y : Int) = V.int ((leastN n xss m : Nat) : Int) := ev
        have U3 := U2.putFew hm
        rw [show (upd G df (.dK (putK kf2 (Sum.inl (m : Int)) ((fun i j : Int => V.int (i + j)) 1 (y : Int))))) = upd G df (.dK (putK kf2 (Sum.inl (m : Int)) (.int (leastN n xss m)))) by rw [e2]]
        obtain ⟨dx3, hp3⟩ := U3.ob
        have vv : valV (putK kf2 (Sum.inl (m : Int)) (V.int (leastN n xss m))) (Sum.inl (m : Int)) = some (V.int (leastN n xss m)) := by rw [valV_put, if_pos rfl]
        refine ⟨_, rfl, p, C, dx3, _, _, rfl, hp3, T.cl, T.nF, flds_few _ _ _ _, _, rfl, df, _, rfl, vv ▸ DGet.k (k := Sum.inl (m : Int)) U3.few, ?_⟩
        exact q _ ⟨_, _, U3⟩ (((Kept2.of s1).trans k2).few _)
theorem ok_tLed {fP fF fL C : Addr} {dP dF dL : FuncData} {j k : Nat} (F : Fun K "led_on" "Trial.led_on" sTLed fL dL) (T : TTxt K mg C) (B : Blt mg) (M : TMeths K C fP fF fL dP dF dL)
    (GF : FnOk P w K mg base CX0 (j + 1) fF dF ["self", "bits"] (spTLeast C (k + 1))) (GL : FnOk P w K mg base CX0 j fL dL ["self", "bits", "end"] (spTLed C k)) :
    FnOk P w K mg base CX0 (j + 2) fL dL ["self", "bits", "end"] (spTLed C (k + 1)) := by
  refine F.ok scTLed (fun vs H Q E h => ?_) (fun cdv A outer s H vs Q E hr h => ?_)
  · obtain ⟨p, b, df, dl, n, m, e, xss, kf, kl, rfl, _⟩ := h
    rfl
  · obtain ⟨p, b, df, dl, n, m, e, xss, kf, kl, rfl, U, R, hm, he, hk, q⟩ := h
    have nd := scTLed.nd
    have hu := hu_of hr
    have hrj := hr.mono (Nat.le_succ j)
    have h9 := R.nine
    obtain ⟨dx, hp⟩ := U.ob
    refine ⟨_, pss_cons (ps_set (i := 3) nd rfl (Or.inl rfl) (pe_tup (pa_cons (pv 1) (pa_cons (pv 2) pa_nil))))
      (pss_cons (ps_if (pt_cmp (pc_dnotin hu (pv 3) (pe_fld (pv 0) rfl)))
        (pss_cons (ps_set (i := 4) nd rfl (Or.inl rfl) (pe_meth (pv 0) T.cl M.mF GF hr M.bF .nil pass0 (pa_cons (pv 1) pa_nil)))
        (pss_cons (ps_for PassesOwn.never rfl (pi_list (pe_ix ix_list (pe_fld (pv 0) rfl) (pv 2) (fun _ _ => rfl))) (pg_name (i := 5) nd rfl (Or.inl rfl))
          (pss_one (ps_if (pt_cmpR op_eq (pe_op op_and (pe_op op_shr (pv 1) (pv 5)) pe_int) pe_int (nomark _))
            (pss_one (ps_set (i := 4) nd rfl (Or.inl rfl) (pe_callB (call_min2 rfl) (by rfl) B.min boot_min (pa_cons (pv 4) (pa_cons (pe_meth (pv 0) T.cl M.mL GL hrj M.bL .nil pass0 (pa_cons (pe_op op_sub (pv 1) (pe_op op_shl pe_int (pv 5))) (pa_cons (pv 5) pa_nil))) pa_nil))))) pss_nil)))
        (pss_one (ps_dput hu (pe_fld (pv 0) rfl) (pv 3) (pv 4) rfl)))) pss_nil)
      (pss_one (ps_ret (pe_dget hu (pe_fld (pv 0) rfl) (pv 3) (fun _ _ => rfl))))), ?_⟩
    refine ⟨_, rfl, _, rfl, by show 2 ≤ sizeLine; decide, fun c hc => ?_⟩
    have sc : Same H (upd H c (.tup [.int m, .int e])) := same_new hc _
    have hk1 : (upd H c (.tup [.int m, .int e])) c = some (.tup (([Sum.inl (m : Int), Sum.inl (e : Int)] : List Key).map kV)) := upd_same
    have U1 := U.same sc
    generalize hH1 : upd H c (.tup [.int m, .int e]) = H1 at sc hk1 U1
    have hp1 := sc _ _ hp
    refine ⟨_, rfl, _, rfl, p, C, dx, _, _, rfl, hp1, T.cl, T.nL, flds_led _ _ _ _, dl, _, rfl, DGet.t U1.led hk1, _, rfl, ?_⟩
    cases ev : valV kl ([Sum.inl (m : Int), Sum.inl (e : Int)] : List Key) with
    | some v =>
      refine iteF ?_
      have ee := U1.lok.at_ m e v ev
      refine ⟨_, rfl, p, C, dx, _, _, rfl, hp1, T.cl, T.nL, flds_led _ _ _ _, _, rfl, dl, v, rfl, ev ▸ DGet.t U1.led hk1, ?_⟩
      rw [ee]
      exact q H1 ⟨kf, kl, U1⟩ (Kept2.of sc)
    | none =>
      refine iteT ?_
      refine ⟨_, rfl, p, dx, _, rfl, hp1, flds_no _ _ _ _ (by decide +kernel) (by decide +kernel) (by decide +kernel) (by decide +kernel), _, rfl, p, b, df, dl, n, m, xss, kf, kl, rfl, U1, R, hm, hk, fun H2 U2 k2 => ?_⟩
      obtain ⟨kf2, kl2, U2⟩ := U2
      obtain ⟨dx2, hp2⟩ := U2.ob
      obtain ⟨as, hb, each⟩ := U2.rows
      have lx := R.sy.1
      obtain ⟨row, hrow⟩ : ∃ row, xss[e]? = some row := ⟨_, List.getElem?_eq_getElem (by omega)⟩
      obtain ⟨ra, hra, hrr⟩ := each.get hrow
      have rb := R.sy.2.1 row (List.mem_of_getElem? hrow)
      have rf : ra ≠ df := U2.ne_few hrr (fun k z => by cases z)
      have rl : ra ≠ dl := U2.ne_led hrr (fun k z => by cases z)
      have cf : c ≠ df := U1.ne_few hk1 (fun k z => by cases z)
      have cl : c ≠ dl := U1.ne_led hk1 (fun k z => by cases z)
      refine ⟨_, rfl, p, C, dx2, _, _, rfl, hp2, T.cl, T.nB, flds_beside _ _ _ _, _, rfl, _, _, _, _, rfl, rfl, SqL.of hb, atI_nat (refs_get hra), ra, rfl, ⟨_, SqL.of hrr⟩, ?_⟩
      refine for_list (K := K) (a := ra) (xs := row.map V.int) (fun i σ G => ∃ y, σ = [some (.ref p), some (.int m), some (.int e), some (.ref c), some (.int ((minL (leastN n xss m :: ((row.take i).filter (on m)).map fun x => ledN n xss (m - 2 ^ x.toNat) x) : Nat) : Int)), y] ∧ TrialSt C n xss G p b df dl ∧ Kept2 df dl H2 G)
        ⟨none, rfl, ⟨kf2, kl2, U2⟩, Kept2.refl _ _ _⟩ (fun i σ G _ ⟨_, _, _, k3⟩ => SqL.of (k3 _ _ hrr rf rl)) ?_ ?_
      · rintro i v σ G hv ⟨y, rfl, ⟨kf3, kl3, U3⟩, k3⟩
        obtain ⟨x, hx, rfl⟩ := ints_at hv
        have xb := rb x (List.mem_of_getElem? hx)
        have ex : ((x.toNat : Nat) : Int) = x := by omega
        have tk : row.take (i + 1) = row.take i ++ [x] := by rw [List.take_add_one, hx]; rfl
        obtain ⟨dx3, hp3⟩ := U3.ob
        refine ⟨_, rfl, _, rfl, _, _, rfl, rfl, by omega, _, _, rfl, rfl, rfl, _, rfl, ?_⟩
        rw [bit_test]
        by_cases xo : on m x = true
        · rw [xo]
          refine iteT ?_
          have po := places_off (mem_places.mpr ⟨xb, xo⟩)
          refine ⟨_, rfl, _, rfl, p, dx3, _, rfl, hp3, flds_no _ _ _ _ (by decide +kernel) (by decide +kernel) (by decide +kernel) (by decide +kernel), _, rfl, _, rfl, _, _, rfl, rfl, ⟨by omega, by omega, by decide⟩, _, _, rfl, rfl, _, rfl, p, b, df, dl, n, m - 2 ^ x.toNat, x.toNat, xss, kf3, kl3, ?_, U3, R, off_lt hm _, by omega, by omega, fun G2 U4 k4 => ?_⟩
          · show ([V.ref p, V.int ((m : Int) - 1 * 2 ^ x.toNat), V.int x] : List V) = _
            rw [sub_bit xo, ex]
          · rw [ex]
            refine ⟨_, _, rfl, some (.int x), ?_, U4, k3.trans k4⟩
            have fe : (row.take (i + 1)).filter (on m) = (row.take i).filter (on m) ++ [x] := by
              rw [tk, List.filter_append, List.filter_cons, if_pos xo]
              rfl
            rw [fe, List.map_append, ← List.cons_append]
            have ms := minL_snoc (l := leastN n xss m :: ((row.take i).filter (on m)).map fun x => ledN n xss (m - 2 ^ x.toNat) x) (by simp) (ledN n xss (m - 2 ^ x.toNat) x)
            rw [show ([x].map fun x => ledN n xss (m - 2 ^ x.toNat) x) = [ledN n xss (m - 2 ^ x.toNat) x] from rfl, ms]
            generalize minL (leastN n xss m :: ((row.take i).filter (on m)).map fun x => ledN n xss (m - 2 ^ x.toNat) x) = a1
            generalize ledN n xss (m - 2 ^ x.toNat) x = a2
            have em : (if (a2 : Int) < (a1 : Int) then (a2 : Int) else (a1 : Int)) = ((min a1 a2 : Nat) : Int) := by
              split <;> omega
            rw [em]
            rfl
        · have xf : on m x = false := Bool.eq_false_iff.mpr xo
          rw [xf]
          refine iteF ⟨some (.int x), ?_, ⟨kf3, kl3, U3⟩, k3⟩
          have fe : (row.take (i + 1)).filter (on m) = (row.take i).filter (on m) := by
            rw [tk, List.filter_append, List.filter_cons, if_neg xo]
            simp
          rw [fe]
          rfl
      · rintro σ G ⟨y, rfl, ⟨kf3, kl3, U3⟩, k3⟩
        have eT : row.take (row.map V.int).length = row := by rw [List.length_map, List.take_length]
        have le := ledN_eq (n := n) (m := m) (e := (e : Int)) (by rw [Int.toNat_natCast]; exact hrow)
        rw [eT, ← le]
        obtain ⟨dx3, hp3⟩ := U3.ob
        have hk3 : G c = some (.tup (([Sum.inl (m : Int), Sum.inl (e : Int)] : List Key).map kV)) := k3 _ _ (k2 _ _ hk1 cf cl) cf cl
        refine ⟨_, rfl, _, rfl, p, C, dx3, _, _, rfl, hp3, T.cl, T.nL, flds_led _ _ _ _, _, rfl, dl, _, rfl, DPut.t U3.led hk3 ?_, ?_⟩
        · have := U3.lok.len h9
          rw [sizeLine_eq]
          omega
        have U4 := U3.putLed hm he
        obtain ⟨dx4, hp4⟩ := U4.ob
        have vv : valV (putK kl3 [Sum.inl (m : Int), Sum.inl (e : Int)] (V.int (ledN n xss m e))) [Sum.inl (m : Int), Sum.inl (e : Int)] = some (V.int (ledN n xss m e)) := by rw [valV_put, if_pos rfl]
        have hk4 : (upd G dl (.dT (putK kl3 [Sum.inl (m : Int), Sum.inl (e : Int)] (V.int (ledN n xss m e))))) c = some (.tup (([Sum.inl (m : Int), Sum.inl (e : Int)] : List Key).map kV)) := by
          rw [upd_ne cl]
          exact hk3
        refine ⟨_, rfl, p, C, dx4, _, _, rfl, hp4, T.cl, T.nL, flds_led _ _ _ _, _, rfl, dl, _, rfl, vv ▸ DGet.t U4.led hk4, ?_⟩
        exact q _ ⟨_, _, U4⟩ ((((Kept2.of sc).trans k2).trans k3).led _)
theorem led_none {f C : Addr} {fd : FuncData} : FnOk P w K mg base CX0 1 f fd ["self", "bits", "end"] (spTLed C 0) := by
  have no : ∀ vs H Q E, ¬ spTLed C 0 vs H Q E := fun vs H Q E h => by
    obtain ⟨p, b, df, dl, n, m, e, xss, kf, kl, _, _, _, _, _, h0, _⟩ := h
    omega
  exact ⟨fun vs H Q E h => absurd h (no vs H Q E), fun A outer s H args us vs Q E _ _ _ _ h => absurd h (no vs H Q E)⟩
theorem led_all {fP fF fL C : Addr} {dP dF dL : FuncData} (FF : Fun K "least_for" "Trial.least_for" sTLeast fF dF) (FL : Fun K "led_on" "Trial.led_on" sTLed fL dL) (T : TTxt K mg C) (B : Blt mg) (M : TMeths K C fP fF fL dP dF dL)
    (GP : FnOk P w K mg base CX0 1 fP dP ["self", "bits"] (spTPlaces C)) : ∀ k : Nat, FnOk P w K mg base CX0 (2 * k + 1) fL dL ["self", "bits", "end"] (spTLed C k)
  | 0 => led_none
  | k + 1 => by
    have ih := led_all FF FL T B M GP k
    have GF := ok_tLeast FF T B M (by omega) GP ih
    exact ok_tLed FL T B M GF ih
theorem least_all {fP fF fL C : Addr} {dP dF dL : FuncData} (FF : Fun K "least_for" "Trial.least_for" sTLeast fF dF) (FL : Fun K "led_on" "Trial.led_on" sTLed fL dL) (T : TTxt K mg C) (B : Blt mg) (M : TMeths K C fP fF fL dP dF dL)
    (GP : FnOk P w K mg base CX0 1 fP dP ["self", "bits"] (spTPlaces C)) (k : Nat) : FnOk P w K mg base CX0 (2 * k + 2) fF dF ["self", "bits"] (spTLeast C (k + 1)) :=
  ok_tLeast FF T B M (by omega) GP (led_all FF FL T B M GP k)
end
end FwW

set_option Elab.async false
set_option linter.all false
set_option maxRecDepth 100000
set_option maxHeartbeats 4000000
namespace FwW
open PySem PySem.Spec PyProof.Rows L2 Fw FwX
theorem at_getLast {ws : List Int} {e : Int} (h : ws.getLast? = some e) : atI (ws.map V.int) (-1) = some (.int e) := by
  obtain ⟨r, rfl⟩ := List.getLast?_eq_some_iff.mp h
  rw [List.map_append]
  exact atI_last _ _
theorem filter_snoc {α : Type} (c : α → Bool) (l : List α) (x : α) : (l ++ [x]).filter c = l.filter c ++ if c x = true then [x] else [] := by
  rw [List.filter_append, List.filter_cons]
  by_cases h : c x = true
  · rw [if_pos h, if_pos h]
    rfl
  · rw [if_neg h, if_neg h]
    rfl
/-- places from which the rest is led on with so many ways -/
def leadN (n : Nat) (xss : List (List Int)) (m k : Nat) (x : Int) : Bool := decide (ledN n xss (m - 2 ^ x.toNat) x + 1 = k)
theorem lead_test {n : Nat} {xss : List (List Int)} {m k : Nat} {x : Int} (h0 : 0 ≤ x) : decide (V.int ((ledN n xss (m - 2 ^ x.toNat) ((x.toNat : Nat) : Int) : Nat) : Int) = V.int ((k : Int) - 1)) = leadN n xss m k x := by
  have ex : ((x.toNat : Nat) : Int) = x := by omega
  rw [ex]
  unfold leadN
  by_cases h : ledN n xss (m - 2 ^ x.toNat) x + 1 = k
  · rw [decide_eq_true h, decide_eq_true (by congr 1; omega)]
  · rw [decide_eq_false h, decide_eq_false fun q => h (by have := V.int.inj q; omega)]
/-- least_way's loop -/
def WaySt (C : Addr) (n : Nat) (es : List Tie) (xss : List (List Int)) (m : Nat) (H : Hp) (p b df dl D : Addr) (μ : Nat) (σ : L2.St) (G : Hp) : Prop := ∃ (m1 : Nat) (ws : List Int) (wa : Addr) (y4 y6 : Option V), μ = m1 ∧
  σ = [some (.ref p), some (.int (m1 : Nat)), some (.int ((leastN n xss m : Int) - 1)), some (.ref D), y4, some (.ref wa), y6, none] ∧ TrialSt C n xss G p b df dl ∧ Kept2 df dl H G ∧ G wa = some (TupO ws) ∧ WayTo n es xss m ws m1
section
variable {P : Program} {w : World} {K : PySem.W.Frag} {mg : Str → Option Value} {base : Heap}
def spTWay (C : Addr) : Sp := fun vs H Q _ => ∃ (p b df dl : Addr) (n m : Nat) (es : List Tie) (xss : List (List Int)) (kf : List (Key × V)) (kl : List (List Key × V)), vs = [.ref p, .int m] ∧ TrialAt C n xss H p b df dl kf kl ∧ WebLo n es ∧ NearOk n es xss ∧ m < 2 ^ n ∧ m ≠ 0 ∧
  ∀ H' r wa ws m', TrialSt C n xss H' p b df dl → Kept2 df dl H H' → H' r = some (.tup [.ref wa, .int (m' : Nat)]) → H' wa = some (TupO ws) → WayTo n es xss m ws m' → leastN n xss m' + 1 = leastN n xss m → Q (.ref r) H'
theorem ok_tWay {fP fF fL f C : Addr} {dP dF dL fd : FuncData} (F : Fun K "least_way" "Trial.least_way" sTWay f fd) (T : TTxt K mg C) (B : Blt mg) (M : TMeths K C fP fF fL dP dF dL)
    (GP : FnOk P w K mg base CX0 1 fP dP ["self", "bits"] (spTPlaces C)) (GF : FnOk P w K mg base CX0 20 fF dF ["self", "bits"] (spTLeast C 10)) (GL : FnOk P w K mg base CX0 21 fL dL ["self", "bits", "end"] (spTLed C 10)) :
    FnOk P w K mg base CX0 22 f fd ["self", "bits"] (spTWay C) := by
  refine F.ok scTWay (fun vs H Q E h => ?_) (fun cdv A outer s H vs Q E hr h => ?_)
  · obtain ⟨p, b, df, dl, n, m, es, xss, kf, kl, rfl, _⟩ := h
    rfl
  · obtain ⟨p, b, df, dl, n, m, es, xss, kf, kl, rfl, U, W, N, hm, m0, q⟩ := h
    have nd := scTWay.nd
    have hr1 := hr.mono (by decide : 1 ≤ 21)
    have hr20 := hr.mono (by decide : 20 ≤ 21)
    have h9 := W.nine
    have R := NearOk.rows N W
    obtain ⟨dx, hp⟩ := U.ob
    have ten : ∀ k : Nat, (places n k).length < 10 := fun k => by
      have := places_len n k
      omega
    refine ⟨_, pss_cons (ps_set (i := 2) nd rfl (Or.inr rfl) (pe_op op_sub (pe_meth (pv 0) T.cl M.mF GF hr20 M.bF .nil pass0 (pa_cons (pv 1) pa_nil)) pe_int))
      (pss_cons (ps_setLc (i := 3) (own := [("place", 4)]) (g := gName 4) rfl nd rfl rfl (sw_true rfl rfl rfl (by decide +kernel)) (pi_list (pe_meth (pv 0) T.cl M.mP GP hr1 M.bP .nil pass0 (pa_cons (pv 1) pa_nil))) (blkOk_by (own := [("place", 4)]) (N := ["self", "bits", "more", "starts", "place", "way", "some", "one"]) (sc := defScope sTWay) (by decide +kernel)) (fun _ _ _ _ _ => pg_name (i := 4) nd rfl (Or.inl rfl))
        (fun _ _ _ _ _ => pts_one (pt_cmpR op_eq (pe_meth (pv 0) T.cl M.mL GL hr M.bL .nil pass0 (pa_cons (pe_op op_sub (pv 1) (pe_op op_shl pe_int (pv 4))) (pa_cons (pv 4) pa_nil))) (pv 2) (nomark _))) (fun _ _ _ _ _ => pv 4))
      (pss_cons (ps_set (i := 5) nd rfl (Or.inl rfl) (pe_tup (pa_cons (pe_ix ix_list (pv 3) pe_int (fun _ _ => rfl)) pa_nil)))
      (pss_cons (ps_set (i := 1) nd rfl (Or.inr rfl) (pe_op op_sub (pv 1) (pe_op op_shl pe_int (pe_ix ix_list (pv 3) pe_int (fun _ _ => rfl)))))
      (pss_cons (ps_while PassesOwn.never (pt_cmpR op_ne (pe_meth (pv 0) T.cl M.mF GF hr20 M.bF .nil pass0 (pa_cons (pv 1) pa_nil)) (pv 2) (nomark _)) (pss_cons (ps_setLc (i := 6) (own := [("place", 4)]) (g := gName 4) rfl nd rfl rfl (sw_true rfl rfl rfl (by decide +kernel)) (pi_list (pe_ix ix_list (pe_fld (pv 0) rfl) (pe_ix ix_tup (pv 5) (pe_un un_neg pe_int) (fun _ _ => rfl)) (fun _ _ => rfl))) (blkOk_by (own := [("place", 4)]) (N := ["self", "bits", "more", "starts", "place", "way", "some", "one"]) (sc := defScope sTWay) (by decide +kernel)) (fun _ _ _ _ _ => pg_name (i := 4) nd rfl (Or.inl rfl))
          (fun _ _ _ _ _ => pts_one (pt_cmpR op_eq (pe_op op_and (pe_op op_shr (pv 1) (pv 4)) pe_int) pe_int (nomark _))) (fun _ _ _ _ _ => pv 4))
      (pss_cons (ps_set (i := 4) nd rfl (Or.inl rfl) (pe_ix ix_list (pe_lc (own := [("one", 7)]) (g := gName 7) rfl nd (pi_list (pv 6)) (blkOk_by (own := [("one", 7)]) (N := ["self", "bits", "more", "starts", "place", "way", "some", "one"]) (sc := defScope sTWay) (by decide +kernel)) (fun _ _ _ _ _ => pg_name (i := 7) nd rfl (Or.inl rfl))
          (fun _ _ _ _ _ => pts_one (pt_cmpR op_eq (pe_meth (pv 0) T.cl M.mL GL hr M.bL .nil pass0 (pa_cons (pe_op op_sub (pv 1) (pe_op op_shl pe_int (pv 7))) (pa_cons (pv 7) pa_nil))) (pv 2) (nomark _))) (fun _ _ _ _ _ => pv 7)) pe_int (fun _ _ => rfl)))
      (pss_cons (ps_set (i := 5) nd rfl (Or.inl rfl) (pe_op op_catT (pv 5) (pe_tup (pa_cons (pv 4) pa_nil))))
      (pss_one (ps_set (i := 1) nd rfl (Or.inr rfl) (pe_op op_sub (pv 1) (pe_op op_shl pe_int (pv 4)))))))))
      (pss_one (ps_ret (pe_tup (pa_cons (pv 5) (pa_cons (pv 1) pa_nil))))))))), ?_⟩
    -- the comprehensions that ask led_on of each item
    have asks : ∀ (m1 : Nat) (H1 G : Hp) (D : Addr) (l : List Int) (x : Int) (i : Nat), (places n m1).length < 10 → m1 < 2 ^ n → (∃ k f, TrialAt C n xss H1 p b df dl k f) → H1 D = none → TrialSt C n xss G p b df dl → Kept2 df dl H1 G → l[i]? = some x → (0 ≤ x ∧ x < n) → on m1 x = true →
        G D = some (.lst (((l.take i).filter (leadN n xss m1 (leastN n xss m))).map V.int)) → l.length ≤ 9 →
        ∃ dx2, G p = some (.ins C dx2 (flds n b df dl)) ∧ ∃ k2 f2, TrialAt C n xss G p b df dl k2 f2 ∧ ∀ G2, TrialSt C n xss G2 p b df dl → Kept2 df dl G G2 →
          if leadN n xss m1 (leastN n xss m) x = true then ∃ acc, G2 D = some (.lst acc) ∧ acc.length < sizeLine ∧
            (TrialSt C n xss (upd G2 D (.lst (acc ++ [V.int x]))) p b df dl ∧ Kept2 df dl H1 (upd G2 D (.lst (acc ++ [V.int x]))) ∧ (upd G2 D (.lst (acc ++ [V.int x]))) D = some (.lst (((l.take (i + 1)).filter (leadN n xss m1 (leastN n xss m))).map V.int)))
          else TrialSt C n xss G2 p b df dl ∧ Kept2 df dl H1 G2 ∧ G2 D = some (.lst (((l.take (i + 1)).filter (leadN n xss m1 (leastN n xss m))).map V.int)) :=
      fun m1 H1 G D l x i ht hm1 ⟨k1, f1, U1⟩ hD ⟨k2, f2, U2⟩ k3 hx xb xo hG hl => by
        obtain ⟨dx2, hp2⟩ := U2.ob
        have neF : D ≠ df := (ne_of_none U1.few hD).symm
        have neL : D ≠ dl := (ne_of_none U1.led hD).symm
        refine ⟨dx2, hp2, k2, f2, U2, fun G2 ⟨k4, f4, U4⟩ k5 => ?_⟩
        have tk : l.take (i + 1) = l.take i ++ [x] := by rw [List.take_add_one, hx]; rfl
        have hG2 := k5 _ _ hG neF neL
        rw [tk, filter_snoc]
        cases c : leadN n xss m1 (leastN n xss m) x with
        | true =>
          refine iteT ⟨_, hG2, ?_, ⟨_, _, U1.over U4 (k3.trans k5) hD _⟩, (k3.trans k5).over hD _, ?_⟩
          · have l1 := List.length_filter_le (leadN n xss m1 (leastN n xss m)) (l.take i)
            have l2 : (l.take i).length ≤ l.length := by rw [List.length_take]; exact Nat.min_le_right _ _
            rw [List.length_map]
            exact small1000 (by omega)
          · rw [upd_same, if_pos rfl, List.map_append]
            rfl
        | false =>
          refine iteF ⟨⟨k4, f4, U4⟩, k3.trans k5, ?_⟩
          rw [if_neg (by simp), List.append_nil]
          exact hG2
    refine ⟨_, rfl, p, dx, _, rfl, hp, flds_no _ _ _ _ (by decide +kernel) (by decide +kernel) (by decide +kernel) (by decide +kernel), _, rfl, p, b, df, dl, n, m, xss, kf, kl, rfl, U, R, hm, ten m, fun H1 U1 k1 => ?_⟩
    obtain ⟨kf1, kl1, U1⟩ := U1
    obtain ⟨dx1, hp1⟩ := U1.ob
    refine ⟨_, _, rfl, rfl, ?_⟩
    -- starts
    refine ⟨_, rfl, p, dx1, _, rfl, hp1, flds_no _ _ _ _ (by decide +kernel) (by decide +kernel) (by decide +kernel) (by decide +kernel), _, rfl, p, dx1, b, df, dl, n, m, rfl, hp1, h9, fun H2 r s2 hr0 hr' => ?_⟩
    have U2 := U1.same s2
    have rf : r ≠ df := U2.ne_few hr' (fun k z => by cases z)
    have rl : r ≠ dl := U2.ne_led hr' (fun k z => by cases z)
    refine ⟨r, rfl, ⟨_, SqL.of hr'⟩, fun D hD => ?_⟩
    refine lc_list (K := K) (a := r) (xs := (places n m).map V.int) (fun i G => TrialSt C n xss G p b df dl ∧ Kept2 df dl H2 G ∧ G D = some (.lst ((((places n m).take i).filter (leadN n xss m (leastN n xss m))).map V.int)))
      ⟨⟨_, _, U2.over U2 (Kept2.refl _ _ _) hD _⟩, (Kept2.refl _ _ _).over hD _, upd_same⟩ (fun i G _ ⟨_, k2, _⟩ => SqL.of (k2 _ _ hr' rf rl)) ?_ ?_
    · rintro i v G hv ⟨U3, k3, hG⟩
      obtain ⟨x, hx, rfl⟩ := ints_at hv
      obtain ⟨xb, xo⟩ := mem_places.mp (List.mem_of_getElem? hx)
      obtain ⟨dx2, hp2, k4, f4, U4, fin⟩ := asks m H2 G D (places n m) x i (ten m) hm ⟨_, _, U2⟩ hD U3 k3 hx xb xo hG (by have := places_len n m; omega)
      refine ⟨rfl, ?_⟩
      refine ⟨_, rfl, p, dx2, _, rfl, hp2, flds_no _ _ _ _ (by decide +kernel) (by decide +kernel) (by decide +kernel) (by decide +kernel), _, rfl, _, rfl, _, _, rfl, rfl, ⟨by omega, by omega, by decide⟩, _, _, rfl, rfl, _, rfl, p, b, df, dl, n, m - 2 ^ x.toNat, x.toNat, xss, k4, f4, ?_, U4, R, off_lt hm _, by omega, ten _, fun G2 U5 k5 => ?_⟩
      · show ([V.ref p, V.int ((m : Int) - 1 * 2 ^ x.toNat), V.int x] : List V) = _
        rw [sub_bit xo, show ((x.toNat : Nat) : Int) = x by omega]
      · refine ⟨_, rfl, rfl, _, rfl, ?_⟩
        dsimp only
        rw [lead_test xb.1]
        have z := fin G2 U5 k5
        cases c : leadN n xss m (leastN n xss m) x with
        | true =>
          rw [c, if_pos rfl] at z
          exact iteT ⟨_, rfl, z⟩
        | false =>
          rw [c, if_neg (by simp)] at z
          exact iteF z
    rintro G ⟨⟨kf3, kl3, U3⟩, k3, hG⟩
    have eT : (places n m).take ((places n m).map V.int).length = places n m := by rw [List.length_map, List.take_length]
    rw [eT] at hG
    obtain ⟨p0, hp0, ep0⟩ := start_some (n := n) (xss := xss) hm m0
    have hin : p0 ∈ (places n m).filter (leadN n xss m (leastN n xss m)) := List.mem_filter.mpr ⟨hp0, decide_eq_true ep0⟩
    obtain ⟨x, rest, hS⟩ := List.exists_cons_of_ne_nil (List.ne_nil_of_mem hin)
    rw [hS] at hG
    have hx := List.mem_filter.mp (show x ∈ (places n m).filter (leadN n xss m (leastN n xss m)) by rw [hS]; exact List.mem_cons_self)
    obtain ⟨xb, xo⟩ := mem_places.mp hx.1
    have W0 : WayTo n es xss m [x] (m - 2 ^ x.toNat) := WayTo.start hm hx.1 (of_decide_eq_true hx.2)
    refine ⟨_, rfl, D, _, _, _, rfl, rfl, SqL.of hG, atI_nat (j := 0) rfl, by show 1 ≤ sizeLine; decide, fun wa hwa => ?_⟩
    have sw : Same G (upd G wa (TupO [x])) := same_new hwa _
    have hwa1 : (upd G wa (TupO [x])) wa = some (TupO [x]) := upd_same
    have kG : Kept2 df dl H G := (k1.trans (Kept2.of s2)).trans k3
    have U4 := U3.same sw
    have hG4 := sw _ _ hG
    have k4 : Kept2 df dl H (upd G wa (TupO [x])) := kG.trans (Kept2.of sw)
    refine ⟨_, rfl, _, rfl, D, _, _, _, rfl, rfl, SqL.of hG4, atI_nat (j := 0) rfl, _, _, rfl, rfl, ⟨by omega, by omega, by decide⟩, _, _, rfl, rfl, ?_⟩
    refine ⟨WaySt C n es xss m H p b df dl D, ⟨_, m - 2 ^ x.toNat, [x], wa, none, none, rfl, ?_, ⟨_, _, U4⟩, k4, hwa1, W0⟩, ?_⟩
    · dsimp only
      rw [sub_bit xo]
      rfl
    rintro m1 σ G1 ⟨_, ws, wb, y4, y6, rfl, rfl, ⟨kf5, kl5, U5⟩, k5, hwb, TW⟩
    obtain ⟨dx5, hp5⟩ := U5.ob
    refine ⟨_, rfl, p, dx5, _, rfl, hp5, flds_no _ _ _ _ (by decide +kernel) (by decide +kernel) (by decide +kernel) (by decide +kernel), _, rfl, p, b, df, dl, n, m1, xss, kf5, kl5, rfl, U5, R, TW.lt, ten m1, fun G2 U6 k6 => ?_⟩
    have wf : wb ≠ df := U5.ne_few hwb (fun k z => by cases z)
    have wl : wb ≠ dl := U5.ne_led hwb (fun k z => by cases z)
    have hwb2 := k6 _ _ hwb wf wl
    have kG2 := k5.trans k6
    refine ⟨_, rfl, rfl, _, rfl, ?_⟩
    by_cases done : leastN n xss m1 + 1 = leastN n xss m
    · refine iteNS (by congr 1; omega) ?_
      refine ⟨_, rfl, _, rfl, by show 2 ≤ sizeLine; decide, fun r hr => ?_⟩
      have sr := same_new hr (.tup [.ref wb, .int (m1 : Nat)])
      exact q _ r wb ws m1 (U6.same sr) (kG2.trans (Kept2.of sr)) upd_same (sr _ _ hwb2) TW done
    · rw [decide_eq_false (fun z => done (by have := V.int.inj z; omega))]
      refine iteT ⟨fun σ2 G2 => ∃ m2, m2 < m1 ∧ WaySt C n es xss m H p b df dl D m2 σ2 G2, fun σ2 G2 z => z, ?_⟩
      obtain ⟨kf6, kl6, U6⟩ := U6
      obtain ⟨dx6, hp6⟩ := U6.ob
      obtain ⟨as, hb, each⟩ := U6.rows
      obtain ⟨e, hlast⟩ : ∃ e, ws.getLast? = some e := ⟨_, List.getLast?_eq_getLast TW.way.ne⟩
      have eb := TW.way.bd e (List.mem_of_getLast? hlast)
      have lx := R.sy.1
      obtain ⟨row, hrow⟩ : ∃ row, xss[e.toNat]? = some row := ⟨_, List.getElem?_eq_getElem (by omega)⟩
      obtain ⟨ra, hra, hrr⟩ := each.get hrow
      have rb := R.sy.2.1 row (List.mem_of_getElem? hrow)
      have rlen := length_le_n (R.nd row (List.mem_of_getElem? hrow)) rb
      have led := TW.led e hlast
      refine ⟨_, rfl, p, C, dx6, _, _, rfl, hp6, T.cl, T.nB, flds_beside _ _ _ _, _, rfl, _, rfl, wb, _, _, _, rfl, rfl, SqT.of hwb2, at_getLast hlast, b, _, _, _, rfl, rfl, SqL.of hb, at_of (j := e.toNat) (by omega) (refs_get hra), ra, rfl, ⟨_, SqL.of hrr⟩, fun D2 hD2 => ?_⟩
      refine lc_list (K := K) (a := ra) (xs := row.map V.int) (fun i G => Lc G2 D2 (((row.take i).filter (on m1)).map V.int) G) (Lc.start hD2) (fun i G _ c => SqL.of (c.same _ _ hrr)) ?_ ?_
      · rintro i v G hv c
        obtain ⟨z, hz, rfl⟩ := ints_at hv
        have zb := rb z (List.mem_of_getElem? hz)
        have tk : row.take (i + 1) = row.take i ++ [z] := by rw [List.take_add_one, hz]; rfl
        refine ⟨rfl, _, rfl, _, rfl, _, _, rfl, rfl, by omega, _, _, rfl, rfl, rfl, _, rfl, ?_⟩
        rw [bit_test, tk, filter_snoc, List.map_append]
        cases on m1 z with
        | false =>
          refine iteF ?_
          rw [if_neg (by simp), List.map_nil, List.append_nil]
          exact c
        | true =>
          refine iteT ⟨_, rfl, _, c.lst, ?_, ?_⟩
          · have l1 := List.length_filter_le (on m1) (row.take i)
            have l2 : (row.take i).length ≤ row.length := by rw [List.length_take]; exact Nat.min_le_right _ _
            rw [List.length_map]
            exact small1000 (by omega)
          · rw [if_pos rfl]
            exact c.add hD2 _
      rintro G3 c
      have eT2 : row.take (row.map V.int).length = row := by rw [List.length_map, List.take_length]
      rw [eT2] at c
      have U7 := U6.same c.same
      have hwb3 := c.same _ _ hwb2
      have hS3 := c.lst
      have s3f : D2 ≠ df := U7.ne_few hS3 (fun k z => by cases z)
      have s3l : D2 ≠ dl := U7.ne_led hS3 (fun k z => by cases z)
      have flen : (row.filter (on m1)).length ≤ 9 := by
        have := List.length_filter_le (on m1) row
        omega
      refine ⟨_, rfl, D2, rfl, ⟨_, SqL.of hS3⟩, fun D3 hD3 => ?_⟩
      refine lc_list (K := K) (a := D2) (xs := (row.filter (on m1)).map V.int) (fun i G => TrialSt C n xss G p b df dl ∧ Kept2 df dl G3 G ∧ G D3 = some (.lst ((((row.filter (on m1)).take i).filter (leadN n xss m1 (leastN n xss m))).map V.int)))
        ⟨⟨_, _, U7.over U7 (Kept2.refl _ _ _) hD3 _⟩, (Kept2.refl _ _ _).over hD3 _, upd_same⟩ (fun i G _ ⟨_, k2, _⟩ => SqL.of (k2 _ _ hS3 s3f s3l)) ?_ ?_
      · rintro i v G hv ⟨U8, k8, hG8⟩
        obtain ⟨z, hz, rfl⟩ := ints_at hv
        obtain ⟨zr, zo⟩ := List.mem_filter.mp (List.mem_of_getElem? hz)
        have zb := rb z zr
        obtain ⟨dx2, hp2, k4, f4, U9, fin⟩ := asks m1 G3 G D3 (row.filter (on m1)) z i (ten m1) TW.lt ⟨_, _, U7⟩ hD3 U8 k8 hz zb zo hG8 flen
        refine ⟨rfl, ?_⟩
        refine ⟨_, rfl, p, dx2, _, rfl, hp2, flds_no _ _ _ _ (by decide +kernel) (by decide +kernel) (by decide +kernel) (by decide +kernel), _, rfl, _, rfl, _, _, rfl, rfl, ⟨by omega, by omega, by decide⟩, _, _, rfl, rfl, _, rfl, p, b, df, dl, n, m1 - 2 ^ z.toNat, z.toNat, xss, k4, f4, ?_, U9, R, off_lt TW.lt _, by omega, ten _, fun G5 U5 k5 => ?_⟩
        · show ([V.ref p, V.int ((m1 : Int) - 1 * 2 ^ z.toNat), V.int z] : List V) = _
          rw [sub_bit zo, show ((z.toNat : Nat) : Int) = z by omega]
        · refine ⟨_, rfl, rfl, _, rfl, ?_⟩
          dsimp only
          rw [lead_test zb.1]
          have y := fin G5 U5 k5
          cases cc : leadN n xss m1 (leastN n xss m) z with
          | true =>
            rw [cc, if_pos rfl] at y
            exact iteT ⟨_, rfl, y⟩
          | false =>
            rw [cc, if_neg (by simp)] at y
            exact iteF y
      rintro G4 ⟨⟨kf8, kl8, U8⟩, k8, hG8⟩
      have eT3 : (row.filter (on m1)).take ((row.filter (on m1)).map V.int).length = row.filter (on m1) := by rw [List.length_map, List.take_length]
      rw [eT3] at hG8
      obtain ⟨z0, hz0, ez0⟩ := led_next (n := n) (xss := xss) (m := m1) hrow (by omega)
      have hin2 : z0 ∈ (row.filter (on m1)).filter (leadN n xss m1 (leastN n xss m)) := List.mem_filter.mpr ⟨hz0, decide_eq_true (by omega)⟩
      obtain ⟨z, rest2, hS2⟩ := List.exists_cons_of_ne_nil (List.ne_nil_of_mem hin2)
      rw [hS2] at hG8
      have hz := List.mem_filter.mp (show z ∈ (row.filter (on m1)).filter (leadN n xss m1 (leastN n xss m)) by rw [hS2]; exact List.mem_cons_self)
      have zl := of_decide_eq_true hz.2
      obtain ⟨zr, zo⟩ := List.mem_filter.mp hz.1
      have zb := rb z zr
      have TW2 := TW.step W.ok N hlast hrow hz.1 (by omega)
      have hwb4 := k8 _ _ hwb3 wf wl
      refine ⟨D3, _, _, _, rfl, rfl, SqL.of hG8, atI_nat (j := 0) rfl, ?_⟩
      refine ⟨_, rfl, _, rfl, by show 1 ≤ sizeLine; decide, fun t ht => ?_⟩
      have st := same_new ht (.tup [.int z])
      have wlen := length_le_n TW.way.nd TW.way.bd
      refine ⟨wb, t, _, [.int z], rfl, rfl, SqT.of (st _ _ hwb4), SqT.of upd_same, fun y => TW.way.ne (List.map_eq_nil_iff.mp y), ?_, fun y => (by cases y), fun _ u hu => ?_⟩
      · rw [List.length_map]
        exact small9 (by show ws.length + 1 ≤ 1000; omega)
      have su := same_new hu (.tup (ws.map V.int ++ [.int z]))
      refine ⟨_, rfl, _, rfl, _, _, rfl, rfl, ⟨by omega, by omega, by decide⟩, _, _, rfl, rfl, ?_⟩
      have lt : m1 - 2 ^ z.toNat < m1 := by
        have := on_le zo
        have := Nat.two_pow_pos z.toNat
        omega
      refine ⟨m1 - 2 ^ z.toNat, lt, m1 - 2 ^ z.toNat, ws ++ [z], u, some (.int z), some (.ref D2), rfl, ?_, ⟨_, _, (U8.same st).same su⟩, ?_, ?_, TW2⟩
      · dsimp only
        rw [sub_bit zo]
        rfl
      · exact (((kG2.trans (Kept2.of c.same)).trans k8).trans (Kept2.of st)).trans (Kept2.of su)
      · rw [upd_same]
        unfold TupO
        rw [List.map_append]
        rfl
end
end FwW

set_option Elab.async false
set_option linter.all false
set_option maxRecDepth 100000
set_option maxHeartbeats 4000000
namespace FwW
open PySem PySem.Spec PyProof.Rows L2 Fw FwX
theorem full_bits (n : Nat) : (((1 : Int) * 2 ^ (n : Int).toNat) - 1) = ((2 ^ n - 1 : Nat) : Int) := by
  rw [shl_nat]
  have := Nat.two_pow_pos n
  omega
theorem full_lt (n : Nat) : 2 ^ n - 1 < 2 ^ n := by
  have := Nat.two_pow_pos n
  omega
section
variable {P : Program} {w : World} {K : PySem.W.Frag} {mg : Str → Option Value} {base : Heap}
def spFewest : Sp := fun vs H Q _ => ∃ (a : Addr) (n : Nat) (es : List Tie), vs = [.ref a] ∧ WebAt H a n es ∧ WebIn n es ∧ ∀ H' xss, Same H H' → NearOk n es xss → Q (.int (leastN n xss (2 ^ n - 1))) H'
/-- a new Trial: what stood stands -/
theorem made_same {H H1 : Hp} {x dx C : Addr} (nx : H x = none) (nd : H dx = none) (k : ∀ c o, (upd (upd H dx (.own x)) x (.ins C dx [])) c = some o → c ≠ x → H1 c = some o) : Same H H1 := Same.made nx nd k
theorem ok_fewest {f f1 fI fP fF fL C : Addr} {fd fd1 dI dP dF dL : FuncData} (F : Fun K "fewest" "fewest" sFewest f fd) (T : TTxt K mg C) (B : Blt mg) (M : TMeths K C fP fF fL dP dF dL)
    (G1 : FnOk P w K mg base CX0 5 f1 fd1 ["web"] spNeedSmall) (g1 : mg "need_small" = some (.ref f1)) (k1 : PySem.W.keepIn K (.ref f1) = true) (b1 : Binds K fd1 ["web"] [])
    (MK : Mk K C fI) (GI : FnOk P w K mg base CX0 2 fI dI ["self", "web"] (spTInit C)) (bI : Binds K dI ["self", "web"] []) (GF : FnOk P w K mg base CX0 20 fF dF ["self", "bits"] (spTLeast C 10)) :
    FnOk P w K mg base CX0 21 f fd ["web"] spFewest := by
  refine F.ok scFewest (fun vs H Q E h => ?_) (fun cdv A outer s H vs Q E hr h => ?_)
  · obtain ⟨a, n, es, rfl, _⟩ := h
    rfl
  · obtain ⟨a, n, es, rfl, hA, W, q⟩ := h
    have h9 := W.nine
    refine ⟨_, pss_cons (ps_expr (pe_call G1 (hr.mono (by decide)) (by rfl) g1 k1 b1 .nil pass0 (pa_cons (pv 0) pa_nil)))
      (pss_one (ps_ret (pe_meth (pe_make MK GI (hr.mono (by decide)) (by rfl) T.mgC bI .nil pass0 (pa_cons (pv 0) pa_nil)) T.cl M.mF GF hr M.bF .nil pass0 (pa_cons (pe_op op_sub (pe_op op_shl pe_int (pe_ix ix_tup (pv 0) pe_int (fun _ _ => rfl))) pe_int) pa_nil)))), ?_⟩
    refine ⟨_, rfl, a, n, es, rfl, hA, W, fun H1 s1 => ?_⟩
    have hA1 := hA.same s1
    refine ⟨_, rfl, fun x dx nx ndx ne => ?_⟩
    have s0 : Same H1 (upd (upd H1 dx (.own x)) x (.ins C dx [])) := fun c o e => by
      rw [upd_ne (ne_of_none e nx), upd_ne (ne_of_none e ndx)]
      exact e
    refine ⟨x, dx, a, n, es, rfl, upd_same, hA1.same s0, W.lo, fun H2 b df dl xss N U nf nl keep => ⟨rfl, ?_⟩⟩
    have s2 : Same H1 H2 := Same.made nx ndx keep
    have s12 := s1.trans s2
    obtain ⟨t, hT, _⟩ := hA.same s12
    have R := NearOk.rows N W.lo
    obtain ⟨kf, kl, U⟩ := U
    obtain ⟨dx2, hp⟩ := U.ob
    refine ⟨x, dx2, _, rfl, hp, flds_no _ _ _ _ (by decide +kernel) (by decide +kernel) (by decide +kernel) (by decide +kernel), ?_⟩
    refine ⟨_, rfl, _, _, _, _, rfl, rfl, SqT.of hT, atI_nat (j := 0) rfl, _, _, rfl, rfl, ⟨by omega, by omega, by decide⟩, _, _, rfl, rfl, x, b, df, dl, n, 2 ^ n - 1, xss, kf, kl, ?_, U, R, full_lt n, ?_, fun H3 U3 k3 => ?_⟩
    · show ([V.ref x, V.int (((1 : Int) * 2 ^ (n : Int).toNat) - 1)] : List V) = _
      rw [full_bits]
    · have := places_len n (2 ^ n - 1)
      omega
    · refine q H3 xss (fun c o e => ?_) N
      refine k3 c o (s12 c o e) ?_ ?_
      · exact ne_of_none (s0 c o (s1 c o e)) nf
      · exact ne_of_none (s0 c o (s1 c o e)) nl
def spLeastParting : Sp := fun vs H Q _ => ∃ (a : Addr) (n : Nat) (es : List Tie), vs = [.ref a] ∧ WebAt H a n es ∧ WebIn n es ∧ ∀ H' t xss ws, Same H H' → NearOk n es xss → TupOf TupO H' t ws → Parting n es ws → ws.length = leastN n xss (2 ^ n - 1) → Q (.ref t) H'
theorem ok_leastParting {f f1 fI fW C : Addr} {fd fd1 dI dW : FuncData} (F : Fun K "least_parting" "least_parting" sLeastParting f fd) (T : TTxt K mg C) (B : Blt mg)
    (G1 : FnOk P w K mg base CX0 5 f1 fd1 ["web"] spNeedSmall) (g1 : mg "need_small" = some (.ref f1)) (k1 : PySem.W.keepIn K (.ref f1) = true) (b1 : Binds K fd1 ["web"] [])
    (MK : Mk K C fI) (GI : FnOk P w K mg base CX0 2 fI dI ["self", "web"] (spTInit C)) (bI : Binds K dI ["self", "web"] []) (mW : Meth K C "least_way" fW) (GW : FnOk P w K mg base CX0 22 fW dW ["self", "bits"] (spTWay C)) (bW : Binds K dW ["self", "bits"] []) :
    FnOk P w K mg base CX0 23 f fd ["web"] spLeastParting := by
  refine F.ok scLeastParting (fun vs H Q E h => ?_) (fun cdv A outer s H vs Q E hr h => ?_)
  · obtain ⟨a, n, es, rfl, _⟩ := h
    rfl
  · obtain ⟨a, n, es, rfl, hA, W, q⟩ := h
    have h9 := W.nine
    have nd := scLeastParting.nd
    refine ⟨_, pss_cons (ps_expr (pe_call G1 (hr.mono (by decide)) (by rfl) g1 k1 b1 .nil pass0 (pa_cons (pv 0) pa_nil)))
      (pss_cons (ps_set (i := 1) nd rfl (Or.inl rfl) (pe_make MK GI (hr.mono (by decide)) (by rfl) T.mgC bI .nil pass0 (pa_cons (pv 0) pa_nil)))
      (pss_cons (ps_set (i := 2) nd rfl (Or.inl rfl) (pe_op op_sub (pe_op op_shl pe_int (pe_ix ix_tup (pv 0) pe_int (fun _ _ => rfl))) pe_int))
      (pss_cons (ps_set (i := 3) nd rfl (Or.inl rfl) (pe_lst pa_nil))
      (pss_cons (ps_while PassesOwn.never (pt_cmpR op_ne (pv 2) pe_int (nomark _)) (pss_cons (ps_asg (pe_meth (pv 1) T.cl mW GW hr bW .nil pass0 (pa_cons (pv 2) pa_nil)) (pg_tup (by rfl) (pgs_cons (pg_name (i := 4) nd rfl (.inl rfl)) (pgs_cons (pg_name (i := 2) nd rfl (.inl rfl)) pgs_nil))))
      (pss_one (ps_expr (pe_bm PySem.F.plainAttrs_list PySem.F.slot_list_append PySem.F.type_list_append mt_append (pv 3) (pa_cons (pv 4) pa_nil))))))
      (pss_one (ps_ret (pe_callTy call_tuple_of (by rfl) B.tuple boot_tuple (pa_cons (pv 3) pa_nil)))))))), ?_⟩
    refine ⟨_, rfl, a, n, es, rfl, hA, W, fun H1 s1 => ?_⟩
    have hA1 := hA.same s1
    refine ⟨_, rfl, fun x dx nx ndx ne => ?_⟩
    have s0 : Same H1 (upd (upd H1 dx (.own x)) x (.ins C dx [])) := fun c o e => by
      rw [upd_ne (ne_of_none e nx), upd_ne (ne_of_none e ndx)]
      exact e
    refine ⟨x, dx, a, n, es, rfl, upd_same, hA1.same s0, W.lo, fun H2 b df dl xss N U nf nl keep => ⟨rfl, ?_⟩⟩
    have s2 : Same H1 H2 := Same.made nx ndx keep
    have s12 := s1.trans s2
    obtain ⟨t, hT, _⟩ := hA.same s12
    have R := NearOk.rows N W.lo
    obtain ⟨kf, kl, U⟩ := U
    obtain ⟨dx2, hp⟩ := U.ob
    have nf1 : H1 df = none := s0.free nf
    have nl1 : H1 dl = none := s0.free nl
    refine ⟨_, rfl, _, _, _, _, rfl, rfl, SqT.of hT, atI_nat (j := 0) rfl, _, _, rfl, rfl, ⟨by omega, by omega, by decide⟩, _, _, rfl, rfl, ?_⟩
    refine ⟨Nat.zero_le _, fun D hD => ?_⟩
    have sD := same_new hD (.lst [])
    have Df : D ≠ df := (ne_of_none U.few hD).symm
    have Dl : D ≠ dl := (ne_of_none U.led hD).symm
    refine ⟨fun μ σ G => ∃ m ws was y4, μ = n - ws.length ∧ σ = [some (.ref a), some (.ref x), some (.int (m : Nat)), some (.ref D), y4] ∧ TrialSt C n xss G x b df dl ∧ Kept2 df dl H2 G ∧ G D = some (.lst (refs was)) ∧ Each TupO G was ws ∧ LeastTo n es xss ws m,
      ⟨_, 2 ^ n - 1, [], [], none, rfl, ?_, ⟨kf, kl, U.same sD⟩, Kept2.of sD, upd_same, Each.nil, LeastTo.start n es xss⟩, ?_⟩
    · dsimp only
      rw [full_bits]
      rfl
    rintro μ σ G ⟨m, ws, was, y4, rfl, rfl, ⟨kf3, kl3, U3⟩, k3, hG, each, LT⟩
    have cnt := LT.count
    refine ⟨_, rfl, rfl, _, rfl, ?_⟩
    by_cases m0 : m = 0
    · subst m0
      refine iteNS rfl ?_
      obtain ⟨Pt, hl⟩ := LT.parting
      refine ⟨_, rfl, D, _, rfl, .inl ⟨SqL.of hG, fun r hr => ?_⟩⟩
      have sr := same_new hr (.tup (refs was))
      refine q _ r xss ws (fun c o e => sr _ _ (k3 c o (s12 c o e) (ne_of_none (s1 c o e) nf1) (ne_of_none (s1 c o e) nl1))) N ⟨was, upd_same, each.same sr⟩ Pt hl
    · rw [decide_eq_false (fun z => m0 (by have := V.int.inj z; omega))]
      refine iteT ⟨fun σ2 G2 => ∃ m2 ws2 was2 y42, n - ws2.length < n - ws.length ∧ σ2 = [some (.ref a), some (.ref x), some (.int (m2 : Nat)), some (.ref D), y42] ∧ TrialSt C n xss G2 x b df dl ∧ Kept2 df dl H2 G2 ∧ G2 D = some (.lst (refs was2)) ∧ Each TupO G2 was2 ws2 ∧ LeastTo n es xss ws2 m2,
        fun σ2 G2 ⟨m2, ws2, was2, y42, l, z⟩ => ⟨_, l, m2, ws2, was2, y42, rfl, z⟩, ?_⟩
      obtain ⟨dx3, hp3⟩ := U3.ob
      refine ⟨_, rfl, x, dx3, _, rfl, hp3, flds_no _ _ _ _ (by decide +kernel) (by decide +kernel) (by decide +kernel) (by decide +kernel), _, rfl, x, b, df, dl, n, m, es, xss, kf3, kl3, rfl, U3, W.lo, N, LT.lt, m0, fun G2 r wa v m2 U4 k4 hr4 hwa TW less => ?_⟩
      have LT2 := LT.step TW less
      have cnt2 := LT2.count
      rw [List.length_append] at cnt2
      have hG2 := k4 _ _ hG Df Dl
      refine ⟨r, _, rfl, SqT.of hr4, rfl, _, _, rfl, _, _, rfl, rfl, ?_⟩
      have each2 : Each TupO G2 was ws := ⟨each.len, fun i c z h1 h2 => by
        have e := each.at_ i c z h1 h2
        exact k4 _ _ e (U3.ne_few e (fun k z => by cases z)) (U3.ne_led e (fun k z => by cases z))⟩
      obtain ⟨kf4, kl4, U4⟩ := U4
      have wl := each.len
      refine ⟨_, rfl, .inl ⟨rfl, _, SqL.of hG2⟩, _, rfl, D, _, _, rfl, rfl, hG2, ?_, ?_⟩
      · rw [refs_len]
        exact small1000 (by simp at cnt2; omega)
      rw [refs_snoc]
      have e3 := each2.snoc hwa
      refine ⟨m2, ws ++ [v], was ++ [wa], _, ?_, rfl, ⟨_, _, U.over U4 (k3.trans k4) hD _⟩, (k3.trans k4).over hD _, upd_same, ⟨e3.len, fun i c z h1 h2 => ?_⟩, LT2⟩
      · rw [List.length_append]
        simp at cnt2 ⊢
        omega
      · have e := e3.at_ i c z h1 h2
        rw [upd_ne (ne_of e hG2 (by intro y; cases y))]
        exact e
end
end FwW

set_option Elab.async false
set_option linter.all false
set_option maxRecDepth 100000
set_option maxHeartbeats 4000000
namespace FwW
open PySem PySem.Spec PyProof.Rows L2 Fw FwX
/-! ### the ties that are drawn -/
structure TiesTo (n i k : Nat) (es : List Tie) : Prop where
  bd : ∀ e ∈ es, 0 ≤ e.1 ∧ e.1 < e.2 ∧ e.2 < n
  lt : ∀ e ∈ es, e.1 < i ∨ (e.1 = i ∧ e.2 < k)
  lex : es.Pairwise lexT
  few : es.length ≤ i * 60 + k
theorem TiesTo.none {n i k : Nat} {es : List Tie} (t : TiesTo n i k es) : TiesTo n i (k + 1) es :=
  ⟨t.bd, fun e he => (t.lt e he).imp id fun ⟨a, b⟩ => ⟨a, by omega⟩, t.lex, by have := t.few; omega⟩
theorem TiesTo.add {n i k : Nat} {es : List Tie} (t : TiesTo n i k es) (h1 : i < k) (h2 : k < n) : TiesTo n i (k + 1) (es ++ [((i : Int), (k : Int))]) := by
  refine ⟨fun e he => ?_, fun e he => ?_, ?_, ?_⟩
  · rcases List.mem_append.mp he with he | he
    · exact t.bd e he
    · rw [List.mem_singleton] at he
      subst he
      show (0 : Int) ≤ (i : Int) ∧ (i : Int) < (k : Int) ∧ (k : Int) < (n : Int)
      omega
  · rcases List.mem_append.mp he with he | he
    · exact (t.lt e he).imp id fun ⟨a, b⟩ => ⟨a, by omega⟩
    · rw [List.mem_singleton] at he
      subst he
      refine .inr ⟨rfl, ?_⟩
      show (k : Int) < ((k + 1 : Nat) : Int)
      omega
  · rw [List.pairwise_append]
    refine ⟨t.lex, List.pairwise_singleton _ _, fun e he f hf => ?_⟩
    rw [List.mem_singleton] at hf
    subst hf
    unfold lexT
    show e.1 < (i : Int) ∨ (e.1 = (i : Int) ∧ e.2 < (k : Int))
    have := t.lt e he
    omega
  · rw [List.length_append]
    have := t.few
    simp
    omega
theorem TiesTo.turn {n i : Nat} {es : List Tie} (t : TiesTo n i n es) (hi : i < n) (h : n ≤ 9) : TiesTo n (i + 1) (i + 2) es :=
  ⟨t.bd, fun e he => by
    have := t.lt e he
    have := t.bd e he
    left
    show e.1 < ((i + 1 : Nat) : Int)
    omega, t.lex, by have := t.few; omega⟩
theorem TiesTo.web {n i k : Nat} {es : List Tie} (t : TiesTo n i k es) (hi : i ≤ 9) (hk : k ≤ 20) (h9 : n ≤ 9) : WebIn n es := by
  refine ⟨⟨?_, t.bd⟩, t.lex, h9, by have := t.few; omega⟩
  refine t.lex.imp fun {a b} h e => ?_
  subst e
  unfold lexT at h
  omega
/-! ### the parting that is drawn -/
structure DrawnTo (n : Nat) (es : List Tie) (ws : List (List Int)) (left : List Int) : Prop where
  way : ∀ w ∈ ws, Way n es w
  nd : left.Nodup
  all : (ws.flatten ++ left).Perm (irange n)
theorem DrawnTo.start (n : Nat) (es : List Tie) : DrawnTo n es [] (irange n) := ⟨fun _ h => (List.not_mem_nil h).elim, irange_nodup n, List.Perm.refl _⟩
theorem DrawnTo.bd {n : Nat} {es : List Tie} {ws : List (List Int)} {left : List Int} (d : DrawnTo n es ws left) : ∀ x ∈ left, 0 ≤ x ∧ x < n := fun x hx => mem_irange.mp (d.all.mem_iff.mp (List.mem_append_right _ hx))
theorem DrawnTo.len {n : Nat} {es : List Tie} {ws : List (List Int)} {left : List Int} (d : DrawnTo n es ws left) : ws.flatten.length + left.length = n := by
  have := d.all.length_eq
  rw [List.length_append, irange_length] at this
  exact this
theorem split_perm {w l : List Int} (hw : w.Nodup) (hl : l.Nodup) (h : ∀ x ∈ w, x ∈ l) : (w ++ l.filter fun z => decide (z ∉ w)).Perm l := by
  refine perm_of_nodup (nodup_append_of hw (hl.filter _) fun x hx hm => ?_) hl fun x => ?_
  · have := (List.mem_filter.mp hm).2
    simp [hx] at this
  · rw [List.mem_append, List.mem_filter]
    constructor
    · rintro (hx | ⟨hx, _⟩)
      · exact h x hx
      · exact hx
    · intro hx
      by_cases q : x ∈ w
      · exact .inl q
      · exact .inr ⟨hx, by simp [q]⟩
theorem DrawnTo.step {n : Nat} {es : List Tie} {ws : List (List Int)} {left w : List Int} (d : DrawnTo n es ws left) (W : Way n es w) (h : ∀ x ∈ w, x ∈ left) : DrawnTo n es (ws ++ [w]) (left.filter fun z => decide (z ∉ w)) := by
  refine ⟨fun v hv => ?_, d.nd.filter _, ?_⟩
  · rcases List.mem_append.mp hv with hv | hv
    · exact d.way v hv
    · rw [List.mem_singleton] at hv
      subst hv
      exact W
  · rw [flatten_snoc, List.append_assoc]
    exact (List.Perm.append_left _ (split_perm W.nd d.nd h)).trans d.all
theorem DrawnTo.less {n : Nat} {es : List Tie} {left w : List Int} (hn : left.Nodup) (W : Way n es w) (h : ∀ x ∈ w, x ∈ left) : (left.filter fun z => decide (z ∉ w)).length < left.length := by
  have p := (split_perm W.nd hn h).length_eq
  have := List.length_pos_iff.mpr W.ne
  rw [List.length_append] at p
  omega
theorem DrawnTo.count {n : Nat} {es : List Tie} {ws : List (List Int)} {left : List Int} (d : DrawnTo n es ws left) : ws.length ≤ n := by
  have g : ∀ vs : List (List Int), (∀ v ∈ vs, v ≠ []) → vs.length ≤ vs.flatten.length := fun vs => by
    induction vs with
    | nil => intro _; exact Nat.le_refl _
    | cons v vs ih =>
      intro hv
      have q := ih fun u hu => hv u (List.mem_cons_of_mem _ hu)
      have r := List.length_pos_iff.mpr (hv v List.mem_cons_self)
      rw [List.flatten_cons, List.length_append, List.length_cons]
      omega
  have := g ws fun w hw => (d.way w hw).ne
  have := d.len
  omega
theorem DrawnTo.parting {n : Nat} {es : List Tie} {ws : List (List Int)} (d : DrawnTo n es ws []) : Parting n es ws := ⟨d.way, by have := d.all; rw [List.append_nil] at this; exact this⟩
section
variable {P : Program} {w : World} {K : PySem.W.Frag} {mg : Str → Option Value} {base : Heap}
def spCell (K : PySem.W.Frag) : Sp := fun vs H Q _ => ∃ (a : Addr) (ns : List Int) (k : Nat), vs = [.ref a, .int k] ∧ SqL K H a (ns.map V.int) ∧ ∀ v, Q (.int v) H
theorem ok_cell {f : Addr} {fd : FuncData} (F : Fun K "_law_cell_at" "_law_cell_at" sCell f fd) (T : Blt mg) : FnOk P w K mg base CX0 1 f fd ["_law_script", "_law_k"] (spCell K) := by
  refine F.ok scCell (fun vs H Q E h => ?_) (fun cdv A outer s H vs Q E hr h => ?_)
  · obtain ⟨a, ns, k, rfl, _⟩ := h
    rfl
  · obtain ⟨a, ns, k, rfl, hS, q⟩ := h
    refine ⟨_, pss_cons (ps_if (pt_cmpR op_lt (pv 1) (pe_callB call_len_seq (by rfl) T.len PySem.boot_len (pa_cons (pv 0) (pa_nil))) (nomark _)) (pss_one (ps_ret (pe_ix ix_list (pv 0) (pv 1) (fun _ _ => rfl)))) pss_nil)
      (pss_one (ps_ret (pe_int))), ?_⟩
    have hl : (ns.map V.int).length = ns.length := List.length_map _
    refine ⟨_, rfl, _, rfl, a, _, rfl, .inl hS, _, _, rfl, rfl, _, rfl, ite2 (fun c => ?_) (fun c => ?_)⟩
    · have c := of_decide_eq_true c
      rw [hl] at c
      exact ⟨_, rfl, _, rfl, a, _, _, _, rfl, rfl, hS, atI_nat (ints_get (List.getElem?_eq_getElem (by omega))), q _⟩
    · exact q 0
def spDraw : Sp := fun vs H Q _ => ∃ c k b : Int, vs = [.int c, .int k, .int b] ∧ 0 ≤ k ∧ k ≤ 100000 ∧ 0 < b ∧ b ≤ 1000 ∧ ∀ v, 0 ≤ v → v < b → Q (.int v) H
theorem ok_draw {f : Addr} {fd : FuncData} (F : Fun K "_law_draw" "_law_draw" sDraw f fd) (T : Blt mg) : FnOk P w K mg base CX0 1 f fd ["_law_cell", "_law_k", "_law_bound"] spDraw := by
  refine F.ok scDraw (fun vs H Q E h => ?_) (fun cdv A outer s H vs Q E hr h => ?_)
  · obtain ⟨c, k, b, rfl, _⟩ := h
    rfl
  · obtain ⟨c, k, b, rfl, h0, h1, h2, h3, q⟩ := h
    have nd := scDraw.nd
    refine ⟨_, pss_cons (ps_if (pt_cmpR op_ge (pv 0) (pe_op op_pow (pe_int) (pe_int)) (nomark _)) (pss_cons (ps_set (i := 3) nd rfl (Or.inl rfl) (pv 0))
      (pss_cons (ps_for PassesOwn.never rfl (pi_range1 (by rfl) T.range (pa_cons (pv 1) (pa_nil))) (pg_name (i := 4) nd rfl (Or.inl rfl)) (pss_cons (ps_if (pt_cmpR op_eq (pv 3) (pe_int) (nomark _)) (pss_one (ps_ret (pe_int))) pss_nil)
      (pss_one (ps_set (i := 3) nd rfl (Or.inl rfl) (pe_op op_fdiv (pv 3) (pv 2))))))
      (pss_one (ps_ret (pe_op op_mod (pv 3) (pv 2)))))) pss_nil)
      (pss_cons (ps_set (i := 5) nd rfl (Or.inl rfl) (pe_op op_mod (pe_op op_mul (pe_op op_add (pe_op op_add (pe_op op_mod (pv 0) (pe_int)) (pe_op op_mul (pe_int) (pv 1))) (pe_int)) (pe_int)) (pe_int)))
      (pss_cons (ps_set (i := 5) nd rfl (Or.inl rfl) (pe_op op_mod (pe_op op_add (pe_op op_add (pe_op op_mul (pv 5) (pv 5)) (pe_op op_mul (pe_int) (pv 1))) (pe_int)) (pe_int)))
      (pss_one (ps_ret (pe_op op_mod (pe_op op_fdiv (pe_op op_mod (pe_op op_mul (pv 5) (pe_int)) (pe_int)) (pe_int)) (pv 2)))))), ?_⟩
    refine ⟨_, rfl, _, _, rfl, rfl, ⟨by decide, by decide, by decide⟩, _, _, rfl, rfl, _, rfl, ite2 (fun big => ?_) (fun big => ?_)⟩
    · refine ⟨_, rfl, ?_⟩
      refine ⟨_, rfl, k, rfl, by omega, by omega, ?_⟩
      refine for_range (lo := 0) (n := k.toNat) (fun i σ H' => H' = H ∧ ∃ (l : Int) (y : Option V), σ = [some (.int c), some (.int k), some (.int b), some (.int l), y, none]) ⟨rfl, c, none, rfl⟩ ?_ ?_
      · rintro i σ H' hi ⟨rfl, l, y, rfl⟩
        refine ⟨_, rfl, rfl, _, rfl, ite2 (fun z => ?_) (fun z => ?_)⟩
        · exact q 0 (Int.le_refl 0) h2
        · exact ⟨_, rfl, _, rfl, _, _, rfl, rfl, ⟨h2, by omega⟩, rfl, _, _, rfl⟩
      · rintro σ H' ⟨rfl, l, y, rfl⟩
        exact ⟨_, rfl, _, rfl, _, _, rfl, rfl, h2, q _ (Int.emod_nonneg _ (by omega)) (Int.emod_lt_of_pos _ h2)⟩
    · have e1 := Int.emod_nonneg c (show (1000000007 : Int) ≠ 0 by decide)
      have e2 := Int.emod_lt_of_pos c (show (0 : Int) < 1000000007 by decide)
      refine ⟨_, rfl, _, _, rfl, rfl, (by show (0 : Int) < 1000000007; decide), _, rfl, _, _, rfl, rfl, .inl ⟨by decide, by decide⟩, _, _, rfl, rfl, _, _, rfl, rfl, _, _, rfl, rfl, .inr ⟨by decide, by decide⟩, _, _, rfl, rfl, (by show (0 : Int) < 2147483647; decide), ?_⟩
      generalize hx : (c % 1000000007 + 1009 * k + 17) * 69621 % 2147483647 = x
      have x1 : 0 ≤ x := by
        rw [← hx]
        exact Int.emod_nonneg _ (by decide)
      have x2 : x < 2147483647 := by
        rw [← hx]
        exact Int.emod_lt_of_pos _ (by decide)
      refine ⟨_, rfl, _, rfl, _, _, rfl, rfl, .inl ⟨by show -(2 ^ 64) < (c % 1000000007 + 1009 * k + 17) * 69621 % 2147483647; omega, by show (c % 1000000007 + 1009 * k + 17) * 69621 % 2147483647 < 2 ^ 64; omega⟩, _, rfl, _, _, rfl, rfl, .inl ⟨by decide, by decide⟩, _, _, rfl, rfl, _, _, rfl, rfl, _, _, rfl, rfl, (by show (0 : Int) < 2147483629; decide), ?_⟩
      refine ⟨_, rfl, _, _, rfl, rfl, .inr ⟨by decide, by decide⟩, _, _, rfl, rfl, (by show (0 : Int) < 2147483647; decide), _, _, rfl, rfl, ⟨by decide, by decide⟩, _, rfl, _, _, rfl, rfl, h2, ?_⟩
      exact q _ (Int.emod_nonneg _ (by omega)) (Int.emod_lt_of_pos _ h2)
def spLWeb : Sp := fun vs H Q _ => ∃ c : Int, vs = [.int c, .int 9] ∧ ∀ H' a n es, Same H H' → WebAt H' a n es → WebIn n es → Q (.ref a) H'
theorem ok_lWeb {f f1 : Addr} {fd fd1 : FuncData} (F : Fun K "_law_web" "_law_web" sLWeb f fd) (T : Blt mg)
    (G1 : FnOk P w K mg base CX0 1 f1 fd1 ["_law_cell", "_law_k", "_law_bound"] spDraw) (g1 : mg "_law_draw" = some (.ref f1)) (k1 : PySem.W.keepIn K (.ref f1) = true) (b1 : Binds K fd1 ["_law_cell", "_law_k", "_law_bound"] []) :
    FnOk P w K mg base CX0 2 f fd ["_law_cell", "_law_most"] spLWeb := by
  refine F.ok scLWeb (fun vs H Q E h => ?_) (fun cdv A outer s H vs Q E hr h => ?_)
  · obtain ⟨c, rfl, _⟩ := h
    rfl
  · obtain ⟨c, rfl, q⟩ := h
    have nd := scLWeb.nd
    refine ⟨_, pss_cons (ps_set (i := 2) nd rfl (Or.inl rfl) (pe_call G1 (hr) (by rfl) g1 k1 b1 .nil pass0 (pa_cons (pv 0) (pa_cons (pe_int) (pa_cons (pe_op op_add (pv 1) (pe_int)) (pa_nil))))))
      (pss_cons (ps_set (i := 3) nd rfl (Or.inl rfl) (pe_op op_add (pe_int) (pe_call G1 (hr) (by rfl) g1 k1 b1 .nil pass0 (pa_cons (pv 0) (pa_cons (pe_int) (pa_cons (pe_int) (pa_nil)))))))
      (pss_cons (ps_set (i := 4) nd rfl (Or.inl rfl) (pe_lst pa_nil))
      (pss_cons (ps_for PassesOwn.never rfl (pi_range1 (by rfl) T.range (pa_cons (pv 2) (pa_nil))) (pg_name (i := 5) nd rfl (Or.inl rfl)) (pss_one (ps_for PassesOwn.never rfl (pi_range2 (by rfl) T.range (pa_cons (pe_op op_add (pv 5) (pe_int)) (pa_cons (pv 2) (pa_nil)))) (pg_name (i := 6) nd rfl (Or.inl rfl)) (pss_one (ps_if (pt_cmpR op_lt (pe_call G1 (hr) (by rfl) g1 k1 b1 .nil pass0 (pa_cons (pv 0) (pa_cons (pe_op op_add (pe_op op_add (pe_int) (pe_op op_mul (pe_int) (pv 5))) (pv 6)) (pa_cons (pe_int) (pa_nil))))) (pv 3) (nomark _)) (pss_one (ps_expr (pe_bm PySem.F.plainAttrs_list PySem.F.slot_list_append PySem.F.type_list_append mt_append (pv 4) (pa_cons (pe_tup (pa_cons (pv 5) (pa_cons (pv 6) (pa_nil)))) (pa_nil))))) pss_nil)))))
      (pss_one (ps_ret (pe_tup (pa_cons (pv 2) (pa_cons (pe_callTy call_tuple_of (by rfl) T.tuple boot_tuple (pa_cons (pv 4) (pa_nil))) (pa_nil))))))))), ?_⟩
    refine ⟨_, rfl, _, rfl, _, _, rfl, rfl, c, 0, 10, rfl, by decide, by decide, by decide, by decide, fun many m0 m1 => ?_⟩
    obtain ⟨n, rfl⟩ := Int.eq_ofNat_of_zero_le m0
    refine ⟨_, rfl, c, 1, 6, rfl, by decide, by decide, by decide, by decide, fun th t0 t1 => ?_⟩
    refine ⟨_, _, rfl, rfl, ?_⟩
    refine ⟨Nat.zero_le _, fun D hD => ?_⟩
    refine ⟨_, rfl, (n : Int), rfl, by omega, by omega, ?_⟩
    rw [Int.toNat_natCast]
    refine for_range (lo := 0) (n := n) (fun i σ H' => ∃ es as y5 y6, σ = [some (.int c), some (.int 9), some (.int (n : Int)), some (.int (1 + th)), some (.ref D), y5, y6] ∧ Gr TieO H D as es H' ∧ TiesTo n i (i + 1) es)
      ⟨[], [], none, none, rfl, Gr.start hD, fun _ h => (List.not_mem_nil h).elim, fun _ h => (List.not_mem_nil h).elim, List.Pairwise.nil, by simp⟩ ?_ ?_
    · rintro i σ H' hi ⟨es, as, y5, y6, rfl, g, t⟩
      have ei : (0 + (i : Int)) = (i : Int) := by omega
      rw [ei]
      refine ⟨_, rfl, _, _, rfl, rfl, _, rfl, _, _, rfl, ⟨by omega, by omega, by omega, by omega⟩, ?_⟩
      refine for_range (lo := (i : Int) + 1) (n := ((n : Int) - ((i : Int) + 1)).toNat) (fun j σ H' => ∃ es as y6, σ = [some (.int c), some (.int 9), some (.int (n : Int)), some (.int (1 + th)), some (.ref D), some (.int (i : Int)), y6] ∧ Gr TieO H D as es H' ∧ TiesTo n i (i + 1 + j) es)
        ⟨es, as, y6, rfl, g, t⟩ ?_ ?_
      · rintro j σ H2 hj ⟨es2, as2, z6, rfl, g2, t2⟩
        have ej : ((i : Int) + 1 + (j : Int)) = ((i + 1 + j : Nat) : Int) := by omega
        rw [ej]
        refine ⟨_, rfl, _, rfl, _, _, rfl, rfl, .inl ⟨by decide, by decide⟩, _, _, rfl, rfl, _, rfl, _, _, rfl, rfl, c, _, 8, rfl, by omega, by omega, by decide, by decide, fun v v0 v1 => ?_⟩
        refine ⟨_, rfl, _, _, rfl, rfl, _, rfl, ite2 (fun lt => ?_) (fun lt => ?_)⟩
        · have few := t2.few
          have al := g2.each.len
          refine ⟨_, rfl, .inl ⟨rfl, _, SqL.of g2.lc.lst⟩, _, rfl, _, rfl, by show 2 ≤ sizeLine; decide, fun p hp => ?_⟩
          have ne : D ≠ p := ne_of_none g2.lc.lst hp
          refine ⟨D, _, _, rfl, rfl, by rw [upd_ne ne]; exact g2.lc.lst, ?_, ?_⟩
          · rw [refs_len]
            exact small1000 (by omega)
          refine ⟨es2 ++ [((i : Int), ((i + 1 + j : Nat) : Int))], as2 ++ [p], _, rfl, ?_, t2.add (by omega) (by omega)⟩
          rw [refs_snoc]
          exact g2.add hD hp ((i : Int), ((i + 1 + j : Nat) : Int))
        · exact ⟨es2, as2, _, rfl, g2, t2.none⟩
      · rintro σ H2 ⟨es2, as2, z6, rfl, g2, t2⟩
        have e : i + 1 + ((n : Int) - ((i : Int) + 1)).toNat = n := by omega
        rw [e] at t2
        exact ⟨es2, as2, _, _, rfl, g2, t2.turn hi (by omega)⟩
    · rintro σ H' ⟨es, as, y5, y6, rfl, g, t⟩
      refine ⟨_, rfl, _, rfl, D, _, rfl, .inl ⟨SqL.of g.lc.lst, fun p hp => ?_⟩⟩
      refine ⟨by show 2 ≤ sizeLine; decide, fun a ha => ?_⟩
      have sp := same_new hp (.tup (refs as))
      have sa := same_new ha (.tup [.int (n : Int), .ref p])
      exact q _ a n es ((g.lc.same.trans sp).trans sa) ⟨p, upd_same, as, sa _ _ upd_same, (g.each.same sp).same sa⟩ (t.web (by omega) (by omega) (by omega))
def spLNear : Sp := fun vs H Q _ => ∃ (a : Addr) (n : Nat) (es : List Tie), vs = [.ref a] ∧ WebAt H a n es ∧ WebLo n es ∧ ∀ H' b xss, Same H H' → LstOf RowO H' b xss → NearTo n es es.length xss → Q (.ref b) H'
theorem ok_lNear {f : Addr} {fd : FuncData} (F : Fun K "_law_near" "_law_near" sLNear f fd) (T : Blt mg) : FnOk P w K mg base CX0 1 f fd ["_law_web_here"] spLNear := by
  refine F.ok scLNear (fun vs H Q E h => ?_) (fun cdv A outer s H vs Q E hr h => ?_)
  · obtain ⟨a, n, es, rfl, _⟩ := h
    rfl
  · obtain ⟨a, n, es, rfl, ⟨t, hA, ts, ht, each⟩, W, q⟩ := h
    have nd := scLNear.nd
    have h9 := W.nine
    refine ⟨_, pss_cons (ps_setLc (i := 1) (own := [("_law_place", 2)]) (g := gName 2) (tt := tYes) rfl nd rfl rfl (sw_true rfl rfl rfl (by decide +kernel)) (pi_range1 (by rfl) T.range (pa_cons (pe_ix ix_tup (pv 0) (pe_int) (fun _ _ => rfl)) (pa_nil))) (blkOk_by (own := [("_law_place", 2)]) (N := ["_law_web_here", "_law_found", "_law_place", "_law_one", "_law_other"]) (sc := defScope sLNear) (by decide +kernel)) (fun _ _ _ _ _ => pg_name (i := 2) nd rfl (Or.inl rfl)) (fun _ _ _ _ _ => pts_nil) (fun _ _ _ _ _ => pe_lst pa_nil))
      (pss_cons (ps_for PassesOwn.never rfl (pi_tup (pe_ix ix_tup (pv 0) (pe_int) (fun _ _ => rfl))) (pg_tup (by rfl) (pgs_cons (pg_name (i := 3) nd rfl (Or.inl rfl)) (pgs_cons (pg_name (i := 4) nd rfl (Or.inl rfl)) pgs_nil))) (pss_cons (ps_expr (pe_bm PySem.F.plainAttrs_list PySem.F.slot_list_append PySem.F.type_list_append mt_append (pe_ix ix_list (pv 1) (pv 3) (fun _ _ => rfl)) (pa_cons (pv 4) (pa_nil))))
      (pss_one (ps_expr (pe_bm PySem.F.plainAttrs_list PySem.F.slot_list_append PySem.F.type_list_append mt_append (pe_ix ix_list (pv 1) (pv 4) (fun _ _ => rfl)) (pa_cons (pv 3) (pa_nil)))))))
      (pss_one (ps_ret (pv 1)))), ?_⟩
    refine ⟨_, rfl, _, _, _, _, rfl, rfl, SqT.of hA, atI_nat (j := 0) rfl, _, rfl, by omega, by omega, fun D hD => ?_⟩
    refine lc_range (lo := 0) (n := ((n : Int)).toNat) (fun i H' => ∃ as, Gr RowO H D as ((List.range i).map fun _ => ([] : List Int)) H') ⟨[], Gr.start hD⟩ (fun i H' hi ⟨as, g⟩ => ?_) (fun H1 ⟨as, g⟩ => ?_)
    · refine ⟨rfl, tyes ⟨Nat.zero_le _, fun p hp => ?_⟩⟩
      have ne : D ≠ p := ne_of_none g.lc.lst hp
      refine ⟨refs as, by rw [upd_ne ne]; exact g.lc.lst, ?_, as ++ [p], ?_⟩
      · have := g.each.len
        rw [List.length_map, List.length_range] at this
        rw [refs_len]
        exact small1000 (by omega)
      · have z := g.add hD hp []
        rw [refs_snoc, List.range_succ, List.map_append]
        exact z
    rw [Int.toNat_natCast] at g
    have hA1 := g.lc.same _ _ hA
    refine ⟨_, rfl, _, _, _, _, rfl, rfl, SqT.of hA1, atI_nat (j := 1) rfl, t, rfl, ⟨_, SqT.of (g.lc.same _ _ ht)⟩, ?_⟩
    refine for_tup (K := K) (a := t) (xs := refs ts) (fun i σ H' => ∃ xss y3 y4, σ = [some (.ref a), some (.ref D), none, y3, y4] ∧ NearSt n es H D as i xss H')
      ⟨_, none, none, rfl, NearTo.zero n es, g.each, g.lc.same, g.lc.lst⟩ (fun i σ H' _ ⟨_, _, _, _, S⟩ => SqT.of (S.same _ _ ht)) ?_ ?_
    · rintro i x σ H' hx ⟨xss, y3, y4, rfl, S⟩
      obtain ⟨c, hc, rfl⟩ := refs_at hx
      obtain ⟨e, he, hce⟩ := each.got hc
      obtain ⟨ra, rb, xa, xb, h1, h2, h3, h4, h5, h6, h7, h8, h9', S'⟩ := S.step W.ok g.nd g.new g.out he
      have bd := W.ok.bd e (List.mem_of_getElem? he)
      refine ⟨c, _, rfl, SqT.of (S.same _ _ hce), rfl, _, _, rfl, _, _, rfl, rfl, ?_⟩
      refine ⟨_, rfl, _, rfl, _, _, _, _, rfl, rfl, SqL.of S.lst, at_of (j := e.1.toNat) (by omega) (refs_get h1), .inl ⟨rfl, _, SqL.of h3⟩, _, rfl, ra, _, _, rfl, rfl, h3, ?_, ?_⟩
      · rw [List.length_map]
        exact small1000 (by omega)
      have e1 : upd H' ra (.lst (xa.map V.int ++ [.int e.2])) = upd H' ra (RowO (xa ++ [e.2])) := by
        unfold RowO
        rw [List.map_append]
        rfl
      rw [e1]
      have h4' : (upd H' ra (RowO (xa ++ [e.2]))) rb = some (RowO xb) := by
        rw [upd_ne h5.symm]
        exact h4
      refine ⟨_, rfl, _, rfl, _, _, _, _, rfl, rfl, SqL.of (by rw [upd_ne h6]; exact S.lst), at_of (j := e.2.toNat) (by omega) (refs_get h2), .inl ⟨rfl, _, SqL.of h4'⟩, _, rfl, rb, _, _, rfl, rfl, h4', ?_, ?_⟩
      · rw [List.length_map]
        exact small1000 (by omega)
      refine ⟨(xss.set e.1.toNat (xa ++ [e.2])).set e.2.toNat (xb ++ [e.1]), some (.int e.1), some (.int e.2), rfl, ?_⟩
      have e2 : ∀ G : Hp, upd G rb (.lst (xb.map V.int ++ [.int e.1])) = upd G rb (RowO (xb ++ [e.1])) := fun G => by
        unfold RowO
        rw [List.map_append]
        rfl
      rw [e2]
      exact S'
    · rintro σ H2 ⟨xss, y3, y4, rfl, S⟩
      rw [refs_len, each.len] at S
      exact ⟨_, rfl, q H2 D xss S.same ⟨as, S.lst, S.each⟩ S.to⟩
def spLSome : Sp := fun vs H Q _ => ∃ (c t : Int) (n : Nat), vs = [.int c, .int n, .int t] ∧ 0 ≤ t ∧ t ≤ 10000 ∧ n ≤ 9 ∧ ∀ H' b bar, Same H H' → H' b = some (TupO bar) → PlacesIn n bar → Q (.ref b) H'
theorem ok_lSome {f f1 : Addr} {fd fd1 : FuncData} (F : Fun K "_law_some" "_law_some" sLSome f fd) (T : Blt mg)
    (G1 : FnOk P w K mg base CX0 1 f1 fd1 ["_law_cell", "_law_k", "_law_bound"] spDraw) (g1 : mg "_law_draw" = some (.ref f1)) (k1 : PySem.W.keepIn K (.ref f1) = true) (b1 : Binds K fd1 ["_law_cell", "_law_k", "_law_bound"] []) :
    FnOk P w K mg base CX0 2 f fd ["_law_cell", "_law_many", "_law_at"] spLSome := by
  refine F.ok scLSome (fun vs H Q E h => ?_) (fun cdv A outer s H vs Q E hr h => ?_)
  · obtain ⟨c, t, n, rfl, _⟩ := h
    rfl
  · obtain ⟨c, t, n, rfl, t0, t1, h9, q⟩ := h
    have nd := scLSome.nd
    refine ⟨_, pss_cons (ps_set (i := 3) nd rfl (Or.inl rfl) (pe_call G1 (hr) (by rfl) g1 k1 b1 .nil pass0 (pa_cons (pv 0) (pa_cons (pv 2) (pa_cons (pe_int) (pa_nil))))))
      (pss_cons (ps_set (i := 4) nd rfl (Or.inl rfl) (pe_lst pa_nil))
      (pss_cons (ps_for PassesOwn.never rfl (pi_range1 (by rfl) T.range (pa_cons (pv 1) (pa_nil))) (pg_name (i := 5) nd rfl (Or.inl rfl)) (pss_one (ps_if (PW.pt (pw_or (pt_cmpR op_eq (pv 3) (pe_int) (nomark _)) (pw_or1 (PW.pt (pw_and (pt_cmpR op_gt (pv 3) (pe_int) (nomark _)) (pw_and1 (pt_cmpR op_eq (pe_call G1 (hr) (by rfl) g1 k1 b1 .nil pass0 (pa_cons (pv 0) (pa_cons (pe_op op_add (pe_op op_add (pv 2) (pe_int)) (pv 5)) (pa_cons (pe_op op_add (pe_int) (pv 3)) (pa_nil))))) (pe_int) (nomark _)))))))) (pss_one (ps_expr (pe_bm PySem.F.plainAttrs_list PySem.F.slot_list_append PySem.F.type_list_append mt_append (pv 4) (pa_cons (pv 5) (pa_nil))))) pss_nil)))
      (pss_one (ps_ret (pe_callTy call_tuple_of (by rfl) T.tuple boot_tuple (pa_cons (pv 4) (pa_nil))))))), ?_⟩
    refine ⟨_, rfl, _, rfl, c, t, 6, rfl, t0, by omega, by decide, by decide, fun kd d0 d1 => ?_⟩
    refine ⟨Nat.zero_le _, fun D hD => ?_⟩
    refine ⟨_, rfl, (n : Int), rfl, by omega, by omega, ?_⟩
    rw [Int.toNat_natCast]
    refine for_range (lo := 0) (n := n) (fun i σ H' => ∃ bar y5, σ = [some (.int c), some (.int n), some (.int t), some (.int kd), some (.ref D), y5] ∧ Lc H D (bar.map V.int) H' ∧ PlacesIn i bar) ⟨[], none, rfl, Lc.start hD, List.Pairwise.nil, fun _ h => (List.not_mem_nil h).elim⟩ ?_ ?_
    · rintro i σ H' hi ⟨bar, y5, rfl, l, p⟩
      have ei : (0 + (i : Int)) = (i : Int) := by omega
      rw [ei]
      have no : PlacesIn (i + 1) bar := ⟨p.lt, fun x hx => by
        have := p.bd x hx
        omega⟩
      have pl := p.len
      have yes : PlacesIn (i + 1) (bar ++ [(i : Int)]) := by
        refine ⟨?_, fun x hx => ?_⟩
        · rw [List.pairwise_append]
          refine ⟨p.lt, List.pairwise_singleton _ _, fun a ha b hb => ?_⟩
          rw [List.mem_singleton] at hb
          subst hb
          have := p.bd a ha
          omega
        · rcases List.mem_append.mp hx with hx | hx
          · have := p.bd x hx
            omega
          · rw [List.mem_singleton] at hx
            subst hx
            omega
      have add := l.add hD (.int (i : Int))
      have e1 : bar.map V.int ++ [.int (i : Int)] = (bar ++ [(i : Int)]).map V.int := by
        rw [List.map_append]
        rfl
      rw [e1] at add
      refine ⟨_, rfl, rfl, _, rfl, ite2 (fun z => iteT ?_) (fun z => ?_)⟩
      · refine ⟨_, rfl, .inl ⟨rfl, _, SqL.of l.lst⟩, _, rfl, D, _, _, rfl, rfl, l.lst, ?_, bar ++ [(i : Int)], _, rfl, ?_, yes⟩
        · rw [List.length_map]
          exact small1000 (by omega)
        · rw [e1]
          exact add
      · refine ⟨_, rfl, _, _, rfl, rfl, _, rfl, ite2 (fun z2 => ?_) (fun z2 => ?_)⟩
        · have z2 : (1 : Int) < kd := of_decide_eq_true z2
          refine ⟨_, rfl, _, rfl, _, _, rfl, rfl, _, rfl, _, _, rfl, rfl, _, rfl, _, _, rfl, rfl, c, _, _, rfl, by omega, by omega, by omega, by omega, fun v v0 v1 => ?_⟩
          refine ⟨rfl, _, rfl, ite2 (fun z3 => ?_) (fun z3 => ?_)⟩
          · refine ⟨_, rfl, .inl ⟨rfl, _, SqL.of l.lst⟩, _, rfl, D, _, _, rfl, rfl, l.lst, ?_, bar ++ [(i : Int)], _, rfl, ?_, yes⟩
            · rw [List.length_map]
              exact small1000 (by omega)
            · rw [e1]
              exact add
          · exact ⟨bar, _, rfl, l, no⟩
        · exact iteF ⟨bar, _, rfl, l, no⟩
    · rintro σ H' ⟨bar, y5, rfl, l, p⟩
      refine ⟨_, rfl, D, _, rfl, .inl ⟨SqL.of l.lst, fun r hr => ?_⟩⟩
      have sr := same_new hr (TupO bar)
      exact q _ r bar (l.same.trans sr) upd_same p
end
end FwW

set_option Elab.async false
set_option linter.all false
set_option maxRecDepth 100000
set_option maxHeartbeats 4000000
namespace FwW
open PySem PySem.Spec PyProof.Rows L2 Fw FwX
theorem toNat_mod {v : Int} {n : Nat} (h0 : 0 ≤ v) (h1 : v < n) : v.toNat < n ∧ v = ((v.toNat : Nat) : Int) := by omega
section
variable {P : Program} {w : World} {K : PySem.W.Frag} {mg : Str → Option Value} {base : Heap}
def spLParted : Sp := fun vs H Q _ => ∃ (c t : Int) (a b : Addr) (n : Nat) (es : List Tie) (xss : List (List Int)), vs = [.int c, .int t, .ref a, .ref b] ∧ 0 ≤ t ∧ t ≤ 10000 ∧ WebAt H a n es ∧ WebLo n es ∧ LstOf RowO H b xss ∧ NearTo n es es.length xss ∧
  ∀ H' r ws, Same H H' → TupOf TupO H' r ws → Parting n es ws → Q (.ref r) H'
theorem ok_lParted {f f1 : Addr} {fd fd1 : FuncData} (F : Fun K "_law_parted" "_law_parted" sLParted f fd) (T : Blt mg)
    (G1 : FnOk P w K mg base CX0 1 f1 fd1 ["_law_cell", "_law_k", "_law_bound"] spDraw) (g1 : mg "_law_draw" = some (.ref f1)) (k1 : PySem.W.keepIn K (.ref f1) = true) (b1 : Binds K fd1 ["_law_cell", "_law_k", "_law_bound"] []) :
    FnOk P w K mg base CX0 2 f fd ["_law_cell", "_law_at", "_law_web_here", "_law_nigh"] spLParted := by
  refine F.ok scLParted (fun vs H Q E h => ?_) (fun cdv A outer s H vs Q E hr h => ?_)
  · obtain ⟨c, t, a, b, n, es, xss, rfl, _⟩ := h
    rfl
  · obtain ⟨c, t, a, b, n, es, xss, rfl, t0, t1, ⟨tt, hA, hAt⟩, W, ⟨as, hB, each⟩, N, q⟩ := h
    have nd := scLParted.nd
    have h9 := W.nine
    refine ⟨_, pss_cons (ps_set (i := 4) nd rfl (Or.inr rfl) (pe_listRg rfl (by rfl) T.list (prg_1 (by rfl) T.range (pe_ix ix_tup (pv 2) (pe_int) (fun _ _ => rfl)))))
      (pss_cons (ps_set (i := 5) nd rfl (Or.inl rfl) (pe_lst pa_nil))
      (pss_cons (ps_while PassesOwn.never (pt_cmpR (op_neD hr.units) (pv 4) (pe_lst pa_nil) (nomark _)) (pss_cons (ps_set (i := 6) nd rfl (Or.inr rfl) (pe_tup (pa_cons (pe_ix ix_list (pv 4) (pe_call G1 (hr) (by rfl) g1 k1 b1 .nil pass0 (pa_cons (pv 0) (pa_cons (pe_op op_add (pv 1) (pe_callB call_len_seq (by rfl) T.len PySem.boot_len (pa_cons (pv 4) (pa_nil)))) (pa_cons (pe_callB call_len_seq (by rfl) T.len PySem.boot_len (pa_cons (pv 4) (pa_nil))) (pa_nil))))) (fun _ _ => rfl)) (pa_nil))))
      (pss_cons (ps_set (i := 7) nd rfl (Or.inl rfl) (pe_call G1 (hr) (by rfl) g1 k1 b1 .nil pass0 (pa_cons (pv 0) (pa_cons (pe_op op_add (pe_op op_add (pv 1) (pe_int)) (pe_callB call_len_seq (by rfl) T.len PySem.boot_len (pa_cons (pv 4) (pa_nil)))) (pa_cons (pe_op op_add (pe_ix ix_tup (pv 2) (pe_int) (fun _ _ => rfl)) (pe_int)) (pa_nil))))))
      (pss_cons (ps_for PassesOwn.never rfl (pi_range1 (by rfl) T.range (pa_cons (pv 7) (pa_nil))) (pg_name (i := 8) nd rfl (Or.inl rfl)) (pss_cons (ps_setLc (i := 9) (own := [("_law_place", 10)]) (g := gName 10) rfl nd rfl rfl (sw_true rfl rfl rfl (by decide +kernel)) (pi_list (pe_ix ix_list (pv 3) (pe_ix ix_tup (pv 6) (pe_un un_neg pe_int) (fun _ _ => rfl)) (fun _ _ => rfl))) (blkOk_by (own := [("_law_place", 10)]) (N := ["_law_cell", "_law_at", "_law_web_here", "_law_nigh", "_law_left", "_law_found", "_law_way", "_law_far", "_law_turn", "_law_some_here", "_law_place"]) (sc := defScope sLParted) (by decide +kernel)) (fun _ _ _ _ _ => pg_name (i := 10) nd rfl (Or.inl rfl)) (fun _ _ _ _ _ => pts_one (PW.pt (pw_and (pt_cmpR (inS K) (pv 10) (pv 4) (by rfl)) (pw_and1 (pt_cmpR (ninS K) (pv 10) (pv 6) (by rfl)))))) (fun _ _ _ _ _ => pv 10))
      (pss_one (ps_if (pt_cmpR (op_neD hr.units) (pv 9) (pe_lst pa_nil) (nomark _)) (pss_one (ps_set (i := 6) nd rfl (Or.inr rfl) (pe_op op_catT (pv 6) (pe_tup (pa_cons (pe_ix ix_list (pv 9) (pe_call G1 (hr) (by rfl) g1 k1 b1 .nil pass0 (pa_cons (pv 0) (pa_cons (pe_op op_add (pe_op op_add (pv 1) (pe_int)) (pv 8)) (pa_cons (pe_callB call_len_seq (by rfl) T.len PySem.boot_len (pa_cons (pv 9) (pa_nil))) (pa_nil))))) (fun _ _ => rfl)) (pa_nil)))))) pss_nil))))
      (pss_cons (ps_set (i := 4) nd rfl (Or.inr rfl) (pe_lc (own := [("_law_place", 10)]) (g := gName 10) rfl nd (pi_list (pv 4)) (blkOk_by (own := [("_law_place", 10)]) (N := ["_law_cell", "_law_at", "_law_web_here", "_law_nigh", "_law_left", "_law_found", "_law_way", "_law_far", "_law_turn", "_law_some_here", "_law_place"]) (sc := defScope sLParted) (by decide +kernel)) (fun _ _ _ _ _ => pg_name (i := 10) nd rfl (Or.inl rfl)) (fun _ _ _ _ _ => pts_one (pt_cmpR (ninS K) (pv 10) (pv 6) (by rfl))) (fun _ _ _ _ _ => pv 10)))
      (pss_one (ps_expr (pe_bm PySem.F.plainAttrs_list PySem.F.slot_list_append PySem.F.type_list_append mt_append (pv 5) (pa_cons (pv 6) (pa_nil))))))))))
      (pss_one (ps_ret (pe_callTy call_tuple_of (by rfl) T.tuple boot_tuple (pa_cons (pv 5) (pa_nil))))))), ?_⟩
    refine ⟨_, rfl, _, _, _, _, rfl, rfl, SqT.of hA, atI_nat (j := 0) rfl, _, rfl, ⟨by omega, by omega, by omega, by omega⟩, fun L0 hL0 => ?_⟩
    rw [rgV_irange]
    refine ⟨Nat.zero_le _, fun D hD => ?_⟩
    have s1 := same_new hL0 (RowO (irange n))
    have s2 := s1.trans (same_new hD (.lst []))
    have neL : L0 ≠ D := ne_of_none upd_same hD
    have hD0 : H D = none := s1.free hD
    refine ⟨fun μ σ G => ∃ ws was left L y6 y7 y8 y9, μ = left.length ∧ σ = [some (.int c), some (.int t), some (.ref a), some (.ref b), some (.ref L), some (.ref D), y6, y7, y8, y9, none] ∧ Same H G ∧ G L = some (RowO left) ∧ L ≠ D ∧ G D = some (.lst (refs was)) ∧ Each TupO G was ws ∧ DrawnTo n es ws left,
      ⟨_, [], [], irange n, L0, none, none, none, none, rfl, rfl, s2, by rw [upd_ne neL]; exact upd_same, neL, upd_same, Each.nil, DrawnTo.start n es⟩, ?_⟩
    rintro μ σ G ⟨ws, was, left, L, y6, y7, y8, y9, rfl, rfl, sm, hL, neLD, hG, rows, DT⟩
    have dl := DT.len
    have cnt := DT.count
    have wl := rows.len
    refine ⟨_, rfl, Nat.zero_le _, fun e0 he0 => ?_⟩
    have se := same_new he0 (.lst [])
    have z0 : (upd G e0 (.lst [])) e0 = some (RowO []) := upd_same
    have hL1 := se _ _ hL
    have hG1 := se _ _ hG
    have sm1 := sm.trans se
    have rows1 := rows.same se
    generalize hH1 : upd G e0 (.lst []) = G1' at se z0 hL1 hG1 sm1 rows1
    refine ⟨_, _, dp_row hL1, dp_row (xs := []) z0, shaped_row left, shaped_row [], _, rfl, ?_⟩
    rw [eqv_row]
    by_cases nil : left = []
    · rw [decide_eq_true nil]
      refine iteF ?_
      subst nil
      refine ⟨_, rfl, D, _, rfl, .inl ⟨SqL.of hG1, fun r hr => ?_⟩⟩
      have sr := same_new hr (.tup (refs was))
      exact q _ r ws (sm1.trans sr) ⟨was, upd_same, rows1.same sr⟩ DT.parting
    · rw [decide_eq_false nil]
      have lpos := List.length_pos_iff.mpr nil
      refine iteT ⟨fun σ2 G2 => ∃ ws2 was2 left2 L2 y6 y7 y8 y9, left2.length < left.length ∧ σ2 = [some (.int c), some (.int t), some (.ref a), some (.ref b), some (.ref L2), some (.ref D), y6, y7, y8, y9, none] ∧ Same H G2 ∧ G2 L2 = some (RowO left2) ∧ L2 ≠ D ∧ G2 D = some (.lst (refs was2)) ∧ Each TupO G2 was2 ws2 ∧ DrawnTo n es ws2 left2,
        fun σ2 G2 ⟨ws2, was2, left2, L2, y6, y7, y8, y9, l, z⟩ => ⟨_, l, ws2, was2, left2, L2, y6, y7, y8, y9, rfl, z⟩, ?_⟩
      have ll : (left.map V.int).length = left.length := List.length_map _
      have lenL : ∀ G' : Hp, G' L = some (RowO left) → SqL K G' L (left.map V.int) := fun G' h => SqL.of h
      refine ⟨_, rfl, _, rfl, _, rfl, _, rfl, L, _, rfl, .inl (lenL _ hL1), _, _, rfl, rfl, _, rfl, L, _, rfl, .inl (lenL _ hL1), c, _, _, rfl, ?_, ?_, ?_, ?_, fun v v0 v1 => ?_⟩
      · rw [ll]; omega
      · rw [ll]; omega
      · rw [ll]; omega
      · rw [ll]; omega
      rw [ll] at v1
      obtain ⟨vl, ve⟩ := toNat_mod v0 v1
      obtain ⟨x, hx⟩ : ∃ x, left[v.toNat]? = some x := ⟨_, List.getElem?_eq_getElem vl⟩
      have xm := List.mem_of_getElem? hx
      refine ⟨L, _, _, _, rfl, rfl, lenL _ hL1, at_of ve (ints_get hx), by show 1 ≤ sizeLine; decide, fun wa hwa => ?_⟩
      have sw := same_new hwa (TupO [x])
      have hwa2 : (upd G1' wa (TupO [x])) wa = some (TupO [x]) := upd_same
      have hL2 := sw _ _ hL1
      have hG2 := sw _ _ hG1
      have sm2 := sm1.trans sw
      have rows2 := rows1.same sw
      have W0 : Way n es [x] := ⟨by simp, by simp, fun z hz => by rw [List.mem_singleton] at hz; subst hz; exact DT.bd z xm, trivial⟩
      -- far
      refine ⟨_, rfl, _, rfl, _, _, rfl, rfl, _, rfl, L, _, rfl, .inl (lenL _ hL2), _, _, rfl, rfl, _, rfl, _, _, _, _, rfl, rfl, SqT.of (sm2 _ _ hA), atI_nat (j := 0) rfl, _, _, rfl, rfl, c, _, _, rfl, ?_, ?_, ?_, ?_, fun f f0 f1 => ?_⟩
      · rw [ll]; omega
      · rw [ll]; omega
      · omega
      · omega
      refine ⟨_, rfl, f, rfl, by omega, by omega, ?_⟩
      refine for_range (lo := 0) (n := f.toNat) (fun i σ G3 => ∃ wb wv y8 y9, σ = [some (.int c), some (.int t), some (.ref a), some (.ref b), some (.ref L), some (.ref D), some (.ref wb), some (.int f), y8, y9, none] ∧ Same H G3 ∧ G3 L = some (RowO left) ∧ G3 D = some (.lst (refs was)) ∧ Each TupO G3 was ws ∧
          G3 wb = some (TupO wv) ∧ Way n es wv ∧ ∀ z ∈ wv, z ∈ left)
        ⟨wa, [x], _, _, rfl, sm2, hL2, hG2, rows2, hwa2, W0, fun z hz => by rw [List.mem_singleton] at hz; exact hz ▸ xm⟩ ?_ ?_
      · rintro i σ G3 hi ⟨wb, wv, y8, y9, rfl, sm3, hL3, hG3, rows3, hwb, Wv, sub⟩
        have ei : (0 + (i : Int)) = (i : Int) := by omega
        rw [ei]
        obtain ⟨e, hlast⟩ : ∃ e, wv.getLast? = some e := ⟨_, List.getLast?_eq_getLast Wv.ne⟩
        have eb := Wv.bd e (List.mem_of_getLast? hlast)
        have lx := N.len
        obtain ⟨row, hrow⟩ : ∃ row, xss[e.toNat]? = some row := ⟨_, List.getElem?_eq_getElem (by omega)⟩
        obtain ⟨ra, hra, hrr⟩ := each.get hrow
        have hrr3 := sm3 _ _ hrr
        have adj : ∀ z ∈ row, Adj es e z := fun z hz => by
          have q := (N.mem _ _ hrow z).mp hz
          rw [List.take_length, show ((e.toNat : Nat) : Int) = e by omega] at q
          exact q
        have rlen := length_le_n (N.nd row (List.mem_of_getElem? hrow)) fun z hz => (W.ok.adj (adj z hz)).2.1
        have wlen := length_le_n Wv.nd Wv.bd
        -- some_here
        refine ⟨_, rfl, _, rfl, _, rfl, wb, _, _, _, rfl, rfl, SqT.of hwb, at_getLast hlast, b, _, _, _, rfl, rfl, SqL.of (sm3 _ _ hB), at_of (j := e.toNat) (by omega) (refs_get hra), ra, rfl, ⟨_, SqL.of hrr3⟩, fun D2 hD2 => ?_⟩
        refine lc_list (K := K) (a := ra) (xs := row.map V.int) (fun j G4 => Lc G3 D2 (((row.take j).filter fun z => decide (z ∈ left) && decide (z ∉ wv)).map V.int) G4) (Lc.start hD2) (fun j G4 _ c4 => SqL.of (c4.same _ _ hrr3)) ?_ ?_
        · rintro j v' G4 hv' c4
          obtain ⟨z, hz, rfl⟩ := ints_at hv'
          have tk : row.take (j + 1) = row.take j ++ [z] := by rw [List.take_add_one, hz]; rfl
          have room : (((row.take j).filter fun z => decide (z ∈ left) && decide (z ∉ wv)).map V.int).length < sizeLine := by
            have l1 := List.length_filter_le (fun z => decide (z ∈ left) && decide (z ∉ wv)) (row.take j)
            have l2 : (row.take j).length ≤ row.length := by rw [List.length_take]; exact Nat.min_le_right _ _
            rw [List.length_map]
            exact small1000 (by omega)
          refine ⟨rfl, _, rfl, _, rfl, L, _, rfl, .inl (lenL _ (c4.same _ _ hL3)), rfl, ints_flat _, _, rfl, ?_⟩
          rw [ints_any, tk, filter_snoc, List.map_append]
          by_cases m1 : z ∈ left
          · rw [decide_eq_true m1]
            refine iteT ⟨_, rfl, _, rfl, wb, _, rfl, .inr (SqT.of (c4.same _ _ hwb)), rfl, ints_flat _, _, rfl, ?_⟩
            rw [ints_any]
            by_cases m2 : z ∈ wv
            · rw [decide_eq_true m2]
              refine iteF ?_
              rw [if_neg (by simp [m2]), List.map_nil, List.append_nil]
              exact c4
            · rw [decide_eq_false m2]
              refine iteT ⟨_, rfl, _, c4.lst, room, ?_⟩
              rw [if_pos (by simp [m1, m2])]
              exact c4.add hD2 _
          · rw [decide_eq_false m1]
            refine iteF ?_
            rw [if_neg (by simp [m1]), List.map_nil, List.append_nil]
            exact c4
        rintro G4 c4
        have eT2 : row.take (row.map V.int).length = row := by rw [List.length_map, List.take_length]
        rw [eT2] at c4
        have flen : (row.filter fun z => decide (z ∈ left) && decide (z ∉ wv)).length ≤ 9 := by
          have := List.length_filter_le (fun z => decide (z ∈ left) && decide (z ∉ wv)) row
          omega
        have fmem : ∀ z ∈ row.filter (fun z => decide (z ∈ left) && decide (z ∉ wv)), z ∈ row ∧ z ∈ left ∧ z ∉ wv := fun z hz => by
          obtain ⟨q1, q2⟩ := List.mem_filter.mp hz
          simp only [Bool.and_eq_true, decide_eq_true_eq] at q2
          exact ⟨q1, q2.1, q2.2⟩
        generalize hSH : (row.filter fun z => decide (z ∈ left) && decide (z ∉ wv)) = sh1 at c4 flen fmem
        have hS4 : G4 D2 = some (RowO sh1) := c4.lst
        refine ⟨_, rfl, Nat.zero_le _, fun e1 he1 => ?_⟩
        have s5 := same_new he1 (.lst [])
        have z5 : (upd G4 e1 (.lst [])) e1 = some (RowO []) := upd_same
        have s45 := c4.same.trans s5
        have hS5 := s5 _ _ hS4
        generalize hH5 : upd G4 e1 (.lst []) = G5 at s5 z5 s45 hS5
        refine ⟨_, _, dp_row hS5, dp_row (xs := []) z5, shaped_row _, shaped_row [], _, rfl, ?_⟩
        rw [eqv_row]
        by_cases none5 : sh1 = []
        · rw [decide_eq_true none5]
          exact iteF ⟨wb, wv, _, _, rfl, sm3.trans s45, s45 _ _ hL3, s45 _ _ hG3, rows3.same s45, s45 _ _ hwb, Wv, sub⟩
        · rw [decide_eq_false none5]
          have spos := List.length_pos_iff.mpr none5
          have sl : (sh1.map V.int).length = sh1.length := List.length_map _
          refine iteT ?_
          refine ⟨_, rfl, _, rfl, _, rfl, _, rfl, _, _, rfl, rfl, _, rfl, _, _, rfl, rfl, _, rfl, D2, _, rfl, .inl (SqL.of hS5), c, _, _, rfl, ?_, ?_, ?_, ?_, fun u u0 u1 => ?_⟩
          · omega
          · omega
          · rw [sl]; omega
          · rw [sl]; omega
          rw [sl] at u1
          obtain ⟨ul, ue⟩ := toNat_mod u0 u1
          obtain ⟨z, hz⟩ : ∃ z, sh1[u.toNat]? = some z := ⟨_, List.getElem?_eq_getElem ul⟩
          obtain ⟨zr, zl, zw⟩ := fmem z (List.mem_of_getElem? hz)
          have zb := DT.bd z zl
          refine ⟨D2, _, _, _, rfl, rfl, SqL.of hS5, at_of ue (ints_get hz), by show 1 ≤ sizeLine; decide, fun t2 ht2 => ?_⟩
          have s6 := same_new ht2 (.tup [.int z])
          refine ⟨wb, t2, _, [.int z], rfl, rfl, SqT.of (s6 _ _ (s45 _ _ hwb)), SqT.of upd_same, fun y => Wv.ne (List.map_eq_nil_iff.mp y), ?_, fun y => (by cases y), fun _ p hp => ?_⟩
          · rw [List.length_map]
            exact small9 (by show wv.length + 1 ≤ 1000; omega)
          have s7 := same_new hp (.tup (wv.map V.int ++ [.int z]))
          have s47 := (s45.trans s6).trans s7
          refine ⟨p, wv ++ [z], _, _, rfl, sm3.trans s47, s47 _ _ hL3, s47 _ _ hG3, rows3.same s47, ?_, ⟨by simp, nodup_append_of Wv.nd (by simp) fun y hy hm => ?_, fun y hy => ?_, linked_snoc Wv.lk hlast (adj z zr)⟩, fun y hy => ?_⟩
          · rw [upd_same]
            unfold TupO
            rw [List.map_append]
            rfl
          · rw [List.mem_singleton] at hm
            exact zw (hm ▸ hy)
          · rcases List.mem_append.mp hy with hy | hy
            · exact Wv.bd y hy
            · rw [List.mem_singleton] at hy
              exact hy ▸ zb
          · rcases List.mem_append.mp hy with hy | hy
            · exact sub y hy
            · rw [List.mem_singleton] at hy
              exact hy ▸ zl
      · rintro σ G3 ⟨wb, wv, y8, y9, rfl, sm3, hL3, hG3, rows3, hwb, Wv, sub⟩
        refine ⟨_, rfl, L, rfl, ⟨_, lenL _ hL3⟩, fun D2 hD2 => ?_⟩
        refine lc_list (K := K) (a := L) (xs := left.map V.int) (fun j G4 => Lc G3 D2 (((left.take j).filter fun z => decide (z ∉ wv)).map V.int) G4) (Lc.start hD2) (fun j G4 _ c4 => lenL _ (c4.same _ _ hL3)) ?_ ?_
        · rintro j v' G4 hv' c4
          obtain ⟨z, hz, rfl⟩ := ints_at hv'
          have tk : left.take (j + 1) = left.take j ++ [z] := by rw [List.take_add_one, hz]; rfl
          refine ⟨rfl, _, rfl, _, rfl, wb, _, rfl, .inr (SqT.of (c4.same _ _ hwb)), rfl, ints_flat _, _, rfl, ?_⟩
          rw [ints_any, tk, filter_snoc, List.map_append]
          by_cases m2 : z ∈ wv
          · rw [decide_eq_true m2]
            refine iteF ?_
            rw [if_neg (by simp [m2]), List.map_nil, List.append_nil]
            exact c4
          · rw [decide_eq_false m2]
            refine iteT ⟨_, rfl, _, c4.lst, ?_, ?_⟩
            · have l1 := List.length_filter_le (fun z => decide (z ∉ wv)) (left.take j)
              have l2 : (left.take j).length ≤ left.length := by rw [List.length_take]; exact Nat.min_le_right _ _
              rw [List.length_map]
              exact small1000 (by omega)
            · rw [if_pos (by simp [m2])]
              exact c4.add hD2 _
        rintro G4 c4
        have eT2 : left.take (left.map V.int).length = left := by rw [List.length_map, List.take_length]
        rw [eT2] at c4
        have less := DrawnTo.less DT.nd Wv sub
        have DT2 := DT.step Wv sub
        have hG4 := c4.same _ _ hG3
        have rows4 := rows3.same c4.same
        have hwb4 := c4.same _ _ hwb
        have neD : D2 ≠ D := (ne_of_none hG3 hD2).symm
        refine ⟨_, rfl, .inl ⟨rfl, _, SqL.of hG4⟩, _, rfl, D, _, _, rfl, rfl, hG4, ?_, ?_⟩
        · rw [refs_len]
          exact small1000 (by omega)
        rw [refs_snoc]
        have e3 := rows4.snoc hwb4
        refine ⟨ws ++ [wv], was ++ [wb], left.filter (fun z => decide (z ∉ wv)), D2, _, _, _, _, less, rfl, fun d o e => ?_, ?_, neD, upd_same, ⟨e3.len, fun i' c' z h1 h2 => ?_⟩, DT2⟩
        · rw [upd_ne (ne_of_none e hD0)]
          exact c4.same _ _ (sm3 d o e)
        · rw [upd_ne neD]
          exact c4.lst
        · have e := e3.at_ i' c' z h1 h2
          rw [upd_ne (ne_of e hG4 (by intro y; cases y))]
          exact e
end
end FwW

set_option Elab.async false
set_option linter.all false
set_option maxRecDepth 100000
set_option maxHeartbeats 8000000
namespace FwW
open PySem PySem.Spec PyProof.Rows L2 Fw FwX
/-! ### the plain law -/
theorem way_ex {n : Nat} {es : List Tie} {xss : List (List Int)} (W : WebOk n es) (N : NearOk n es xss) {m : Nat} : ∀ (k m' : Nat) (w : List Int), m' ≤ k → WayTo n es xss m w m' → ∃ w2 m2, WayTo n es xss m w2 m2 ∧ leastN n xss m2 + 1 = leastN n xss m := by
  intro k
  induction k with
  | zero =>
    intro m' w h T
    have e : m' = 0 := by omega
    subst e
    obtain ⟨e, hl⟩ : ∃ e, w.getLast? = some e := ⟨_, List.getLast?_eq_getLast T.way.ne⟩
    have eb := T.way.bd e (List.mem_of_getLast? hl)
    obtain ⟨row, hr⟩ : ∃ row, xss[e.toNat]? = some row := ⟨_, List.getElem?_eq_getElem (by have := N.len; omega)⟩
    have led := T.led e hl
    by_cases d : leastN n xss 0 + 1 = leastN n xss m
    · exact ⟨w, 0, T, d⟩
    · obtain ⟨p, hp, _⟩ := led_next (n := n) (m := 0) hr (by omega)
      have := on_le (List.mem_filter.mp hp).2
      have := Nat.two_pow_pos p.toNat
      omega
  | succ k ih =>
    intro m' w h T
    obtain ⟨e, hl⟩ : ∃ e, w.getLast? = some e := ⟨_, List.getLast?_eq_getLast T.way.ne⟩
    have eb := T.way.bd e (List.mem_of_getLast? hl)
    obtain ⟨row, hr⟩ : ∃ row, xss[e.toNat]? = some row := ⟨_, List.getElem?_eq_getElem (by have := N.len; omega)⟩
    have led := T.led e hl
    by_cases d : leastN n xss m' + 1 = leastN n xss m
    · exact ⟨w, m', T, d⟩
    · obtain ⟨p, hp, ep⟩ := led_next (n := n) (m := m') hr (by omega)
      have := on_le (List.mem_filter.mp hp).2
      have := Nat.two_pow_pos p.toNat
      exact ih (m' - 2 ^ p.toNat) (w ++ [p]) (by omega) (T.step W N hl hr hp ep)
theorem least_ex {n : Nat} {es : List Tie} {xss : List (List Int)} (W : WebOk n es) (N : NearOk n es xss) : ∀ (k : Nat) (ws : List (List Int)) (m : Nat), n - ws.length ≤ k → LeastTo n es xss ws m → ∃ ws2, LeastTo n es xss ws2 0 := by
  intro k
  induction k with
  | zero =>
    intro ws m h T
    by_cases m0 : m = 0
    · exact ⟨ws, m0 ▸ T⟩
    · obtain ⟨p, hp, ep⟩ := start_some (n := n) (xss := xss) T.lt m0
      obtain ⟨w, m2, U, less⟩ := way_ex W N _ _ _ (Nat.le_refl _) (WayTo.start T.lt hp ep)
      have c := (T.step U less).count
      rw [List.length_append] at c
      simp at c
      omega
  | succ k ih =>
    intro ws m h T
    by_cases m0 : m = 0
    · exact ⟨ws, m0 ▸ T⟩
    · obtain ⟨p, hp, ep⟩ := start_some (n := n) (xss := xss) T.lt m0
      obtain ⟨w, m2, U, less⟩ := way_ex W N _ _ _ (Nat.le_refl _) (WayTo.start T.lt hp ep)
      exact ih _ _ (by rw [List.length_append]; simp; omega) (T.step U less)
theorem keeps_nil (ws : List (List Int)) : Fw.Keeps [] ws := fun _ h => (List.not_mem_nil h).elim
theorem both_nil (bar : List Int) : both bar [] = 0 := by simp [both]
/-- no bar shows more than the ways by trial -/
theorem bar_few {n : Nat} {es : List Tie} {xss : List (List Int)} (W : WebOk n es) (N : NearOk n es xss) {bar : List Int} (nd : bar.Nodup) {v : Int} (S : Shown n es bar v) : v ≤ leastN n xss (2 ^ n - 1) := by
  obtain ⟨ws, T⟩ := least_ex W N n [] (2 ^ n - 1) (by simp) (LeastTo.start n es xss)
  obtain ⟨P, hl⟩ := T.parting
  have q := bar_le W P nd (keeps_nil ws) S
  rw [both_nil, hl] at q
  omega
theorem both_le {bar e1 e2 : List Int} (h : ∀ x ∈ e1, x ∈ e2) : both bar e1 ≤ both bar e2 := by
  unfold both
  induction bar with
  | nil => exact Nat.le_refl _
  | cons b bar ih =>
    rw [List.filter_cons, List.filter_cons]
    by_cases m : b ∈ e1
    · rw [if_pos (decide_eq_true m), if_pos (decide_eq_true (h b m))]
      simp only [List.length_cons]
      omega
    · rw [if_neg (by simp [m])]
      by_cases m2 : b ∈ e2
      · rw [if_pos (decide_eq_true m2)]
        simp only [List.length_cons]
        omega
      · rw [if_neg (by simp [m2])]
        exact ih
/-- a place is on one way alone -/
theorem one_way : ∀ {ws : List (List Int)}, ws.flatten.Nodup → ∀ {v w : List Int} {x : Int}, v ∈ ws → w ∈ ws → x ∈ v → x ∈ w → v = w
  | [], _, _, _, _, h, _, _, _ => (List.not_mem_nil h).elim
  | u :: ws, nd, v, w, x, hv, hw, xv, xw => by
    rw [List.flatten_cons, List.nodup_append] at nd
    obtain ⟨h1, h2, h3⟩ := nd
    rcases List.mem_cons.mp hv with ev | hv
    · rcases List.mem_cons.mp hw with ew | hw
      · rw [ev, ew]
      · exact absurd rfl (h3 x (ev ▸ xv) x (List.mem_flatten.mpr ⟨w, hw, xw⟩))
    · rcases List.mem_cons.mp hw with ew | hw
      · exact absurd rfl (h3 x (ew ▸ xw) x (List.mem_flatten.mpr ⟨v, hv, xv⟩))
      · exact one_way h2 hv hw xv xw
theorem tip_out {w : List Int} (nd : w.Nodup) {x : Int} (h : w.head? = some x ∨ w.getLast? = some x) : x ∉ inner w := by
  cases w with
  | nil => rcases h with h | h <;> cases h
  | cons a r =>
    show x ∉ r.dropLast
    obtain ⟨h1, h2⟩ := List.nodup_cons.mp nd
    intro hx
    rcases h with h | h
    · have e : a = x := Option.some.inj h
      subst e
      exact h1 ((List.dropLast_sublist r).subset hx)
    · cases r with
      | nil => cases hx
      | cons b s =>
        rw [List.getLast?_cons_cons] at h
        obtain ⟨ys, e⟩ := List.getLast?_eq_some_iff.mp h
        rw [e, List.dropLast_concat] at hx
        rw [e, List.nodup_append] at h2
        exact h2.2.2 x hx x List.mem_cons_self rfl
/-- the tips: the first and the last places -/
def firsts (ws : List (List Int)) : List Int := ws.map fun w => w.headD 0
def lasts (ws : List (List Int)) : List Int := ws.map fun w => w.getLastD 0
theorem headD_of {w : List Int} (h : w ≠ []) : w.head? = some (w.headD 0) := by
  cases w with
  | nil => exact absurd rfl h
  | cons a r => rfl
theorem lastD_of {w : List Int} (h : w ≠ []) : w.getLast? = some (w.getLastD 0) := by
  rw [List.getLastD_eq_getLast?, List.getLast?_eq_getLast h]
  rfl
structure Tips (ws : List (List Int)) (tips : List Int) : Prop where
  lt : tips.Pairwise (· < ·)
  mem : ∀ x, x ∈ tips ↔ x ∈ firsts ws ++ lasts ws
theorem Tips.way {n : Nat} {es : List Tie} {ws : List (List Int)} (P : Parting n es ws) {tips : List Int} (T : Tips ws tips) {x : Int} (h : x ∈ tips) : ∃ w ∈ ws, x ∈ w ∧ (w.head? = some x ∨ w.getLast? = some x) := by
  rcases List.mem_append.mp ((T.mem x).mp h) with h | h
  · obtain ⟨w, hw, rfl⟩ := List.mem_map.mp h
    have e := headD_of (P.way w hw).ne
    exact ⟨w, hw, List.mem_of_mem_head? e, .inl e⟩
  · obtain ⟨w, hw, rfl⟩ := List.mem_map.mp h
    have e := lastD_of (P.way w hw).ne
    exact ⟨w, hw, List.mem_of_getLast? e, .inr e⟩
theorem Tips.places {n : Nat} {es : List Tie} {ws : List (List Int)} (P : Parting n es ws) {tips : List Int} (T : Tips ws tips) : PlacesIn n tips := ⟨T.lt, fun x hx => by
  obtain ⟨w, hw, xw, _⟩ := T.way P hx
  exact (P.way w hw).bd x xw⟩
theorem Tips.keeps {n : Nat} {es : List Tie} {ws : List (List Int)} (P : Parting n es ws) {tips : List Int} (T : Tips ws tips) : Fw.Keeps tips ws := fun x hx hm => by
  obtain ⟨w, hw, xw, ht⟩ := T.way P hx
  obtain ⟨v, hv, xv⟩ := List.mem_flatMap.mp hm
  have e := one_way (P.all.nodup_iff.mpr (irange_nodup n)) hv hw ((inner_sub v).subset xv) xw
  subst e
  exact tip_out (P.way v hv).nd ht xv
theorem PlacesIn.take {n : Nat} {xs : List Int} (p : PlacesIn n xs) (k : Nat) : PlacesIn n (xs.take k) := ⟨p.lt.sublist (List.take_sublist k xs), fun x hx => p.bd x (List.mem_of_mem_take hx)⟩
theorem PlacesIn.nil (n : Nat) : PlacesIn n [] := ⟨List.Pairwise.nil, fun _ h => (List.not_mem_nil h).elim⟩
theorem cut_take (xs : List Int) (k : Int) (h0 : 0 ≤ k) : cutV (xs.map V.int) none (some k) = (xs.take k.toNat).map V.int := by
  unfold cutV
  obtain ⟨j, rfl⟩ := Int.eq_ofNat_of_zero_le h0
  rw [HT.sIx_none, show (some ((j : Nat) : Int) : Option Int) = some (j : Int) from rfl, HT.sIx_nat, List.drop_zero, Nat.sub_zero, Int.toNat_natCast, List.map_take, List.length_map]
  by_cases c : j ≤ xs.length
  · rw [Nat.min_eq_left c]
  · rw [Nat.min_eq_right (by omega), List.take_of_length_le (by simp), List.take_of_length_le (by simp; omega)]
theorem whole_take (xs : List Int) (k : Int) (h0 : 0 ≤ k) (h : HT.sIx (xs.map V.int).length (xs.map V.int).length (some k) = (xs.map V.int).length) : xs.take k.toNat = xs := by
  obtain ⟨j, rfl⟩ := Int.eq_ofNat_of_zero_le h0
  rw [show (some ((j : Nat) : Int) : Option Int) = some (j : Int) from rfl, HT.sIx_nat, List.length_map] at h
  rw [Int.toNat_natCast]
  exact List.take_of_length_le (by omega)
theorem paper_eq {a b c d : Int} (h1 : a = c) (h2 : b = d) : V.bl (decide (a = b)) = V.bl (decide (V.int c = V.int d)) := by
  subst h1
  subst h2
  by_cases q : a = b
  · rw [decide_eq_true q, decide_eq_true (by rw [q])]
  · rw [decide_eq_false q, decide_eq_false fun z => q (V.int.inj z)]
theorem ite_or {c A B : Prop} [Decidable c] (hB : B) (hA : c → B → A) : if c then A else B := by
  by_cases h : c
  · rw [if_pos h]
    exact hA h hB
  · rw [if_neg h]
    exact hB
theorem firsts_snoc {ws : List (List Int)} {i : Nat} {v : List Int} (h : ws[i]? = some v) : firsts (ws.take (i + 1)) = firsts (ws.take i) ++ [v.headD 0] := by
  unfold firsts
  rw [List.take_add_one, h, List.map_append]
  rfl
theorem lasts_snoc {ws : List (List Int)} {i : Nat} {v : List Int} (h : ws[i]? = some v) : lasts (ws.take (i + 1)) = lasts (ws.take i) ++ [v.getLastD 0] := by
  unfold lasts
  rw [List.take_add_one, h, List.map_append]
  rfl
theorem at_head {w : List Int} (h : w ≠ []) : atI (w.map V.int) 0 = some (.int (w.headD 0)) := by
  cases w with
  | nil => exact absurd rfl h
  | cons a r => exact atI_nat (j := 0) rfl
section
variable {P : Program} {w : World} {K : PySem.W.Frag} {mg : Str → Option Value} {base : Heap}
def spLaw (K : PySem.W.Frag) : Sp := fun vs H Q _ => ∃ (a : Addr) (ns : List Int), vs = [.ref a] ∧ SqL K H a (ns.map V.int) ∧ ns.length ≤ 63 ∧ ∀ H', Q (.bl true) H'
theorem ok_law {f f1 f2 f3 f4 f5 f6 f7 f8 f9 f10 f11 f12 f13 f14 : Addr} {fd fd1 fd2 fd3 fd4 fd5 fd6 fd7 fd8 fd9 fd10 fd11 fd12 fd13 fd14 : FuncData} (F : Fun K "law" "law" sLaw f fd) (T : Blt mg)
    (G1 : FnOk P w K mg base CX0 1 f1 fd1 ["_law_script", "_law_k"] (spCell K)) (g1 : mg "_law_cell_at" = some (.ref f1)) (k1 : PySem.W.keepIn K (.ref f1) = true) (b1 : Binds K fd1 ["_law_script", "_law_k"] [])
    (G2 : FnOk P w K mg base CX0 1 f2 fd2 ["_law_cell", "_law_k", "_law_bound"] spDraw) (g2 : mg "_law_draw" = some (.ref f2)) (k2 : PySem.W.keepIn K (.ref f2) = true) (b2 : Binds K fd2 ["_law_cell", "_law_k", "_law_bound"] [])
    (G3 : FnOk P w K mg base CX0 2 f3 fd3 ["_law_cell", "_law_most"] spLWeb) (g3 : mg "_law_web" = some (.ref f3)) (k3 : PySem.W.keepIn K (.ref f3) = true) (b3 : Binds K fd3 ["_law_cell", "_law_most"] [])
    (G4 : FnOk P w K mg base CX0 1 f4 fd4 ["_law_web_here"] spLNear) (g4 : mg "_law_near" = some (.ref f4)) (k4 : PySem.W.keepIn K (.ref f4) = true) (b4 : Binds K fd4 ["_law_web_here"] [])
    (G5 : FnOk P w K mg base CX0 2 f5 fd5 ["_law_cell", "_law_many", "_law_at"] spLSome) (g5 : mg "_law_some" = some (.ref f5)) (k5 : PySem.W.keepIn K (.ref f5) = true) (b5 : Binds K fd5 ["_law_cell", "_law_many", "_law_at"] [])
    (G6 : FnOk P w K mg base CX0 2 f6 fd6 ["_law_cell", "_law_at", "_law_web_here", "_law_nigh"] spLParted) (g6 : mg "_law_parted" = some (.ref f6)) (k6 : PySem.W.keepIn K (.ref f6) = true) (b6 : Binds K fd6 ["_law_cell", "_law_at", "_law_web_here", "_law_nigh"] [])
    (G7 : FnOk P w K mg base CX0 21 f7 fd7 ["web"] spFewest) (g7 : mg "fewest" = some (.ref f7)) (k7 : PySem.W.keepIn K (.ref f7) = true) (b7 : Binds K fd7 ["web"] [])
    (G8 : FnOk P w K mg base CX0 5 f8 fd8 ["web"] spBestBar) (g8 : mg "best_bar" = some (.ref f8)) (k8 : PySem.W.keepIn K (.ref f8) = true) (b8 : Binds K fd8 ["web"] [])
    (G9 : FnOk P w K mg base CX0 5 f9 fd9 ["web", "bar"] spShows) (g9 : mg "shows" = some (.ref f9)) (k9 : PySem.W.keepIn K (.ref f9) = true) (b9 : Binds K fd9 ["web", "bar"] [])
    (G10 : FnOk P w K mg base CX0 5 f10 fd10 ["web"] spParts) (g10 : mg "parts" = some (.ref f10)) (k10 : PySem.W.keepIn K (.ref f10) = true) (b10 : Binds K fd10 ["web"] [])
    (G11 : FnOk P w K mg base CX0 23 f11 fd11 ["web"] spLeastParting) (g11 : mg "least_parting" = some (.ref f11)) (k11 : PySem.W.keepIn K (.ref f11) = true) (b11 : Binds K fd11 ["web"] [])
    (G12 : FnOk P w K mg base CX0 5 f12 fd12 ["web", "thing"] spBarPaper) (g12 : mg "is_bar_paper" = some (.ref f12)) (k12 : PySem.W.keepIn K (.ref f12) = true) (b12 : Binds K fd12 ["web", "thing"] [])
    (G13 : FnOk P w K mg base CX0 5 f13 fd13 ["web", "ends", "bar"] spShowsWith) (g13 : mg "shows_with" = some (.ref f13)) (k13 : PySem.W.keepIn K (.ref f13) = true) (b13 : Binds K fd13 ["web", "ends", "bar"] [])
    (G14 : FnOk P w K mg base CX0 5 f14 fd14 ["web", "ends", "parting"] spKeeps) (g14 : mg "keeps" = some (.ref f14)) (k14 : PySem.W.keepIn K (.ref f14) = true) (b14 : Binds K fd14 ["web", "ends", "parting"] []) :
    FnOk P w K mg base CX0 24 f fd ["_law_script"] (spLaw K) := by
  refine F.ok scLaw (fun vs H Q E h => ?_) (fun cdv A outer s H vs Q E hr h => ?_)
  · obtain ⟨a, ns, rfl, _⟩ := h
    rfl
  · obtain ⟨a, ns, rfl, hS, hl, q⟩ := h
    have nd := scLaw.nd
    have hr1 := hr.mono (by decide : 1 ≤ 23)
    have hr2 := hr.mono (by decide : 2 ≤ 23)
    have hr5 := hr.mono (by decide : 5 ≤ 23)
    have hr21 := hr.mono (by decide : 21 ≤ 23)
    refine ⟨_, pss_cons (ps_for PassesOwn.never rfl (pi_range1 (by rfl) T.range (pa_cons (pe_callB (call_max2 rfl) (by rfl) T.max boot_max (pa_cons (pe_int) (pa_cons (pe_callB (call_min2 rfl) (by rfl) T.min boot_min (pa_cons (pe_callB call_len_seq (by rfl) T.len PySem.boot_len (pa_cons (pv 0) (pa_nil))) (pa_cons (pe_int) (pa_nil)))) (pa_nil)))) (pa_nil))) (pg_name (i := 1) nd rfl (Or.inl rfl)) (pss_cons (ps_set (i := 2) nd rfl (Or.inl rfl) (pe_call G1 (hr1) (by rfl) g1 k1 b1 .nil pass0 (pa_cons (pv 0) (pa_cons (pv 1) (pa_nil)))))
      (pss_cons (ps_set (i := 3) nd rfl (Or.inl rfl) (pe_call G3 (hr2) (by rfl) g3 k3 b3 .nil pass0 (pa_cons (pv 2) (pa_cons (pe_int) (pa_nil)))))
      (pss_cons (ps_set (i := 4) nd rfl (Or.inl rfl) (pe_call G4 (hr1) (by rfl) g4 k4 b4 .nil pass0 (pa_cons (pv 3) (pa_nil))))
      (pss_cons (ps_set (i := 5) nd rfl (Or.inl rfl) (pe_call G7 (hr21) (by rfl) g7 k7 b7 .nil pass0 (pa_cons (pv 3) (pa_nil))))
      (pss_cons (ps_asg (pe_call G8 (hr5) (by rfl) g8 k8 b8 .nil pass0 (pa_cons (pv 3) (pa_nil))) (pg_tup (by rfl) (pgs_cons (pg_name (i := 6) nd rfl (Or.inl rfl)) (pgs_cons (pg_name (i := 7) nd rfl (Or.inl rfl)) pgs_nil))))
      (pss_cons (ps_if (PW.pt (pw_or (pt_cmpR op_ne (pe_call G9 (hr5) (by rfl) g9 k9 b9 .nil pass0 (pa_cons (pv 3) (pa_cons (pv 7) (pa_nil)))) (pv 6) (nomark _)) (pw_or1 (pt_not (pt_chain op_le op_le (pe_callB call_len_seq (by rfl) T.len PySem.boot_len (pa_cons (pe_call G10 (hr5) (by rfl) g10 k10 b10 .nil pass0 (pa_cons (pv 3) (pa_nil))) (pa_nil))) (pv 6) (pv 5)))))) (pss_one (ps_ret (pe_bl))) pss_nil)
      (pss_cons (ps_set (i := 8) nd rfl (Or.inl rfl) (pe_call G11 (hr) (by rfl) g11 k11 b11 .nil pass0 (pa_cons (pv 3) (pa_nil))))
      (pss_cons (ps_if (pt_cmpR op_ne (pe_call G12 (hr5) (by rfl) g12 k12 b12 .nil pass0 (pa_cons (pv 3) (pa_cons (pe_tup (pa_cons (pe_tup pa_nil) (pa_cons (pv 8) (pa_cons (pv 7) (pa_nil))))) (pa_nil)))) (pe_cmpR op_eq (pv 6) (pv 5) (nomark _)) (nomark _)) (pss_one (ps_ret (pe_bl))) pss_nil)
      (pss_one (ps_for PassesOwn.never rfl (pi_list (pe_lst (pa_cons (pe_int) (pa_cons (pe_int) (pa_cons (pe_int) (pa_nil)))))) (pg_name (i := 9) nd rfl (Or.inl rfl)) (pss_cons (ps_set (i := 10) nd rfl (Or.inl rfl) (pe_call G5 (hr2) (by rfl) g5 k5 b5 .nil pass0 (pa_cons (pv 2) (pa_cons (pe_ix ix_tup (pv 3) (pe_int) (fun _ _ => rfl)) (pa_cons (pv 9) (pa_nil))))))
      (pss_cons (ps_set (i := 11) nd rfl (Or.inl rfl) (pe_call G9 (hr5) (by rfl) g9 k9 b9 .nil pass0 (pa_cons (pv 3) (pa_cons (pv 10) (pa_nil)))))
      (pss_cons (ps_if (PW.pt (pw_or (pt_cmpR op_gt (pv 11) (pv 6) (nomark _)) (pw_or (PW.pt (pw_and (pt_cmpR op_eq (pv 11) (pv 6) (nomark _)) (pw_and1 (pt_cmpR (op_ltT hr.units0) (pv 10) (pv 7) (nomark _))))) (pw_or1 (pt_cmpR op_ne (pe_call G13 (hr5) (by rfl) g13 k13 b13 .nil pass0 (pa_cons (pv 3) (pa_cons (pe_tup pa_nil) (pa_cons (pv 10) (pa_nil))))) (pv 11) (nomark _)))))) (pss_one (ps_ret (pe_bl))) pss_nil)
      (pss_cons (ps_set (i := 12) nd rfl (Or.inl rfl) (pe_call G6 (hr2) (by rfl) g6 k6 b6 .nil pass0 (pa_cons (pv 2) (pa_cons (pe_op op_add (pv 9) (pe_int)) (pa_cons (pv 3) (pa_cons (pv 4) (pa_nil)))))))
      (pss_cons (ps_set (i := 13) nd rfl (Or.inl rfl) (pe_callTy call_tuple_of (by rfl) T.tuple boot_tuple (pa_cons (pe_callB (cr_sortedSet rfl) (by rfl) T.sorted boot_sorted (pa_cons (pe_callTy (cr_setL rfl) (by rfl) T.set boot_set (pa_cons (pe_op op_cat (pe_lc (own := [("_law_way", 14)]) (g := gName 14) (tt := tYes) rfl nd (pi_tup (pv 12)) (blkOk_by (own := [("_law_way", 14)]) (N := ["_law_script", "_law_k", "_law_cell", "_law_web_here", "_law_nigh", "_law_few", "_law_most", "_law_best", "_law_least", "_law_at", "_law_bar", "_law_told", "_law_parting", "_law_tips", "_law_way", "_law_here"]) (sc := defScope sLaw) (by decide +kernel)) (fun _ _ _ _ _ => pg_name (i := 14) nd rfl (Or.inl rfl)) (fun _ _ _ _ _ => pts_nil) (fun _ _ _ _ _ => pe_ix (ixT K) (pv 14) (pe_int) (fun _ _ => rfl))) (pe_lc (own := [("_law_way", 14)]) (g := gName 14) (tt := tYes) rfl nd (pi_tup (pv 12)) (blkOk_by (own := [("_law_way", 14)]) (N := ["_law_script", "_law_k", "_law_cell", "_law_web_here", "_law_nigh", "_law_few", "_law_most", "_law_best", "_law_least", "_law_at", "_law_bar", "_law_told", "_law_parting", "_law_tips", "_law_way", "_law_here"]) (sc := defScope sLaw) (by decide +kernel)) (fun _ _ _ _ _ => pg_name (i := 14) nd rfl (Or.inl rfl)) (fun _ _ _ _ _ => pts_nil) (fun _ _ _ _ _ => pe_ix (ixT K) (pv 14) (pe_un un_neg pe_int) (fun _ _ => rfl)))) (pa_nil))) (pa_nil))) (pa_nil))))
      (pss_cons (ps_if (PW.pt (pw_or (pt_cmpR op_lt (pe_callB call_len_seq (by rfl) T.len PySem.boot_len (pa_cons (pv 12) (pa_nil))) (pv 11) (nomark _)) (pw_or (pt_cmpR op_isnot_bl (pe_call G14 (hr5) (by rfl) g14 k14 b14 .nil pass0 (pa_cons (pv 3) (pa_cons (pv 13) (pa_cons (pv 12) (pa_nil))))) (pe_bl) (nomark _)) (pw_or1 (pt_cmpR op_isnot_bl (pe_call G14 (hr5) (by rfl) g14 k14 b14 .nil pass0 (pa_cons (pv 3) (pa_cons (pe_tup pa_nil) (pa_cons (pv 12) (pa_nil))))) (pe_bl) (nomark _)))))) (pss_one (ps_ret (pe_bl))) pss_nil)
      (pss_cons (ps_set (i := 15) nd rfl (Or.inl rfl) (pe_slice sl_tupA (pv 13) po_none (po_some (pe_call G2 (hr1) (by rfl) g2 k2 b2 .nil pass0 (pa_cons (pv 2) (pa_cons (pe_op op_add (pv 9) (pe_int)) (pa_cons (pe_op op_add (pe_callB call_len_seq (by rfl) T.len PySem.boot_len (pa_cons (pv 13) (pa_nil))) (pe_int)) (pa_nil))))))))
      (pss_cons (ps_if (PW.pt (pw_or (pt_cmpR op_lt (pe_callB call_len_seq (by rfl) T.len PySem.boot_len (pa_cons (pv 12) (pa_nil))) (pe_call G13 (hr5) (by rfl) g13 k13 b13 .nil pass0 (pa_cons (pv 3) (pa_cons (pv 13) (pa_cons (pv 10) (pa_nil))))) (nomark _)) (pw_or1 (pt_not (pt_cmpR op_le (pv 11) (pe_call G13 (hr5) (by rfl) g13 k13 b13 .nil pass0 (pa_cons (pv 3) (pa_cons (pv 15) (pa_cons (pv 10) (pa_nil))))) (nomark _)))))) (pss_one (ps_ret (pe_bl))) pss_nil)
      (pss_one (ps_if (pt_cmpR op_gt (pe_call G13 (hr5) (by rfl) g13 k13 b13 .nil pass0 (pa_cons (pv 3) (pa_cons (pv 15) (pa_cons (pv 10) (pa_nil))))) (pe_call G13 (hr5) (by rfl) g13 k13 b13 .nil pass0 (pa_cons (pv 3) (pa_cons (pv 13) (pa_cons (pv 10) (pa_nil))))) (nomark _)) (pss_one (ps_ret (pe_bl))) pss_nil)))))))))))))))))))))
      (pss_one (ps_ret (pe_bl))), ?_⟩
    have lz : (ns.map V.int).length = ns.length := List.length_map _
    refine ⟨_, rfl, a, _, rfl, .inl hS, _, _, rfl, _, _, rfl, _, rfl, ?_, ?_, ?_⟩
    · rw [lz]; split <;> split <;> omega
    · rw [lz]; split <;> split <;> omega
    generalize (if (if (2 : Int) < ((ns.map V.int).length : Int) then (2 : Int) else ((ns.map V.int).length : Int)) > 1 then (if (2 : Int) < ((ns.map V.int).length : Int) then (2 : Int) else ((ns.map V.int).length : Int)) else 1) = turns
    refine for_range (lo := 0) (n := turns.toNat) (fun i σ H' => ∃ y1 y2 y3 y4 y5 y6 y7 y8 y9 y10 y11 y12 y13 y15, σ = [some (.ref a), y1, y2, y3, y4, y5, y6, y7, y8, y9, y10, y11, y12, y13, none, y15] ∧ Same H H') ⟨none, none, none, none, none, none, none, none, none, none, none, none, none, none, rfl, Same.refl H⟩ ?_ (fun σ H' _ => q H')
    rintro i σ H0 hi ⟨y1, y2, y3, y4, y5, y6, y7, y8, y9, y10, y11, y12, y13, y15, rfl, s0⟩
    have ei : (0 + (i : Int)) = (i : Int) := by omega
    rw [ei]
    -- cell, web, rows
    refine ⟨_, rfl, _, rfl, a, ns, i, rfl, s0.seq hS, fun cell => ?_⟩
    refine ⟨_, rfl, cell, rfl, fun H1 wb n es s1 hW W => ?_⟩
    refine ⟨_, rfl, wb, n, es, rfl, hW, W.lo, fun H2 nb xs0 s2 hN0 N0 => ?_⟩
    have hW2 := hW.same s2
    -- fewest, best_bar
    refine ⟨_, rfl, wb, n, es, rfl, hW2, W, fun H3 xss s3 N => ?_⟩
    have hW3 := hW2.same s3
    refine ⟨_, rfl, wb, n, es, rfl, hW3, W, fun H4 r bb most best s4 hr4 hbb B => ?_⟩
    have hW4 := hW3.same s4
    refine ⟨r, _, rfl, SqT.of hr4, rfl, _, _, rfl, _, _, rfl, rfl, ?_⟩
    refine ⟨_, rfl, _, rfl, wb, bb, n, es, best, rfl, hW4, W, hbb, B.pl, fun H5 s5 Sb => ?_⟩
    refine ⟨_, rfl, rfl, _, rfl, iteNS (by rw [B.is]) ?_⟩
    have few : most ≤ leastN n xss (2 ^ n - 1) := by
      rw [B.is]
      exact bar_few W.ok N B.pl.nd Sb
    refine ⟨_, rfl, wb, n, es, rfl, hW4.same s5, W, fun H6 pr l s6 hpr hle => ?_⟩
    refine ⟨pr, l, rfl, .inl (SqL.of hpr), _, rfl, _, _, rfl, rfl, true, ?_, ?_⟩
    · dsimp only
      rw [decide_eq_true (by rw [hle]; exact B.le [] (PlacesIn.nil n))]
    refine iteT ⟨_, rfl, _, _, rfl, rfl, true, ?_, iteF ?_⟩
    · dsimp only
      rw [decide_eq_true few]
    -- least_parting
    have s46 := s5.trans s6
    refine ⟨_, rfl, wb, n, es, rfl, hW4.same s46, W, fun H7 lp xs2 lws s7 N2 hLP LP hll => ?_⟩
    have exs := N.one N2
    subst exs
    have s47 := s46.trans s7
    -- is_bar_paper
    refine ⟨_, rfl, Nat.zero_le _, fun e0 he0 => ?_⟩
    have se := same_new he0 (.tup [])
    refine ⟨_, rfl, _, rfl, by show 3 ≤ sizeLine; decide, fun pa hpa => ?_⟩
    have sp := same_new hpa (.tup [.ref e0, .ref lp, .ref bb])
    have s48 := (s47.trans se).trans sp
    refine ⟨wb, pa, e0, lp, bb, n, es, [], best, lws, rfl, hW4.same s48, W, upd_same, sp _ _ upd_same, PlacesIn.nil n, (hLP.same se).same sp, LP, keeps_nil lws, s48 _ _ hbb, B.pl, fun H8 s8 => ?_⟩
    refine ⟨_, rfl, _, rfl, rfl, rfl, _, rfl, iteNS (paper_eq ?_ ?_) ?_⟩
    · rw [both_nil, B.is]
      omega
    · rw [hll]
    have s49 := s48.trans s8
    have sH : Same H H8 := ((((s0.trans s1).trans s2).trans s3).trans s4).trans s49
    refine ⟨by show 3 ≤ sizeLine; decide, fun la hla => ?_⟩
    have sl := same_new hla (.lst (([5000, 5100, 5200] : List Int).map V.int))
    have sHL : Same H (upd H8 la (.lst (([5000, 5100, 5200] : List Int).map V.int))) := sH.trans sl
    have hLa : (upd H8 la (.lst (([5000, 5100, 5200] : List Int).map V.int))) la = some (.lst (([5000, 5100, 5200] : List Int).map V.int)) := upd_same
    have hWL := ((hW4.same s49).same sl)
    have hBL := sl _ _ (s49 _ _ hbb)
    have hNL : LstOf RowO (upd H8 la (.lst (([5000, 5100, 5200] : List Int).map V.int))) nb xs0 := (((hN0.same s3).same s4).same s49).same sl
    refine ⟨la, rfl, ⟨_, SqL.of hLa⟩, ?_⟩
    refine for_list (K := K) (a := la) (xs := ([5000, 5100, 5200] : List Int).map V.int) (fun j σ G => ∃ y9 y10 y11 y12 y13 y15, σ = [some (.ref a), some (.int (i : Int)), some (.int cell), some (.ref wb), some (.ref nb), some (.int ((leastN n xss (2 ^ n - 1) : Nat) : Int)), some (.int most), some (.ref bb), some (.ref lp), y9, y10, y11, y12, y13, none, y15] ∧ Same (upd H8 la (.lst (([5000, 5100, 5200] : List Int).map V.int))) G)
      ⟨_, _, _, _, _, _, rfl, Same.refl _⟩ (fun j σ G _ ⟨_, _, _, _, _, _, _, sg⟩ => SqL.of (sg _ _ hLa)) ?_ (fun σ G ⟨z9, z10, z11, z12, z13, z15, e, sg⟩ => ?_)
    · rintro j v σ G0 hv ⟨z9, z10, z11, z12, z13, z15, rfl, sg⟩
      obtain ⟨at_, hat, rfl⟩ := ints_at hv
      have ab : 5000 ≤ at_ ∧ at_ ≤ 5200 := by
        have m := List.mem_of_getElem? hat
        simp only [List.mem_cons, List.not_mem_nil, or_false] at m
        omega
      have hWg := hWL.same sg
      have h9 := W.nine
      -- bar
      obtain ⟨tw, hTw, _⟩ := id hWg
      refine ⟨_, rfl, _, rfl, _, _, _, _, rfl, rfl, SqT.of hTw, atI_nat (j := 0) rfl, _, rfl, cell, at_, n, rfl, by omega, by omega, h9, fun G1 bt bar t1 hbt PB => ?_⟩
      -- told
      refine ⟨_, rfl, _, rfl, wb, bt, n, es, bar, rfl, hWg.same t1, W, hbt, PB, fun G2 t2 St => ?_⟩
      have t12 := t1.trans t2
      have hbb2 := t12 _ _ (sg _ _ hBL)
      have hbt2 := t2 _ _ hbt
      refine ⟨_, rfl, _, rfl, _, _, rfl, rfl, _, rfl, ?_⟩
      rw [decide_eq_false (show ¬ most < sh n es bar by have := B.le bar PB; omega)]
      refine iteF ?_
      refine ⟨_, rfl, _, rfl, rfl, _, rfl, ite_or ?_ fun ce rest => ?_⟩
      rotate_left
      · refine ⟨_, rfl, _, rfl, bt, bb, bar, best, rfl, rfl, SqT.of hbt2, SqT.of hbb2, _, rfl, ?_⟩
        rw [B.lex bar PB (V.int.inj (of_decide_eq_true ce))]
        exact rest
      refine iteF ?_
      refine ⟨_, rfl, Nat.zero_le _, fun e1 he1 => ?_⟩
      have u1 := same_new he1 (.tup [])
      refine ⟨_, rfl, wb, e1, bt, n, es, [], bar, rfl, (hWg.same t12).same u1, W, upd_same, PlacesIn.nil n, u1 _ _ hbt2, PB, fun G3 u2 => ?_⟩
      refine ⟨_, rfl, rfl, _, rfl, iteNS (by rw [both_nil]; congr 1; omega) ?_⟩
      have t3 := (t12.trans u1).trans u2
      -- parting
      refine ⟨_, rfl, _, rfl, _, _, rfl, rfl, _, rfl, _, rfl, cell, _, wb, nb, n, es, xs0, rfl, by omega, by omega, hWg.same t3, W.lo, hNL.same (sg.trans t3), N0, fun G4 pt ws t4 hPt Pt => ?_⟩
      have t04 := t3.trans t4
      obtain ⟨pas, hpt, peach⟩ := id hPt
      have plen := peach.len
      have wcnt := Parting.count Pt
      have fl : (firsts ws).length = ws.length := List.length_map _
      have ll : (lasts ws).length = ws.length := List.length_map _
      -- tips
      refine ⟨_, rfl, pt, rfl, ⟨_, SqT.of hpt⟩, fun D1 hD1 => ?_⟩
      refine lc_tup (K := K) (a := pt) (xs := refs pas) (fun j G => Lc G4 D1 ((firsts (ws.take j)).map V.int) G) (Lc.start hD1) (fun j G _ c => SqT.of (c.same _ _ hpt)) ?_ ?_
      · rintro j x G hx c
        obtain ⟨wa, hwa, rfl⟩ := refs_at hx
        obtain ⟨v, hv', hwv⟩ := peach.got hwa
        have vn := (Pt.way v (List.mem_of_getElem? hv')).ne
        refine ⟨rfl, tyes ?_⟩
        refine ⟨_, rfl, wa, _, _, _, rfl, rfl, SqT.of (c.same _ _ hwv), at_head vn, _, c.lst, ?_, ?_⟩
        · rw [List.length_map]
          unfold firsts
          rw [List.length_map, List.length_take]
          exact small1000 (by omega)
        · rw [firsts_snoc hv', List.map_append]
          exact c.add hD1 _
      rintro G5 c5
      have eT1 : ws.take (refs pas).length = ws := by rw [refs_len, plen, List.take_length]
      rw [eT1] at c5
      refine ⟨_, rfl, pt, rfl, ⟨_, SqT.of (c5.same _ _ hpt)⟩, fun D2 hD2 => ?_⟩
      refine lc_tup (K := K) (a := pt) (xs := refs pas) (fun j G => Lc G5 D2 ((lasts (ws.take j)).map V.int) G) (Lc.start hD2) (fun j G _ c => SqT.of (c.same _ _ (c5.same _ _ hpt))) ?_ ?_
      · rintro j x G hx c
        obtain ⟨wa, hwa, rfl⟩ := refs_at hx
        obtain ⟨v, hv', hwv⟩ := peach.got hwa
        have vn := (Pt.way v (List.mem_of_getElem? hv')).ne
        refine ⟨rfl, tyes ?_⟩
        refine ⟨_, rfl, _, rfl, wa, _, _, _, rfl, rfl, SqT.of (c.same _ _ (c5.same _ _ hwv)), at_getLast (lastD_of vn), _, c.lst, ?_, ?_⟩
        · rw [List.length_map]
          unfold lasts
          rw [List.length_map, List.length_take]
          exact small1000 (by omega)
        · rw [lasts_snoc hv', List.map_append]
          exact c.add hD2 _
      rintro G6 c6
      rw [eT1] at c6
      refine ⟨D1, D2, _, _, rfl, rfl, c6.same _ _ c5.lst, c6.lst, ?_, fun D3 hD3 => ?_⟩
      · rw [List.length_map, List.length_map]
        exact small9 (by omega)
      have v3 := same_new hD3 (.lst ((firsts ws).map V.int ++ (lasts ws).map V.int))
      have eA : (firsts ws).map V.int ++ (lasts ws).map V.int = (firsts ws ++ lasts ws).map V.int := by rw [List.map_append]
      refine ⟨D3, firsts ws ++ lasts ws, rfl, SqL.of (by rw [upd_same, eA]), by rw [List.length_append]; omega, fun sa sc hsa hsc => ?_⟩
      have v4 := same_new hsa (SetO w sa (fun j => decide (j ∈ firsts ws ++ lasts ws)) sc)
      refine ⟨sa, _, sc, rfl, upd_same, by rw [List.length_append] at hsc; omega, fun tips tl rise tmem tlen htl => ?_⟩
      have v5 := same_new htl (.lst (tips.map V.int))
      refine ⟨tl, _, rfl, .inl ⟨SqL.of upd_same, fun tp htp => ?_⟩⟩
      have v6 := same_new htp (TupO tips)
      have TT : Tips ws tips := ⟨rise, fun x => (tmem x).trans decide_eq_true_iff⟩
      have PT := TT.places Pt
      have KT := TT.keeps Pt
      have t6 := (((((c5.same.trans c6.same).trans v3).trans v4).trans v5).trans v6)
      have t06 := t04.trans t6
      have htp6 := upd_same (H := upd (upd (upd G6 D3 (.lst ((firsts ws).map V.int ++ (lasts ws).map V.int))) sa (SetO w sa (fun j => decide (j ∈ firsts ws ++ lasts ws)) sc)) tl (.lst (tips.map V.int))) (a := tp) (o := TupO tips)
      have tn := PT.len
      have few1 := bar_le W.ok Pt PB.nd (keeps_nil ws) St
      rw [both_nil] at few1
      refine ⟨_, rfl, pt, _, rfl, .inr (SqT.of (t6 _ _ hpt)), _, rfl, _, _, rfl, rfl, _, rfl, ?_⟩
      rw [decide_eq_false (show ¬ (((refs pas).length : Nat) : Int) < sh n es bar by rw [refs_len, plen]; omega)]
      refine iteF ?_
      refine ⟨_, rfl, _, rfl, _, rfl, wb, tp, pt, n, es, tips, ws, rfl, hWg.same t06, W, htp6, PT, hPt.same t6, Pt, KT, fun G7 t7 => ?_⟩
      refine ⟨_, _, rfl, rfl, _, rfl, iteNS rfl ?_⟩
      refine ⟨_, rfl, Nat.zero_le _, fun e2 he2 => ?_⟩
      have u7 := same_new he2 (.tup [])
      have t67 := t7.trans u7
      refine ⟨_, rfl, wb, e2, pt, n, es, [], ws, rfl, hWg.same (t06.trans t67), W, upd_same, PlacesIn.nil n, hPt.same (t6.trans t67), Pt, keeps_nil ws, fun G8 t8 => ?_⟩
      refine ⟨_, _, rfl, rfl, _, rfl, iteNS rfl ?_⟩
      have t68 := t67.trans t8
      have htp8 := t68 _ _ htp6
      have hWg8 := hWg.same (t06.trans t68)
      have hpt8 := (t6.trans t68) _ _ hpt
      have hbt8 := (((((u1.trans u2).trans t4).trans t6).trans t68)) _ _ hbt2
      have s8all := sg.trans (t06.trans t68)
      -- here
      refine ⟨_, rfl, _, rfl, _, rfl, _, _, rfl, rfl, _, rfl, tp, _, rfl, .inr (SqT.of htp8), _, _, rfl, rfl, cell, _, _, rfl, by omega, by omega, by rw [List.length_map]; omega, by rw [List.length_map]; omega, fun k k0 k1 => ?_⟩
      have full := bar_le W.ok Pt PB.nd KT St
      have less := both_le (bar := bar) (e1 := tips.take k.toNat) (e2 := tips) fun x hx => List.mem_of_mem_take hx
      refine ⟨k, rfl, tp, _, rfl, SqT.of htp8, fun whole => ?_, fun nw hb hhb => ?_⟩
      · have hhere : G8 tp = some (TupO (tips.take k.toNat)) := by
          rw [whole_take tips k k0 whole.2]
          exact htp8
        have w8 := Same.refl G8
        have x0 := Same.refl (G8)
        refine ⟨_, rfl, pt, _, rfl, .inr (SqT.of (w8 _ _ hpt8)), _, rfl, _, rfl, _, rfl, wb, tp, bt, n, es, tips, bar, rfl, hWg8.same (w8.trans x0), W, (w8.trans x0) _ _ htp8, PT, (w8.trans x0) _ _ hbt8, PB, fun Ga xa => ?_⟩
        refine ⟨_, _, rfl, rfl, _, rfl, ?_⟩
        rw [decide_eq_false (show ¬ (((refs pas).length : Nat) : Int) < sh n es bar + (both bar tips : Int) by rw [refs_len, plen]; omega)]
        refine iteF ?_
        refine ⟨_, rfl, _, rfl, _, rfl, _, rfl, wb, tp, bt, n, es, tips.take k.toNat, bar, rfl, hWg8.same (w8.trans xa), W, (xa) _ _ hhere, PT.take k.toNat, (w8.trans xa) _ _ hbt8, PB, fun Gb xb => ?_⟩
        refine ⟨_, _, rfl, rfl, _, rfl, ?_⟩
        rw [decide_eq_true (show sh n es bar ≤ sh n es bar + (both bar (tips.take k.toNat) : Int) by omega)]
        refine iteF ?_
        have xab := xa.trans xb
        refine ⟨_, rfl, _, rfl, _, rfl, wb, tp, bt, n, es, tips.take k.toNat, bar, rfl, hWg8.same (w8.trans xab), W, (xab) _ _ hhere, PT.take k.toNat, (w8.trans xab) _ _ hbt8, PB, fun Gc xc => ?_⟩
        have xac := xab.trans xc
        refine ⟨_, rfl, _, rfl, _, rfl, wb, tp, bt, n, es, tips, bar, rfl, hWg8.same (w8.trans xac), W, (w8.trans xac) _ _ htp8, PT, (w8.trans xac) _ _ hbt8, PB, fun Gd xd => ?_⟩
        refine ⟨_, _, rfl, rfl, _, rfl, ?_⟩
        rw [decide_eq_false (show ¬ sh n es bar + (both bar tips : Int) < sh n es bar + (both bar (tips.take k.toNat) : Int) by omega)]
        refine iteF ?_
        exact ⟨_, _, _, _, _, _, rfl, ((s8all.trans w8).trans xac).trans xd⟩
      · rw [cut_take tips k k0] at *
        have w8 := same_new hhb (TupO (tips.take k.toNat))
        have hhere : (upd G8 hb (TupO (tips.take k.toNat))) hb = some (TupO (tips.take k.toNat)) := upd_same
        have x0 := Same.refl (upd G8 hb (TupO (tips.take k.toNat)))
        refine ⟨_, rfl, pt, _, rfl, .inr (SqT.of (w8 _ _ hpt8)), _, rfl, _, rfl, _, rfl, wb, tp, bt, n, es, tips, bar, rfl, hWg8.same (w8.trans x0), W, (w8.trans x0) _ _ htp8, PT, (w8.trans x0) _ _ hbt8, PB, fun Ga xa => ?_⟩
        refine ⟨_, _, rfl, rfl, _, rfl, ?_⟩
        rw [decide_eq_false (show ¬ (((refs pas).length : Nat) : Int) < sh n es bar + (both bar tips : Int) by rw [refs_len, plen]; omega)]
        refine iteF ?_
        refine ⟨_, rfl, _, rfl, _, rfl, _, rfl, wb, hb, bt, n, es, tips.take k.toNat, bar, rfl, hWg8.same (w8.trans xa), W, (xa) _ _ hhere, PT.take k.toNat, (w8.trans xa) _ _ hbt8, PB, fun Gb xb => ?_⟩
        refine ⟨_, _, rfl, rfl, _, rfl, ?_⟩
        rw [decide_eq_true (show sh n es bar ≤ sh n es bar + (both bar (tips.take k.toNat) : Int) by omega)]
        refine iteF ?_
        have xab := xa.trans xb
        refine ⟨_, rfl, _, rfl, _, rfl, wb, hb, bt, n, es, tips.take k.toNat, bar, rfl, hWg8.same (w8.trans xab), W, (xab) _ _ hhere, PT.take k.toNat, (w8.trans xab) _ _ hbt8, PB, fun Gc xc => ?_⟩
        have xac := xab.trans xc
        refine ⟨_, rfl, _, rfl, _, rfl, wb, tp, bt, n, es, tips, bar, rfl, hWg8.same (w8.trans xac), W, (w8.trans xac) _ _ htp8, PT, (w8.trans xac) _ _ hbt8, PB, fun Gd xd => ?_⟩
        refine ⟨_, _, rfl, rfl, _, rfl, ?_⟩
        rw [decide_eq_false (show ¬ sh n es bar + (both bar tips : Int) < sh n es bar + (both bar (tips.take k.toNat) : Int) by omega)]
        refine iteF ?_
        exact ⟨_, _, _, _, _, _, rfl, ((s8all.trans w8).trans xac).trans xd⟩
    · subst e
      exact ⟨_, _, _, _, _, _, _, _, _, _, _, _, _, _, rfl, sHL.trans sg⟩
end
end FwW

set_option Elab.async false
set_option linter.all false
set_option maxRecDepth 100000
set_option maxHeartbeats 4000000
/-! what the top has written; the law's own head -/
namespace FwW
open PySem PySem.Spec PyProof.Rows L2
theorem all_mk {P : Program} {w : World} {K : PySem.W.Frag} {h : Heap} {mg : Str → Option Value} {fa C f1 f2 f3 f4 f5 f6 f7 f8 f9 f10 f11 f12 f13 f14 f15 f16 f17 f18 f19 f20 f21 f22 f23 f24 f25 f26 f27 f28 f29 f30 f31 f32 f33 f34 f35 f36 f37 f38 f39 : Addr} (X : K.In h) (G : h.Ns mainGlobals mg) (hfa : mg "law" = some (.ref fa))
    {od1 an1 od2 an2 od3 an3 od4 an4 od5 an5 od6 an6 od7 an7 od8 an8 od9 an9 od10 an10 od11 an11 od12 an12 od13 an13 od14 an14 od15 an15 od16 an16 od17 an17 od18 an18 od19 an19 od20 an20 od21 an21 od22 an22 od23 an23 od24 an24 od25 an25 od26 an26 od27 an27 od28 an28 od29 an29 od30 an30 od31 an31 od32 an32 od33 an33 od34 an34 od35 an35 od36 an36 od37 an37 od38 an38 od39 an39 : Option Addr} {sl1 sl2 sl3 sl4 sl5 sl6 sl7 sl8 sl9 sl10 sl11 sl12 sl13 sl14 sl15 sl16 sl17 sl18 sl19 sl20 sl21 sl22 sl23 sl24 sl25 sl26 sl27 sl28 sl29 sl30 sl31 sl32 sl33 sl34 sl35 sl36 sl37 sl38 sl39 : Array (Option Value)} {oc1 kV1 dc1 pm1 cd1 ct1 oc2 kV2 dc2 pm2 cd2 ct2 oc3 kV3 dc3 pm3 cd3 ct3 oc4 kV4 dc4 pm4 cd4 ct4 oc5 kV5 dc5 pm5 cd5 ct5 oc6 kV6 dc6 pm6 cd6 ct6 oc7 kV7 dc7 pm7 cd7 ct7 oc8 kV8 dc8 pm8 cd8 ct8 oc9 kV9 dc9 pm9 cd9 ct9 oc10 kV10 dc10 pm10 cd10 ct10 oc11 kV11 dc11 pm11 cd11 ct11 oc12 kV12 dc12 pm12 cd12 ct12 oc13 kV13 dc13 pm13 cd13 ct13 oc14 kV14 dc14 pm14 cd14 ct14 oc15 kV15 dc15 pm15 cd15 ct15 oc16 kV16 dc16 pm16 cd16 ct16 oc17 kV17 dc17 pm17 cd17 ct17 oc18 kV18 dc18 pm18 cd18 ct18 oc19 kV19 dc19 pm19 cd19 ct19 oc20 kV20 dc20 pm20 cd20 ct20 oc21 kV21 dc21 pm21 cd21 ct21 oc22 kV22 dc22 pm22 cd22 ct22 oc23 kV23 dc23 pm23 cd23 ct23 oc24 kV24 dc24 pm24 cd24 ct24 oc25 kV25 dc25 pm25 cd25 ct25 oc26 kV26 dc26 pm26 cd26 ct26 oc27 kV27 dc27 pm27 cd27 ct27 oc28 kV28 dc28 pm28 cd28 ct28 oc29 kV29 dc29 pm29 cd29 ct29 oc30 kV30 dc30 pm30 cd30 ct30 oc31 kV31 dc31 pm31 cd31 ct31 oc32 kV32 dc32 pm32 cd32 ct32 oc33 kV33 dc33 pm33 cd33 ct33 oc34 kV34 dc34 pm34 cd34 ct34 oc35 kV35 dc35 pm35 cd35 ct35 oc36 kV36 dc36 pm36 cd36 ct36 oc37 kV37 dc37 pm37 cd37 ct37 oc38 kV38 dc38 pm38 cd38 ct38 oc39 kV39 dc39 pm39 cd39 ct39 : Value}
    (a1 : PySem.W.nsIn K mainGlobals "is_number" = some (some (.ref f1)))
    (l1 : K.lookup f1 = some ⟨oc1, od1, .func (PySem.W.fnOf "is_number" "is_number" (defArgs sIsNumber) (defBody sIsNumber) (defScope sIsNumber) .none kV1 dc1 pm1 an1 cd1 ct1), sl1⟩) (c1 : PySem.W.codeIn K cd1 "is_number" = true) (k1 : PySem.W.keepIn K (.ref f1) = true)
    (a2 : PySem.W.nsIn K mainGlobals "is_pair" = some (some (.ref f2)))
    (l2 : K.lookup f2 = some ⟨oc2, od2, .func (PySem.W.fnOf "is_pair" "is_pair" (defArgs sIsPair) (defBody sIsPair) (defScope sIsPair) .none kV2 dc2 pm2 an2 cd2 ct2), sl2⟩) (c2 : PySem.W.codeIn K cd2 "is_pair" = true) (k2 : PySem.W.keepIn K (.ref f2) = true)
    (a3 : PySem.W.nsIn K mainGlobals "rises" = some (some (.ref f3)))
    (l3 : K.lookup f3 = some ⟨oc3, od3, .func (PySem.W.fnOf "rises" "rises" (defArgs sRises) (defBody sRises) (defScope sRises) .none kV3 dc3 pm3 an3 cd3 ct3), sl3⟩) (c3 : PySem.W.codeIn K cd3 "rises" = true) (k3 : PySem.W.keepIn K (.ref f3) = true)
    (a4 : PySem.W.nsIn K mainGlobals "is_web" = some (some (.ref f4)))
    (l4 : K.lookup f4 = some ⟨oc4, od4, .func (PySem.W.fnOf "is_web" "is_web" (defArgs sIsWeb) (defBody sIsWeb) (defScope sIsWeb) .none kV4 dc4 pm4 an4 cd4 ct4), sl4⟩) (c4 : PySem.W.codeIn K cd4 "is_web" = true) (k4 : PySem.W.keepIn K (.ref f4) = true)
    (a5 : PySem.W.nsIn K mainGlobals "need_web" = some (some (.ref f5)))
    (l5 : K.lookup f5 = some ⟨oc5, od5, .func (PySem.W.fnOf "need_web" "need_web" (defArgs sNeedWeb) (defBody sNeedWeb) (defScope sNeedWeb) .none kV5 dc5 pm5 an5 cd5 ct5), sl5⟩) (c5 : PySem.W.codeIn K cd5 "need_web" = true) (k5 : PySem.W.keepIn K (.ref f5) = true)
    (a6 : PySem.W.nsIn K mainGlobals "is_places" = some (some (.ref f6)))
    (l6 : K.lookup f6 = some ⟨oc6, od6, .func (PySem.W.fnOf "is_places" "is_places" (defArgs sIsPlaces) (defBody sIsPlaces) (defScope sIsPlaces) .none kV6 dc6 pm6 an6 cd6 ct6), sl6⟩) (c6 : PySem.W.codeIn K cd6 "is_places" = true) (k6 : PySem.W.keepIn K (.ref f6) = true)
    (a7 : PySem.W.nsIn K mainGlobals "need_places" = some (some (.ref f7)))
    (l7 : K.lookup f7 = some ⟨oc7, od7, .func (PySem.W.fnOf "need_places" "need_places" (defArgs sNeedPlaces) (defBody sNeedPlaces) (defScope sNeedPlaces) .none kV7 dc7 pm7 an7 cd7 ct7), sl7⟩) (c7 : PySem.W.codeIn K cd7 "need_places" = true) (k7 : PySem.W.keepIn K (.ref f7) = true)
    (a8 : PySem.W.nsIn K mainGlobals "near" = some (some (.ref f8)))
    (l8 : K.lookup f8 = some ⟨oc8, od8, .func (PySem.W.fnOf "near" "near" (defArgs sNear) (defBody sNear) (defScope sNear) .none kV8 dc8 pm8 an8 cd8 ct8), sl8⟩) (c8 : PySem.W.codeIn K cd8 "near" = true) (k8 : PySem.W.keepIn K (.ref f8) = true)
    (a9 : PySem.W.nsIn K mainGlobals "come_to" = some (some (.ref f9)))
    (l9 : K.lookup f9 = some ⟨oc9, od9, .func (PySem.W.fnOf "come_to" "come_to" (defArgs sComeTo) (defBody sComeTo) (defScope sComeTo) .none kV9 dc9 pm9 an9 cd9 ct9), sl9⟩) (c9 : PySem.W.codeIn K cd9 "come_to" = true) (k9 : PySem.W.keepIn K (.ref f9) = true)
    (a10 : PySem.W.nsIn K mainGlobals "parts_by" = some (some (.ref f10)))
    (l10 : K.lookup f10 = some ⟨oc10, od10, .func (PySem.W.fnOf "parts_by" "parts_by" (defArgs sPartsBy) (defBody sPartsBy) (defScope sPartsBy) .none kV10 dc10 pm10 an10 cd10 ct10), sl10⟩) (c10 : PySem.W.codeIn K cd10 "parts_by" = true) (k10 : PySem.W.keepIn K (.ref f10) = true)
    (a11 : PySem.W.nsIn K mainGlobals "parts" = some (some (.ref f11)))
    (l11 : K.lookup f11 = some ⟨oc11, od11, .func (PySem.W.fnOf "parts" "parts" (defArgs sParts) (defBody sParts) (defScope sParts) .none kV11 dc11 pm11 an11 cd11 ct11), sl11⟩) (c11 : PySem.W.codeIn K cd11 "parts" = true) (k11 : PySem.W.keepIn K (.ref f11) = true)
    (a12 : PySem.W.nsIn K mainGlobals "left_over" = some (some (.ref f12)))
    (l12 : K.lookup f12 = some ⟨oc12, od12, .func (PySem.W.fnOf "left_over" "left_over" (defArgs sLeftOver) (defBody sLeftOver) (defScope sLeftOver) .none kV12 dc12 pm12 an12 cd12 ct12), sl12⟩) (c12 : PySem.W.codeIn K cd12 "left_over" = true) (k12 : PySem.W.keepIn K (.ref f12) = true)
    (a13 : PySem.W.nsIn K mainGlobals "goes" = some (some (.ref f13)))
    (l13 : K.lookup f13 = some ⟨oc13, od13, .func (PySem.W.fnOf "goes" "goes" (defArgs sGoes) (defBody sGoes) (defScope sGoes) .none kV13 dc13 pm13 an13 cd13 ct13), sl13⟩) (c13 : PySem.W.codeIn K cd13 "goes" = true) (k13 : PySem.W.keepIn K (.ref f13) = true)
    (a14 : PySem.W.nsIn K mainGlobals "tie_of" = some (some (.ref f14)))
    (l14 : K.lookup f14 = some ⟨oc14, od14, .func (PySem.W.fnOf "tie_of" "tie_of" (defArgs sTieOf) (defBody sTieOf) (defScope sTieOf) .none kV14 dc14 pm14 an14 cd14 ct14), sl14⟩) (c14 : PySem.W.codeIn K cd14 "tie_of" = true) (k14 : PySem.W.keepIn K (.ref f14) = true)
    (a15 : PySem.W.nsIn K mainGlobals "parts_all" = some (some (.ref f15)))
    (l15 : K.lookup f15 = some ⟨oc15, od15, .func (PySem.W.fnOf "parts_all" "parts_all" (defArgs sPartsAll) (defBody sPartsAll) (defScope sPartsAll) .none kV15 dc15 pm15 an15 cd15 ct15), sl15⟩) (c15 : PySem.W.codeIn K cd15 "parts_all" = true) (k15 : PySem.W.keepIn K (.ref f15) = true)
    (a16 : PySem.W.nsIn K mainGlobals "need_parting" = some (some (.ref f16)))
    (l16 : K.lookup f16 = some ⟨oc16, od16, .func (PySem.W.fnOf "need_parting" "need_parting" (defArgs sNeedParting) (defBody sNeedParting) (defScope sNeedParting) .none kV16 dc16 pm16 an16 cd16 ct16), sl16⟩) (c16 : PySem.W.codeIn K cd16 "need_parting" = true) (k16 : PySem.W.keepIn K (.ref f16) = true)
    (a17 : PySem.W.nsIn K mainGlobals "shown" = some (some (.ref f17)))
    (l17 : K.lookup f17 = some ⟨oc17, od17, .func (PySem.W.fnOf "shown" "shown" (defArgs sShown) (defBody sShown) (defScope sShown) .none kV17 dc17 pm17 an17 cd17 ct17), sl17⟩) (c17 : PySem.W.codeIn K cd17 "shown" = true) (k17 : PySem.W.keepIn K (.ref f17) = true)
    (a18 : PySem.W.nsIn K mainGlobals "shows" = some (some (.ref f18)))
    (l18 : K.lookup f18 = some ⟨oc18, od18, .func (PySem.W.fnOf "shows" "shows" (defArgs sShows) (defBody sShows) (defScope sShows) .none kV18 dc18 pm18 an18 cd18 ct18), sl18⟩) (c18 : PySem.W.codeIn K cd18 "shows" = true) (k18 : PySem.W.keepIn K (.ref f18) = true)
    (a19 : PySem.W.nsIn K mainGlobals "shown_with" = some (some (.ref f19)))
    (l19 : K.lookup f19 = some ⟨oc19, od19, .func (PySem.W.fnOf "shown_with" "shown_with" (defArgs sShownWith) (defBody sShownWith) (defScope sShownWith) .none kV19 dc19 pm19 an19 cd19 ct19), sl19⟩) (c19 : PySem.W.codeIn K cd19 "shown_with" = true) (k19 : PySem.W.keepIn K (.ref f19) = true)
    (a20 : PySem.W.nsIn K mainGlobals "shows_with" = some (some (.ref f20)))
    (l20 : K.lookup f20 = some ⟨oc20, od20, .func (PySem.W.fnOf "shows_with" "shows_with" (defArgs sShowsWith) (defBody sShowsWith) (defScope sShowsWith) .none kV20 dc20 pm20 an20 cd20 ct20), sl20⟩) (c20 : PySem.W.codeIn K cd20 "shows_with" = true) (k20 : PySem.W.keepIn K (.ref f20) = true)
    (a21 : PySem.W.nsIn K mainGlobals "kept" = some (some (.ref f21)))
    (l21 : K.lookup f21 = some ⟨oc21, od21, .func (PySem.W.fnOf "kept" "kept" (defArgs sKept) (defBody sKept) (defScope sKept) .none kV21 dc21 pm21 an21 cd21 ct21), sl21⟩) (c21 : PySem.W.codeIn K cd21 "kept" = true) (k21 : PySem.W.keepIn K (.ref f21) = true)
    (a22 : PySem.W.nsIn K mainGlobals "keeps" = some (some (.ref f22)))
    (l22 : K.lookup f22 = some ⟨oc22, od22, .func (PySem.W.fnOf "keeps" "keeps" (defArgs sKeeps) (defBody sKeeps) (defScope sKeeps) .none kV22 dc22 pm22 an22 cd22 ct22), sl22⟩) (c22 : PySem.W.codeIn K cd22 "keeps" = true) (k22 : PySem.W.keepIn K (.ref f22) = true)
    (a23 : PySem.W.nsIn K mainGlobals "best_bar" = some (some (.ref f23)))
    (l23 : K.lookup f23 = some ⟨oc23, od23, .func (PySem.W.fnOf "best_bar" "best_bar" (defArgs sBestBar) (defBody sBestBar) (defScope sBestBar) .none kV23 dc23 pm23 an23 cd23 ct23), sl23⟩) (c23 : PySem.W.codeIn K cd23 "best_bar" = true) (k23 : PySem.W.keepIn K (.ref f23) = true)
    (a24 : PySem.W.nsIn K mainGlobals "is_bar_paper" = some (some (.ref f24)))
    (l24 : K.lookup f24 = some ⟨oc24, od24, .func (PySem.W.fnOf "is_bar_paper" "is_bar_paper" (defArgs sIsBarPaper) (defBody sIsBarPaper) (defScope sIsBarPaper) .none kV24 dc24 pm24 an24 cd24 ct24), sl24⟩) (c24 : PySem.W.codeIn K cd24 "is_bar_paper" = true) (k24 : PySem.W.keepIn K (.ref f24) = true)
    (a25 : PySem.W.nsIn K mainGlobals "need_small" = some (some (.ref f25)))
    (l25 : K.lookup f25 = some ⟨oc25, od25, .func (PySem.W.fnOf "need_small" "need_small" (defArgs sNeedSmall) (defBody sNeedSmall) (defScope sNeedSmall) .none kV25 dc25 pm25 an25 cd25 ct25), sl25⟩) (c25 : PySem.W.codeIn K cd25 "need_small" = true) (k25 : PySem.W.keepIn K (.ref f25) = true)
    (a26 : PySem.W.nsIn K mainGlobals "fewest" = some (some (.ref f26)))
    (l26 : K.lookup f26 = some ⟨oc26, od26, .func (PySem.W.fnOf "fewest" "fewest" (defArgs sFewest) (defBody sFewest) (defScope sFewest) .none kV26 dc26 pm26 an26 cd26 ct26), sl26⟩) (c26 : PySem.W.codeIn K cd26 "fewest" = true) (k26 : PySem.W.keepIn K (.ref f26) = true)
    (a27 : PySem.W.nsIn K mainGlobals "least_parting" = some (some (.ref f27)))
    (l27 : K.lookup f27 = some ⟨oc27, od27, .func (PySem.W.fnOf "least_parting" "least_parting" (defArgs sLeastParting) (defBody sLeastParting) (defScope sLeastParting) .none kV27 dc27 pm27 an27 cd27 ct27), sl27⟩) (c27 : PySem.W.codeIn K cd27 "least_parting" = true) (k27 : PySem.W.keepIn K (.ref f27) = true)
    (a28 : PySem.W.nsIn K mainGlobals "_law_cell_at" = some (some (.ref f28)))
    (l28 : K.lookup f28 = some ⟨oc28, od28, .func (PySem.W.fnOf "_law_cell_at" "_law_cell_at" (defArgs sCell) (defBody sCell) (defScope sCell) .none kV28 dc28 pm28 an28 cd28 ct28), sl28⟩) (c28 : PySem.W.codeIn K cd28 "_law_cell_at" = true) (k28 : PySem.W.keepIn K (.ref f28) = true)
    (a29 : PySem.W.nsIn K mainGlobals "_law_draw" = some (some (.ref f29)))
    (l29 : K.lookup f29 = some ⟨oc29, od29, .func (PySem.W.fnOf "_law_draw" "_law_draw" (defArgs sDraw) (defBody sDraw) (defScope sDraw) .none kV29 dc29 pm29 an29 cd29 ct29), sl29⟩) (c29 : PySem.W.codeIn K cd29 "_law_draw" = true) (k29 : PySem.W.keepIn K (.ref f29) = true)
    (a30 : PySem.W.nsIn K mainGlobals "_law_web" = some (some (.ref f30)))
    (l30 : K.lookup f30 = some ⟨oc30, od30, .func (PySem.W.fnOf "_law_web" "_law_web" (defArgs sLWeb) (defBody sLWeb) (defScope sLWeb) .none kV30 dc30 pm30 an30 cd30 ct30), sl30⟩) (c30 : PySem.W.codeIn K cd30 "_law_web" = true) (k30 : PySem.W.keepIn K (.ref f30) = true)
    (a31 : PySem.W.nsIn K mainGlobals "_law_near" = some (some (.ref f31)))
    (l31 : K.lookup f31 = some ⟨oc31, od31, .func (PySem.W.fnOf "_law_near" "_law_near" (defArgs sLNear) (defBody sLNear) (defScope sLNear) .none kV31 dc31 pm31 an31 cd31 ct31), sl31⟩) (c31 : PySem.W.codeIn K cd31 "_law_near" = true) (k31 : PySem.W.keepIn K (.ref f31) = true)
    (a32 : PySem.W.nsIn K mainGlobals "_law_some" = some (some (.ref f32)))
    (l32 : K.lookup f32 = some ⟨oc32, od32, .func (PySem.W.fnOf "_law_some" "_law_some" (defArgs sLSome) (defBody sLSome) (defScope sLSome) .none kV32 dc32 pm32 an32 cd32 ct32), sl32⟩) (c32 : PySem.W.codeIn K cd32 "_law_some" = true) (k32 : PySem.W.keepIn K (.ref f32) = true)
    (a33 : PySem.W.nsIn K mainGlobals "_law_parted" = some (some (.ref f33)))
    (l33 : K.lookup f33 = some ⟨oc33, od33, .func (PySem.W.fnOf "_law_parted" "_law_parted" (defArgs sLParted) (defBody sLParted) (defScope sLParted) .none kV33 dc33 pm33 an33 cd33 ct33), sl33⟩) (c33 : PySem.W.codeIn K cd33 "_law_parted" = true) (k33 : PySem.W.keepIn K (.ref f33) = true)
    (a34 : PySem.W.nsIn K mainGlobals "law" = some (some (.ref f34)))
    (l34 : K.lookup f34 = some ⟨oc34, od34, .func (PySem.W.fnOf "law" "law" (defArgs sLaw) (defBody sLaw) (defScope sLaw) .none kV34 dc34 pm34 an34 cd34 ct34), sl34⟩) (c34 : PySem.W.codeIn K cd34 "law" = true) (k34 : PySem.W.keepIn K (.ref f34) = true)
    (aC : PySem.W.nsIn K mainGlobals "Trial" = some (some (.ref C)))
    (a35 : PySem.W.findIn K (.ref C) "__init__" = some (some (.ref f35))) (i35 : PySem.W.isFn K (.ref f35) = true)
    (l35 : K.lookup f35 = some ⟨oc35, od35, .func (PySem.W.fnOf "__init__" "Trial.__init__" (defArgs sTInit) (defBody sTInit) (defScope sTInit) .none kV35 dc35 pm35 an35 cd35 ct35), sl35⟩) (c35 : PySem.W.codeIn K cd35 "Trial.__init__" = true) (k35 : PySem.W.keepIn K (.ref f35) = true)
    (a36 : PySem.W.findIn K (.ref C) "places_in" = some (some (.ref f36))) (i36 : PySem.W.isFn K (.ref f36) = true)
    (l36 : K.lookup f36 = some ⟨oc36, od36, .func (PySem.W.fnOf "places_in" "Trial.places_in" (defArgs sTPlaces) (defBody sTPlaces) (defScope sTPlaces) .none kV36 dc36 pm36 an36 cd36 ct36), sl36⟩) (c36 : PySem.W.codeIn K cd36 "Trial.places_in" = true) (k36 : PySem.W.keepIn K (.ref f36) = true)
    (a37 : PySem.W.findIn K (.ref C) "least_for" = some (some (.ref f37))) (i37 : PySem.W.isFn K (.ref f37) = true)
    (l37 : K.lookup f37 = some ⟨oc37, od37, .func (PySem.W.fnOf "least_for" "Trial.least_for" (defArgs sTLeast) (defBody sTLeast) (defScope sTLeast) .none kV37 dc37 pm37 an37 cd37 ct37), sl37⟩) (c37 : PySem.W.codeIn K cd37 "Trial.least_for" = true) (k37 : PySem.W.keepIn K (.ref f37) = true)
    (a38 : PySem.W.findIn K (.ref C) "led_on" = some (some (.ref f38))) (i38 : PySem.W.isFn K (.ref f38) = true)
    (l38 : K.lookup f38 = some ⟨oc38, od38, .func (PySem.W.fnOf "led_on" "Trial.led_on" (defArgs sTLed) (defBody sTLed) (defScope sTLed) .none kV38 dc38 pm38 an38 cd38 ct38), sl38⟩) (c38 : PySem.W.codeIn K cd38 "Trial.led_on" = true) (k38 : PySem.W.keepIn K (.ref f38) = true)
    (a39 : PySem.W.findIn K (.ref C) "least_way" = some (some (.ref f39))) (i39 : PySem.W.isFn K (.ref f39) = true)
    (l39 : K.lookup f39 = some ⟨oc39, od39, .func (PySem.W.fnOf "least_way" "Trial.least_way" (defArgs sTWay) (defBody sTWay) (defScope sTWay) .none kV39 dc39 pm39 an39 cd39 ct39), sl39⟩) (c39 : PySem.W.codeIn K cd39 "Trial.least_way" = true) (k39 : PySem.W.keepIn K (.ref f39) = true)
    (pg : PySem.W.plainGet K C Str.empty = true) (hd : PySem.W.hasDictIn K C = true) (po : PySem.W.plainOver K C = true) (sa : PySem.W.findIn K (.ref C) "__setattr__" = some (some (.builtin "object.__setattr__"))) (mk : PySem.W.makesIn K C = true) (kc : PySem.W.keepIn K (.ref C) = true)
    (nM : PySem.W.findIn K (.ref C) "many" = some none) (nB : PySem.W.findIn K (.ref C) "beside" = some none) (nF : PySem.W.findIn K (.ref C) "few" = some none) (nL : PySem.W.findIn K (.ref C) "led" = some none)
    (z0 : PySem.W.nsIn K mainGlobals "isinstance" = some none)
    (z1 : PySem.W.nsIn K mainGlobals "int" = some none)
    (z2 : PySem.W.nsIn K mainGlobals "bool" = some none)
    (z3 : PySem.W.nsIn K mainGlobals "tuple" = some none)
    (z4 : PySem.W.nsIn K mainGlobals "len" = some none)
    (z5 : PySem.W.nsIn K mainGlobals "all" = some none)
    (z6 : PySem.W.nsIn K mainGlobals "range" = some none)
    (z7 : PySem.W.nsIn K mainGlobals "sorted" = some none)
    (z8 : PySem.W.nsIn K mainGlobals "enumerate" = some none)
    (z9 : PySem.W.nsIn K mainGlobals "dict" = some none)
    (z10 : PySem.W.nsIn K mainGlobals "set" = some none)
    (z11 : PySem.W.nsIn K mainGlobals "min" = some none)
    (z12 : PySem.W.nsIn K mainGlobals "max" = some none)
    (z13 : PySem.W.nsIn K mainGlobals "list" = some none)
    {t0 t1 t2 : Tok}
    (y0 : PySem.W.nsIn K mainGlobals "MOST_PLACES" = some (some (.int 60 t0)))
    (y1 : PySem.W.nsIn K mainGlobals "MOST_BARRED" = some (some (.int 12 t1)))
    (y2 : PySem.W.nsIn K mainGlobals "MOST_TRIED" = some (some (.int 10 t2)))
    : ∃ fd : FuncData, (∀ (s : Shared) (v : Value), BindsTo s fd ⟨[v], []⟩ [("_law_script", v)]) ∧ ∀ base : Heap, K.In base → base.Ns mainGlobals mg → FnOk P w K mg base CX0 24 fa fd ["_law_script"] (spLaw K) := by
  have e := hfa.symm.trans (PySem.W.mg_of X G a34)
  cases e
  have F1 := fun_mk (st := sIsNumber) l1 c1 k1
  have F2 := fun_mk (st := sIsPair) l2 c2 k2
  have F3 := fun_mk (st := sRises) l3 c3 k3
  have F4 := fun_mk (st := sIsWeb) l4 c4 k4
  have F5 := fun_mk (st := sNeedWeb) l5 c5 k5
  have F6 := fun_mk (st := sIsPlaces) l6 c6 k6
  have F7 := fun_mk (st := sNeedPlaces) l7 c7 k7
  have F8 := fun_mk (st := sNear) l8 c8 k8
  have F9 := fun_mk (st := sComeTo) l9 c9 k9
  have F10 := fun_mk (st := sPartsBy) l10 c10 k10
  have F11 := fun_mk (st := sParts) l11 c11 k11
  have F12 := fun_mk (st := sLeftOver) l12 c12 k12
  have F13 := fun_mk (st := sGoes) l13 c13 k13
  have F14 := fun_mk (st := sTieOf) l14 c14 k14
  have F15 := fun_mk (st := sPartsAll) l15 c15 k15
  have F16 := fun_mk (st := sNeedParting) l16 c16 k16
  have F17 := fun_mk (st := sShown) l17 c17 k17
  have F18 := fun_mk (st := sShows) l18 c18 k18
  have F19 := fun_mk (st := sShownWith) l19 c19 k19
  have F20 := fun_mk (st := sShowsWith) l20 c20 k20
  have F21 := fun_mk (st := sKept) l21 c21 k21
  have F22 := fun_mk (st := sKeeps) l22 c22 k22
  have F23 := fun_mk (st := sBestBar) l23 c23 k23
  have F24 := fun_mk (st := sIsBarPaper) l24 c24 k24
  have F25 := fun_mk (st := sNeedSmall) l25 c25 k25
  have F26 := fun_mk (st := sFewest) l26 c26 k26
  have F27 := fun_mk (st := sLeastParting) l27 c27 k27
  have F28 := fun_mk (st := sCell) l28 c28 k28
  have F29 := fun_mk (st := sDraw) l29 c29 k29
  have F30 := fun_mk (st := sLWeb) l30 c30 k30
  have F31 := fun_mk (st := sLNear) l31 c31 k31
  have F32 := fun_mk (st := sLSome) l32 c32 k32
  have F33 := fun_mk (st := sLParted) l33 c33 k33
  have F34 := fun_mk (st := sLaw) l34 c34 k34
  have F35 := fun_mk (st := sTInit) l35 c35 k35
  have F36 := fun_mk (st := sTPlaces) l36 c36 k36
  have F37 := fun_mk (st := sTLeast) l37 c37 k37
  have F38 := fun_mk (st := sTLed) l38 c38 k38
  have F39 := fun_mk (st := sTWay) l39 c39 k39
  have b1 := F1.binds (ps := ["thing", "least", "below"]) fun _ _ _ _ _ _ us hl => match us, hl with | [_, _, _], _ => rfl
  have b2 := F2.binds (ps := ["many", "thing"]) fun _ _ _ _ _ _ us hl => match us, hl with | [_, _], _ => rfl
  have b3 := F3.binds (ps := ["row"]) fun _ _ _ _ _ _ us hl => match us, hl with | [_], _ => rfl
  have b4 := F4.binds (ps := ["thing"]) fun _ _ _ _ _ _ us hl => match us, hl with | [_], _ => rfl
  have b5 := F5.binds (ps := ["thing"]) fun _ _ _ _ _ _ us hl => match us, hl with | [_], _ => rfl
  have b6 := F6.binds (ps := ["web", "thing"]) fun _ _ _ _ _ _ us hl => match us, hl with | [_, _], _ => rfl
  have b7 := F7.binds (ps := ["web", "thing"]) fun _ _ _ _ _ _ us hl => match us, hl with | [_, _], _ => rfl
  have b8 := F8.binds (ps := ["web"]) fun _ _ _ _ _ _ us hl => match us, hl with | [_], _ => rfl
  have b9 := F9.binds (ps := ["beside", "place"]) fun _ _ _ _ _ _ us hl => match us, hl with | [_, _], _ => rfl
  have b10 := F10.binds (ps := ["beside"]) fun _ _ _ _ _ _ us hl => match us, hl with | [_], _ => rfl
  have b11 := F11.binds (ps := ["web"]) fun _ _ _ _ _ _ us hl => match us, hl with | [_], _ => rfl
  have b12 := F12.binds (ps := ["web", "places"]) fun _ _ _ _ _ _ us hl => match us, hl with | [_, _], _ => rfl
  have b13 := F13.binds (ps := ["web", "thing"]) fun _ _ _ _ _ _ us hl => match us, hl with | [_, _], _ => rfl
  have b14 := F14.binds (ps := ["one", "other"]) fun _ _ _ _ _ _ us hl => match us, hl with | [_, _], _ => rfl
  have b15 := F15.binds (ps := ["web", "thing"]) fun _ _ _ _ _ _ us hl => match us, hl with | [_, _], _ => rfl
  have b16 := F16.binds (ps := ["web", "thing"]) fun _ _ _ _ _ _ us hl => match us, hl with | [_, _], _ => rfl
  have b17 := F17.binds (ps := ["web", "bar"]) fun _ _ _ _ _ _ us hl => match us, hl with | [_, _], _ => rfl
  have b18 := F18.binds (ps := ["web", "bar"]) fun _ _ _ _ _ _ us hl => match us, hl with | [_, _], _ => rfl
  have b19 := F19.binds (ps := ["web", "ends", "bar"]) fun _ _ _ _ _ _ us hl => match us, hl with | [_, _, _], _ => rfl
  have b20 := F20.binds (ps := ["web", "ends", "bar"]) fun _ _ _ _ _ _ us hl => match us, hl with | [_, _, _], _ => rfl
  have b21 := F21.binds (ps := ["ends", "parting"]) fun _ _ _ _ _ _ us hl => match us, hl with | [_, _], _ => rfl
  have b22 := F22.binds (ps := ["web", "ends", "parting"]) fun _ _ _ _ _ _ us hl => match us, hl with | [_, _, _], _ => rfl
  have b23 := F23.binds (ps := ["web"]) fun _ _ _ _ _ _ us hl => match us, hl with | [_], _ => rfl
  have b24 := F24.binds (ps := ["web", "thing"]) fun _ _ _ _ _ _ us hl => match us, hl with | [_, _], _ => rfl
  have b25 := F25.binds (ps := ["web"]) fun _ _ _ _ _ _ us hl => match us, hl with | [_], _ => rfl
  have b26 := F26.binds (ps := ["web"]) fun _ _ _ _ _ _ us hl => match us, hl with | [_], _ => rfl
  have b27 := F27.binds (ps := ["web"]) fun _ _ _ _ _ _ us hl => match us, hl with | [_], _ => rfl
  have b28 := F28.binds (ps := ["_law_script", "_law_k"]) fun _ _ _ _ _ _ us hl => match us, hl with | [_, _], _ => rfl
  have b29 := F29.binds (ps := ["_law_cell", "_law_k", "_law_bound"]) fun _ _ _ _ _ _ us hl => match us, hl with | [_, _, _], _ => rfl
  have b30 := F30.binds (ps := ["_law_cell", "_law_most"]) fun _ _ _ _ _ _ us hl => match us, hl with | [_, _], _ => rfl
  have b31 := F31.binds (ps := ["_law_web_here"]) fun _ _ _ _ _ _ us hl => match us, hl with | [_], _ => rfl
  have b32 := F32.binds (ps := ["_law_cell", "_law_many", "_law_at"]) fun _ _ _ _ _ _ us hl => match us, hl with | [_, _, _], _ => rfl
  have b33 := F33.binds (ps := ["_law_cell", "_law_at", "_law_web_here", "_law_nigh"]) fun _ _ _ _ _ _ us hl => match us, hl with | [_, _, _, _], _ => rfl
  have b35 := F35.binds (ps := ["self", "web"]) fun _ _ _ _ _ _ us hl => match us, hl with | [_, _], _ => rfl
  have b36 := F36.binds (ps := ["self", "bits"]) fun _ _ _ _ _ _ us hl => match us, hl with | [_, _], _ => rfl
  have b37 := F37.binds (ps := ["self", "bits"]) fun _ _ _ _ _ _ us hl => match us, hl with | [_, _], _ => rfl
  have b38 := F38.binds (ps := ["self", "bits", "end"]) fun _ _ _ _ _ _ us hl => match us, hl with | [_, _, _], _ => rfl
  have b39 := F39.binds (ps := ["self", "bits"]) fun _ _ _ _ _ _ us hl => match us, hl with | [_, _], _ => rfl
  have g1 := PySem.W.mg_of X G a1
  have g2 := PySem.W.mg_of X G a2
  have g3 := PySem.W.mg_of X G a3
  have g4 := PySem.W.mg_of X G a4
  have g5 := PySem.W.mg_of X G a5
  have g6 := PySem.W.mg_of X G a6
  have g7 := PySem.W.mg_of X G a7
  have g8 := PySem.W.mg_of X G a8
  have g9 := PySem.W.mg_of X G a9
  have g10 := PySem.W.mg_of X G a10
  have g11 := PySem.W.mg_of X G a11
  have g12 := PySem.W.mg_of X G a12
  have g13 := PySem.W.mg_of X G a13
  have g14 := PySem.W.mg_of X G a14
  have g15 := PySem.W.mg_of X G a15
  have g16 := PySem.W.mg_of X G a16
  have g17 := PySem.W.mg_of X G a17
  have g18 := PySem.W.mg_of X G a18
  have g19 := PySem.W.mg_of X G a19
  have g20 := PySem.W.mg_of X G a20
  have g21 := PySem.W.mg_of X G a21
  have g22 := PySem.W.mg_of X G a22
  have g23 := PySem.W.mg_of X G a23
  have g24 := PySem.W.mg_of X G a24
  have g25 := PySem.W.mg_of X G a25
  have g26 := PySem.W.mg_of X G a26
  have g27 := PySem.W.mg_of X G a27
  have g28 := PySem.W.mg_of X G a28
  have g29 := PySem.W.mg_of X G a29
  have g30 := PySem.W.mg_of X G a30
  have g31 := PySem.W.mg_of X G a31
  have g32 := PySem.W.mg_of X G a32
  have g33 := PySem.W.mg_of X G a33
  have B : Blt mg := ⟨PySem.W.mg_none_of X G z0, PySem.W.mg_none_of X G z1, PySem.W.mg_none_of X G z2, PySem.W.mg_none_of X G z3, PySem.W.mg_none_of X G z4, PySem.W.mg_none_of X G z5, PySem.W.mg_none_of X G z6, PySem.W.mg_none_of X G z7, PySem.W.mg_none_of X G z8, PySem.W.mg_none_of X G z9, PySem.W.mg_none_of X G z10, PySem.W.mg_none_of X G z11, PySem.W.mg_none_of X G z12, PySem.W.mg_none_of X G z13, ⟨_, PySem.W.mg_of X G y0⟩, ⟨_, PySem.W.mg_of X G y1⟩, ⟨_, PySem.W.mg_of X G y2⟩⟩
  have T : TTxt K mg C := ⟨⟨pg, hd, po, sa⟩, nM, nB, nF, nL, PySem.W.mg_of X G aC⟩
  have M : TMeths K C f36 f37 f38 _ _ _ := ⟨⟨a36, i36, k36⟩, ⟨a37, i37, k37⟩, ⟨a38, i38, k38⟩, b36, b37, b38⟩
  have MK : Mk K C f35 := ⟨mk, a35, i35, kc⟩
  have mW : Meth K C "least_way" f39 := ⟨a39, i39, k39⟩
  refine ⟨PySem.W.fnOf "law" "law" (defArgs sLaw) (defBody sLaw) (defScope sLaw) .none kV34 dc34 pm34 an34 cd34 ct34, fun s v => .of_eq rfl, fun base _ _ => ?_⟩
  have OIsNumber : FnOk P w K mg base CX0 1 f1 _ ["thing", "least", "below"] spIsNumber := ok_isNumber F1 B 
  have OIsPair : FnOk P w K mg base CX0 2 f2 _ ["many", "thing"] spIsPair := ok_isPair F2 B OIsNumber g1 k1 b1
  have ORises : FnOk P w K mg base CX0 1 f3 _ ["row"] spRisesT := ok_risesT F3 B
  have OIsWeb : FnOk P w K mg base CX0 3 f4 _ ["thing"] spIsWeb := ok_isWeb F4 B OIsNumber g1 k1 b1 OIsPair g2 k2 b2 ORises g3 k3 b3
  have ONeedWeb : FnOk P w K mg base CX0 4 f5 _ ["thing"] spNeedWeb := ok_needWeb F5 OIsWeb g4 k4 b4
  have ORises : FnOk P w K mg base CX0 1 f3 _ ["row"] (spRisesI K) := ok_risesI F3 B
  have OIsPlaces : FnOk P w K mg base CX0 2 f6 _ ["web", "thing"] spIsPlaces := ok_isPlaces F6 B OIsNumber g1 k1 b1 ORises g3 k3 b3
  have ONeedPlaces : FnOk P w K mg base CX0 3 f7 _ ["web", "thing"] spNeedPlaces := ok_needPlaces F7 OIsPlaces g6 k6 b6
  have ONear : FnOk P w K mg base CX0 1 f8 _ ["web"] spNear := ok_near F8 B 
  have OComeTo : FnOk P w K mg base CX0 1 f9 _ ["beside", "place"] spComeTo := ok_comeTo F9 B 
  have OPartsBy : FnOk P w K mg base CX0 2 f10 _ ["beside"] spPartsBy := ok_partsBy F10 B OComeTo g9 k9 b9
  have OParts : FnOk P w K mg base CX0 5 f11 _ ["web"] spParts := ok_parts F11 ONeedWeb g5 k5 b5 ONear g8 k8 b8 OPartsBy g10 k10 b10
  have OLeftOver : FnOk P w K mg base CX0 1 f12 _ ["web", "places"] spLeftOver := ok_leftOver F12 B 
  have OShown : FnOk P w K mg base CX0 3 f17 _ ["web", "bar"] spShown := ok_shown F17 B OLeftOver g12 k12 b12 ONear g8 k8 b8 OPartsBy g10 k10 b10
  have OShows : FnOk P w K mg base CX0 5 f18 _ ["web", "bar"] spShows := ok_shows F18 ONeedWeb g5 k5 b5 ONeedPlaces g7 k7 b7 OShown g17 k17 b17
  have OShownWith : FnOk P w K mg base CX0 4 f19 _ ["web", "ends", "bar"] spShownWith := ok_shownWith F19 B OShown g17 k17 b17
  have OShowsWith : FnOk P w K mg base CX0 5 f20 _ ["web", "ends", "bar"] spShowsWith := ok_showsWith F20 ONeedWeb g5 k5 b5 ONeedPlaces g7 k7 b7 OShownWith g19 k19 b19
  have OKept : FnOk P w K mg base CX0 1 f21 _ ["ends", "parting"] spKept := ok_kept F21 B 
  have OTieOf : FnOk P w K mg base CX0 1 f14 _ ["one", "other"] spTieOf := ok_tieOf F14 B 
  have OGoes : FnOk P w K mg base CX0 2 f13 _ ["web", "thing"] spGoes := ok_goes F13 B OIsNumber g1 k1 b1 OTieOf g14 k14 b14
  have OPartsAll : FnOk P w K mg base CX0 3 f15 _ ["web", "thing"] spPartsAll := ok_partsAll F15 B OGoes g13 k13 b13
  have ONeedParting : FnOk P w K mg base CX0 4 f16 _ ["web", "thing"] spNeedParting := ok_needParting F16 OPartsAll g15 k15 b15
  have OKeeps : FnOk P w K mg base CX0 5 f22 _ ["web", "ends", "parting"] spKeeps := ok_keeps F22 ONeedWeb g5 k5 b5 ONeedPlaces g7 k7 b7 ONeedParting g16 k16 b16 OKept g21 k21 b21
  have OIsBarPaper : FnOk P w K mg base CX0 5 f24 _ ["web", "thing"] spBarPaper := ok_barPaper F24 B ONeedWeb g5 k5 b5 OIsPlaces g6 k6 b6 OPartsAll g15 k15 b15 OKept g21 k21 b21 OShownWith g19 k19 b19
  have ONeedSmall : FnOk P w K mg base CX0 5 f25 _ ["web"] spNeedSmall := ok_needSmall F25 B ONeedWeb g5 k5 b5
  have OBestBar : FnOk P w K mg base CX0 5 f23 _ ["web"] spBestBar := ok_bestBar F23 B ONeedWeb g5 k5 b5 OShown g17 k17 b17
  have OTInit : FnOk P w K mg base CX0 2 f35 _ ["self", "web"] (spTInit C) := ok_tInit F35 T ONear g8 k8 b8
  have OTPlaces : FnOk P w K mg base CX0 1 f36 _ ["self", "bits"] (spTPlaces C) := ok_tPlaces F36 T B
  have OTLed : FnOk P w K mg base CX0 21 f38 _ ["self", "bits", "end"] (spTLed C 10) := led_all F37 F38 T B M OTPlaces 10
  have OTLeast : FnOk P w K mg base CX0 20 f37 _ ["self", "bits"] (spTLeast C 10) := least_all F37 F38 T B M OTPlaces 9
  have OTWay : FnOk P w K mg base CX0 22 f39 _ ["self", "bits"] (spTWay C) := ok_tWay F39 T B M OTPlaces OTLeast OTLed
  have OFewest : FnOk P w K mg base CX0 21 f26 _ ["web"] spFewest := ok_fewest F26 T B M ONeedSmall g25 k25 b25 MK OTInit b35 OTLeast
  have OLeastParting : FnOk P w K mg base CX0 23 f27 _ ["web"] spLeastParting := ok_leastParting F27 T B ONeedSmall g25 k25 b25 MK OTInit b35 mW OTWay b39
  have OCell : FnOk P w K mg base CX0 1 f28 _ ["_law_script", "_law_k"] (spCell K) := ok_cell F28 B 
  have ODraw : FnOk P w K mg base CX0 1 f29 _ ["_law_cell", "_law_k", "_law_bound"] spDraw := ok_draw F29 B 
  have OLWeb : FnOk P w K mg base CX0 2 f30 _ ["_law_cell", "_law_most"] spLWeb := ok_lWeb F30 B ODraw g29 k29 b29
  have OLNear : FnOk P w K mg base CX0 1 f31 _ ["_law_web_here"] spLNear := ok_lNear F31 B 
  have OLSome : FnOk P w K mg base CX0 2 f32 _ ["_law_cell", "_law_many", "_law_at"] spLSome := ok_lSome F32 B ODraw g29 k29 b29
  have OLParted : FnOk P w K mg base CX0 2 f33 _ ["_law_cell", "_law_at", "_law_web_here", "_law_nigh"] spLParted := ok_lParted F33 B ODraw g29 k29 b29
  exact ok_law F34 B OCell g28 k28 b28 ODraw g29 k29 b29 OLWeb g30 k30 b30 OLNear g31 k31 b31 OLSome g32 k32 b32 OLParted g33 k33 b33 OFewest g26 k26 b26 OBestBar g23 k23 b23 OShows g18 k18 b18 OParts g11 k11 b11 OLeastParting g27 k27 b27 OIsBarPaper g24 k24 b24 OShowsWith g20 k20 b20 OKeeps g22 k22 b22
end FwW
open PySem PySem.W PyProof.Rows
set_option maxRecDepth 100000 in
set_option maxHeartbeats 0 in
theorem PySem.Challenge.cw_fewways_k25_whole_bars_holds : PySem.Challenge.rw_fewways_k25_whole_bars.Holds := by
  w_on; o_law; k_head; (case hw => w_witness2)
  k_fill
  refine L2.walk_of (l := PySem.Challenge.rw_fewways_k25_whole_bars) (n := 63) (k := 24) (x := "_law_script") (CX := fun _ => L2.CX0) (sp := fun w => FwW.spLaw _) rfl (by decide) rfl ⟨rfl, by decide, by decide⟩ (fun w h Y => PySem.W.kIn_of Y) ?F (fun _ _ a ns hl _ hS => ⟨a, ns, rfl, hS, hl, fun _ => rfl⟩) (fun _ _ _ _ _ h => h)
  case F =>
    intro w mg fa h KX G hmg
    refine' FwW.all_mk KX G hmg ?a1 ?l1 ?c1 ?k1 ?a2 ?l2 ?c2 ?k2 ?a3 ?l3 ?c3 ?k3 ?a4 ?l4 ?c4 ?k4 ?a5 ?l5 ?c5 ?k5 ?a6 ?l6 ?c6 ?k6 ?a7 ?l7 ?c7 ?k7 ?a8 ?l8 ?c8 ?k8 ?a9 ?l9 ?c9 ?k9 ?a10 ?l10 ?c10 ?k10 ?a11 ?l11 ?c11 ?k11 ?a12 ?l12 ?c12 ?k12 ?a13 ?l13 ?c13 ?k13 ?a14 ?l14 ?c14 ?k14 ?a15 ?l15 ?c15 ?k15 ?a16 ?l16 ?c16 ?k16 ?a17 ?l17 ?c17 ?k17 ?a18 ?l18 ?c18 ?k18 ?a19 ?l19 ?c19 ?k19 ?a20 ?l20 ?c20 ?k20 ?a21 ?l21 ?c21 ?k21 ?a22 ?l22 ?c22 ?k22 ?a23 ?l23 ?c23 ?k23 ?a24 ?l24 ?c24 ?k24 ?a25 ?l25 ?c25 ?k25 ?a26 ?l26 ?c26 ?k26 ?a27 ?l27 ?c27 ?k27 ?a28 ?l28 ?c28 ?k28 ?a29 ?l29 ?c29 ?k29 ?a30 ?l30 ?c30 ?k30 ?a31 ?l31 ?c31 ?k31 ?a32 ?l32 ?c32 ?k32 ?a33 ?l33 ?c33 ?k33 ?a34 ?l34 ?c34 ?k34 ?aC ?a35 ?i35 ?l35 ?c35 ?k35 ?a36 ?i36 ?l36 ?c36 ?k36 ?a37 ?i37 ?l37 ?c37 ?k37 ?a38 ?i38 ?l38 ?c38 ?k38 ?a39 ?i39 ?l39 ?c39 ?k39 ?pg ?hd ?po ?sa ?mk ?kc ?nM ?nB ?nF ?nL ?z0 ?z1 ?z2 ?z3 ?z4 ?z5 ?z6 ?z7 ?z8 ?z9 ?z10 ?z11 ?z12 ?z13 ?y0 ?y1 ?y2
    (case a1 => k_is)
    (case l1 => k_is)
    (case c1 => k_is)
    (case k1 => k_is)
    (case a2 => k_is)
    (case l2 => k_is)
    (case c2 => k_is)
    (case k2 => k_is)
    (case a3 => k_is)
    (case l3 => k_is)
    (case c3 => k_is)
    (case k3 => k_is)
    (case a4 => k_is)
    (case l4 => k_is)
    (case c4 => k_is)
    (case k4 => k_is)
    (case a5 => k_is)
    (case l5 => k_is)
    (case c5 => k_is)
    (case k5 => k_is)
    (case a6 => k_is)
    (case l6 => k_is)
    (case c6 => k_is)
    (case k6 => k_is)
    (case a7 => k_is)
    (case l7 => k_is)
    (case c7 => k_is)
    (case k7 => k_is)
    (case a8 => k_is)
    (case l8 => k_is)
    (case c8 => k_is)
    (case k8 => k_is)
    (case a9 => k_is)
    (case l9 => k_is)
    (case c9 => k_is)
    (case k9 => k_is)
    (case a10 => k_is)
    (case l10 => k_is)
    (case c10 => k_is)
    (case k10 => k_is)
    (case a11 => k_is)
    (case l11 => k_is)
    (case c11 => k_is)
    (case k11 => k_is)
    (case a12 => k_is)
    (case l12 => k_is)
    (case c12 => k_is)
    (case k12 => k_is)
    (case a13 => k_is)
    (case l13 => k_is)
    (case c13 => k_is)
    (case k13 => k_is)
    (case a14 => k_is)
    (case l14 => k_is)
    (case c14 => k_is)
    (case k14 => k_is)
    (case a15 => k_is)
    (case l15 => k_is)
    (case c15 => k_is)
    (case k15 => k_is)
    (case a16 => k_is)
    (case l16 => k_is)
    (case c16 => k_is)
    (case k16 => k_is)
    (case a17 => k_is)
    (case l17 => k_is)
    (case c17 => k_is)
    (case k17 => k_is)
    (case a18 => k_is)
    (case l18 => k_is)
    (case c18 => k_is)
    (case k18 => k_is)
    (case a19 => k_is)
    (case l19 => k_is)
    (case c19 => k_is)
    (case k19 => k_is)
    (case a20 => k_is)
    (case l20 => k_is)
    (case c20 => k_is)
    (case k20 => k_is)
    (case a21 => k_is)
    (case l21 => k_is)
    (case c21 => k_is)
    (case k21 => k_is)
    (case a22 => k_is)
    (case l22 => k_is)
    (case c22 => k_is)
    (case k22 => k_is)
    (case a23 => k_is)
    (case l23 => k_is)
    (case c23 => k_is)
    (case k23 => k_is)
    (case a24 => k_is)
    (case l24 => k_is)
    (case c24 => k_is)
    (case k24 => k_is)
    (case a25 => k_is)
    (case l25 => k_is)
    (case c25 => k_is)
    (case k25 => k_is)
    (case a26 => k_is)
    (case l26 => k_is)
    (case c26 => k_is)
    (case k26 => k_is)
    (case a27 => k_is)
    (case l27 => k_is)
    (case c27 => k_is)
    (case k27 => k_is)
    (case a28 => k_is)
    (case l28 => k_is)
    (case c28 => k_is)
    (case k28 => k_is)
    (case a29 => k_is)
    (case l29 => k_is)
    (case c29 => k_is)
    (case k29 => k_is)
    (case a30 => k_is)
    (case l30 => k_is)
    (case c30 => k_is)
    (case k30 => k_is)
    (case a31 => k_is)
    (case l31 => k_is)
    (case c31 => k_is)
    (case k31 => k_is)
    (case a32 => k_is)
    (case l32 => k_is)
    (case c32 => k_is)
    (case k32 => k_is)
    (case a33 => k_is)
    (case l33 => k_is)
    (case c33 => k_is)
    (case k33 => k_is)
    (case a34 => k_is)
    (case l34 => k_is)
    (case c34 => k_is)
    (case k34 => k_is)
    (case aC => k_is)
    (case a35 => k_is)
    (case i35 => k_is)
    (case l35 => k_is)
    (case c35 => k_is)
    (case k35 => k_is)
    (case a36 => k_is)
    (case i36 => k_is)
    (case l36 => k_is)
    (case c36 => k_is)
    (case k36 => k_is)
    (case a37 => k_is)
    (case i37 => k_is)
    (case l37 => k_is)
    (case c37 => k_is)
    (case k37 => k_is)
    (case a38 => k_is)
    (case i38 => k_is)
    (case l38 => k_is)
    (case c38 => k_is)
    (case k38 => k_is)
    (case a39 => k_is)
    (case i39 => k_is)
    (case l39 => k_is)
    (case c39 => k_is)
    (case k39 => k_is)
    (case pg => k_is)
    (case hd => k_is)
    (case po => k_is)
    (case sa => k_is)
    (case mk => k_is)
    (case kc => k_is)
    (case nM => k_is)
    (case nB => k_is)
    (case nF => k_is)
    (case nL => k_is)
    (case z0 => k_is)
    (case z1 => k_is)
    (case z2 => k_is)
    (case z3 => k_is)
    (case z4 => k_is)
    (case z5 => k_is)
    (case z6 => k_is)
    (case z7 => k_is)
    (case z8 => k_is)
    (case z9 => k_is)
    (case z10 => k_is)
    (case z11 => k_is)
    (case z12 => k_is)
    (case z13 => k_is)
    (case y0 => k_is)
    (case y1 => k_is)
    (case y2 => k_is)
