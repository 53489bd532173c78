import PyProof.Rows.All
import Wide.All
import OpenK.AllK
import Wide.FinOn
import KE.SortData
import KE.SortLaws
import HandS.ForMost
import HandS.Defaults
import KE.KDictKeyed
import HandS.TupLen
import HandS.Walk
import PyProof.MinMaxWalk
import PyProof.WalkInts
import HandS.SortKw
import HandS.NoneIn
import HandS.DictComp
import HandS.Flow
import HandS.IsInst
import HandS.Wide
import HandS.TupAny
import HandS.ListItems
import HandS.Conv
import HandS.More
import HandS.Text
import KE.KStateDown
import HandS.WordsExc
import HandS.Head0
import HandS.Head1
import HandS.Head2
import HandS.HeadEnd
import HandS.HeadHook1
import HandS.HeadHook2
import PySem.Challenge.RW_ledgertrace_k08_whole_valuing_is_a_homom
set_option autoImplicit false
set_option linter.all false
set_option maxRecDepth 100000
set_option maxHeartbeats 4000000
/-! K8Math: the plain side of the law: data, orders, dicts as lists, sums. No program in sight. -/
namespace K8
open PySem PySem.W PyProof.Rows

/-! ### data -/
abbrev Mono := List (Str × Nat)
abbrev Poly := List (Mono × Nat)
def ePair (p : Str × Nat) : PyData := .tuple [.str p.1, .int p.2]
def eMono (m : Mono) : PyData := .tuple (m.map ePair)
def eTerm (t : Mono × Nat) : PyData := .tuple [eMono t.1, .int t.2]
def ePoly (p : Poly) : PyData := .tuple (p.map eTerm)

section
variable {α : Type}
theorem alikeAll_map (e : α → PyData) (h : ∀ a b, alike (e a) (e b) = true) : ∀ xs ys : List α, alikeAll (xs.map e) (ys.map e) = true
  | [], _ => by simp [alikeAll]
  | _ :: _, [] => by simp [alikeAll]
  | x :: xs, y :: ys => by
    rw [List.map_cons, List.map_cons, alikeAll, h x y, alikeAll_map e h xs ys]
    rfl
theorem eqvAll_map_inj (e : α → PyData) (h : ∀ a b, PyData.eqv (e a) (e b) = true → a = b) : ∀ xs ys : List α, PyData.eqvAll (xs.map e) (ys.map e) = true → xs = ys
  | [], [], _ => rfl
  | [], _ :: _, q => by simp [PyData.eqvAll] at q
  | _ :: _, [], q => by simp [PyData.eqvAll] at q
  | x :: xs, y :: ys, q => by
    rw [List.map_cons, List.map_cons, eqv_all_cons, Bool.and_eq_true] at q
    rw [h x y q.1, eqvAll_map_inj e h xs ys q.2]
end
/-- how data of a kind are told -/
structure Enc (α : Type) where
  e : α → PyData
  al : ∀ a b, alike (e a) (e b) = true
  inj : ∀ a b, PyData.eqv (e a) (e b) = true → a = b
def Enc.lt {α : Type} (E : Enc α) (a b : α) : Bool := dataLt (E.e a) (E.e b)
theorem Enc.einj {α : Type} (E : Enc α) {a b : α} (h : E.e a = E.e b) : a = b := by
  refine E.inj a b ?_
  rw [h]
  exact eqv_refl_alike _ (E.al b b)
theorem Enc.eqv {α : Type} [DecidableEq α] (E : Enc α) (a b : α) : PyData.eqv (E.e a) (E.e b) = decide (a = b) := by
  by_cases h : a = b
  · subst h
    rw [decide_eq_true rfl]
    exact eqv_refl_alike _ (E.al a a)
  · rw [decide_eq_false h]
    cases q : PyData.eqv (E.e a) (E.e b) with
    | false => rfl
    | true => exact absurd (E.inj a b q) h
def encStr : Enc Str := ⟨.str, fun _ _ => by simp [alike], fun a b h => by simpa [PyData.eqv] using h⟩
theorem pair_alike {x x' y y' : PyData} (h : alike x x' = true) (h' : alike y y' = true) : alike (.tuple [x, y]) (.tuple [x', y']) = true := by
  simp [alike, alikeAll, h, h']
theorem pair_eqv {x x' y y' : PyData} : PyData.eqv (.tuple [x, y]) (.tuple [x', y']) = (PyData.eqv x x' && PyData.eqv y y') := by
  simp [PyData.eqv, PyData.eqvAll]
theorem nat_alike (a b : Nat) : alike (.int (a : Int)) (.int (b : Int)) = true := by simp [alike]
theorem nat_eqv {a b : Nat} (h : PyData.eqv (.int (a : Int)) (.int (b : Int)) = true) : a = b := by
  have e : (a : Int) = b := by simpa [PyData.eqv] using h
  omega
/-- pairs of a key and a number -/
def Enc.pair {κ : Type} (E : Enc κ) : Enc (κ × Nat) := ⟨fun p => .tuple [E.e p.1, .int p.2], fun a b => pair_alike (E.al _ _) (nat_alike _ _), fun a b h => by
  rw [pair_eqv, Bool.and_eq_true] at h
  exact Prod.ext (E.inj _ _ h.1) (nat_eqv h.2)⟩
/-- tuples of a kind -/
def Enc.tup {κ : Type} (E : Enc κ) : Enc (List κ) := ⟨fun xs => .tuple (xs.map E.e), fun a b => by simpa [alike] using alikeAll_map E.e E.al a b, fun a b h => by
  have h2 : PyData.eqvAll (a.map E.e) (b.map E.e) = true := by simpa [PyData.eqv] using h
  exact eqvAll_map_inj E.e E.inj a b h2⟩
def encPair : Enc (Str × Nat) := encStr.pair
def encMono : Enc Mono := encPair.tup
def encTerm : Enc (Mono × Nat) := encMono.pair
def encPoly : Enc Poly := encTerm.tup
theorem encPair_e (p : Str × Nat) : encPair.e p = ePair p := rfl
theorem encMono_e (m : Mono) : encMono.e m = eMono m := rfl
theorem encTerm_e (t : Mono × Nat) : encTerm.e t = eTerm t := rfl
theorem encPoly_e (p : Poly) : encPoly.e p = ePoly p := rfl

/-! ### the order -/
section
variable {α : Type} (E : Enc α)
theorem Enc.irrefl (a : α) : E.lt a a = false := PyProof.Rows.lex_irrefl (O := itemOrd) _
theorem Enc.trans {a b c : α} (h1 : E.lt a b = true) (h2 : E.lt b c = true) : E.lt a c = true := PyProof.Rows.lex_trans (O := itemOrd) _ _ _ h1 h2
theorem Enc.asym {a b : α} (h : E.lt a b = true) : E.lt b a = false := by
  cases q : E.lt b a with
  | false => rfl
  | true =>
    have z := E.trans h q
    rw [E.irrefl] at z
    cases z
theorem Enc.tri {a b : α} (h1 : E.lt a b = false) (h2 : E.lt b a = false) : a = b := by
  have hk : keyToks (E.e a) = keyToks (E.e b) := PyProof.Rows.lex_total (O := itemOrd) _ _ h1 h2
  refine E.inj a b ?_
  cases q : PyData.eqv (E.e a) (E.e b) with
  | true => rfl
  | false =>
    have z := (toks_eqv (E.e a) (E.e b) (E.al a b)).2 q [Sum.inl 0] [Sum.inl 1]
    rw [hk, lex_pre, PyProof.Rows.lex_irrefl, lex_one] at z
    exact absurd z (by decide)
end

/-! ### strictly rising lists -/
section
variable {α : Type} (E : Enc α)
abbrev Rising (l : List α) : Prop := l.Pairwise fun a b => E.lt a b = true
theorem rising_head {E : Enc α} {x : α} {l : List α} (h : Rising E (x :: l)) : ∀ y ∈ l, E.lt x y = true := (List.pairwise_cons.mp h).1
theorem rising_tail {E : Enc α} {x : α} {l : List α} (h : Rising E (x :: l)) : Rising E l := (List.pairwise_cons.mp h).2
/-- two rising lists of the same members are one -/
theorem rising_uniq {E : Enc α} : ∀ {l m : List α}, Rising E l → Rising E m → (∀ x, x ∈ l ↔ x ∈ m) → l = m
  | [], [], _, _, _ => rfl
  | [], y :: m, _, _, h => absurd ((h y).mpr List.mem_cons_self) (by simp)
  | x :: l, [], _, _, h => absurd ((h x).mp List.mem_cons_self) (by simp)
  | x :: l, y :: m, hl, hm, h => by
    have e : x = y := by
      rcases List.mem_cons.mp ((h x).mp List.mem_cons_self) with e | hx
      · exact e
      · rcases List.mem_cons.mp ((h y).mpr List.mem_cons_self) with e | hy
        · exact e.symm
        · have a := rising_head hm x hx
          have b := rising_head hl y hy
          rw [E.asym a] at b
          cases b
    subst e
    congr 1
    refine rising_uniq (rising_tail hl) (rising_tail hm) fun z => ⟨fun hz => ?_, fun hz => ?_⟩
    · rcases List.mem_cons.mp ((h z).mp (List.mem_cons_of_mem _ hz)) with e | q
      · subst e
        have a := rising_head hl z hz
        rw [E.irrefl] at a
        cases a
      · exact q
    · rcases List.mem_cons.mp ((h z).mpr (List.mem_cons_of_mem _ hz)) with e | q
      · subst e
        have a := rising_head hm z hz
        rw [E.irrefl] at a
        cases a
      · exact q
theorem rising_nodup {E : Enc α} {l : List α} (h : Rising E l) : l.Nodup := h.imp fun {a b} q e => by
  subst e
  rw [E.irrefl] at q
  cases q

/-! ### the law's own sorting: a row is put where those less than it end, if it is not there -/
variable [DecidableEq α]
def ins (found : List α) (row : α) : List α :=
  let i := (found.filter fun x => E.lt x row).length
  if i = found.length ∨ found[i]? ≠ some row then found.take i ++ [row] ++ found.drop i else found
def lsort (rows : List α) : List α := rows.foldl (ins E) []
theorem rising_split {E : Enc α} (row : α) : ∀ {l : List α}, Rising E l → ∃ A B, l = A ++ B ∧ (∀ a ∈ A, E.lt a row = true) ∧ ∀ b ∈ B, E.lt b row = false
  | [], _ => ⟨[], [], rfl, by simp, by simp⟩
  | x :: l, h => by
    cases q : E.lt x row with
    | true =>
      obtain ⟨A, B, e, ha, hb⟩ := rising_split row (rising_tail h)
      refine ⟨x :: A, B, by rw [e]; rfl, fun a m => ?_, hb⟩
      rcases List.mem_cons.mp m with e | m
      · rw [e]; exact q
      · exact ha a m
    | false =>
      refine ⟨[], x :: l, rfl, by simp, fun b m => ?_⟩
      rcases List.mem_cons.mp m with e | m
      · rw [e]; exact q
      · cases z : E.lt b row with
        | false => rfl
        | true =>
          have y := E.trans (rising_head h b m) z
          rw [q] at y
          cases y
theorem ins_spec {E : Enc α} {l : List α} (row : α) (h : Rising E l) : Rising E (ins E l row) ∧ ∀ x, x ∈ ins E l row ↔ x = row ∨ x ∈ l := by
  obtain ⟨A, B, e, ha, hb⟩ := rising_split row h
  subst e
  have hf : (A ++ B).filter (fun x => E.lt x row) = A := by
    rw [List.filter_append, List.filter_eq_self.mpr ha, List.filter_eq_nil_iff.mpr (fun b m => by rw [hb b m]; decide), List.append_nil]
  obtain ⟨h1, h2, h3⟩ := List.pairwise_append.mp h
  have step : ∀ (hx : ∀ b ∈ B, E.lt row b = true), Rising E (A ++ [row] ++ B) := fun hx => by
    rw [List.append_assoc]
    refine List.pairwise_append.mpr ⟨h1, List.pairwise_cons.mpr ⟨hx, h2⟩, fun a m b mb => ?_⟩
    rcases List.mem_cons.mp mb with e | mb
    · rw [e]; exact ha a m
    · exact h3 a m b mb
  have memb : ∀ x, x ∈ A ++ [row] ++ B ↔ x = row ∨ x ∈ A ++ B := fun x => by
    simp only [List.mem_append, List.mem_singleton]
    constructor
    · rintro ((q | q) | q)
      · exact .inr (.inl q)
      · exact .inl q
      · exact .inr (.inr q)
    · rintro (q | q | q)
      · exact .inl (.inr q)
      · exact .inl (.inl q)
      · exact .inr q
  unfold ins
  simp only [hf, List.take_left', List.drop_left', List.length_append]
  cases B with
  | nil =>
    rw [if_pos (.inl (by simp))]
    exact ⟨step (by simp), memb⟩
  | cons b B =>
    have e0 : (A ++ b :: B)[A.length]? = some b := by simp
    rw [e0]
    by_cases q : b = row
    · subst q
      rw [if_neg (by simp)]
      refine ⟨h, fun x => ⟨fun m => .inr m, fun m => ?_⟩⟩
      rcases m with rfl | m
      · simp
      · exact m
    · rw [if_pos (.inr (by simpa using q))]
      refine ⟨step fun c m => ?_, memb⟩
      have hbr : E.lt row b = true := by
        cases z : E.lt row b with
        | true => rfl
        | false => exact absurd (E.tri (hb b List.mem_cons_self) z) q
      rcases List.mem_cons.mp m with e | m
      · rw [e]; exact hbr
      · exact E.trans hbr (rising_head h2 c m)
theorem fold_ins {E : Enc α} : ∀ (rows l : List α), Rising E l → Rising E (rows.foldl (ins E) l) ∧ ∀ x, x ∈ rows.foldl (ins E) l ↔ x ∈ l ∨ x ∈ rows
  | [], l, h => ⟨h, fun x => by simp⟩
  | r :: rows, l, h => by
    obtain ⟨h1, h2⟩ := ins_spec r h
    obtain ⟨h3, h4⟩ := fold_ins rows (ins E l r) h1
    refine ⟨h3, fun x => ?_⟩
    rw [List.foldl_cons, h4 x, h2 x, List.mem_cons]
    constructor
    · rintro ((q | q) | q)
      · exact .inr (.inl q)
      · exact .inl q
      · exact .inr (.inr q)
    · rintro (q | q | q)
      · exact .inl (.inr q)
      · exact .inl (.inl q)
      · exact .inr q
theorem lsort_rising {E : Enc α} (rows : List α) : Rising E (lsort E rows) := (fold_ins rows [] List.Pairwise.nil).1
theorem lsort_mem {E : Enc α} {rows : List α} {x : α} : x ∈ lsort E rows ↔ x ∈ rows := by
  rw [lsort, (fold_ins rows [] List.Pairwise.nil).2 x]
  simp
theorem lsort_of {E : Enc α} {rows l : List α} (h : Rising E l) (hm : ∀ x, x ∈ l ↔ x ∈ rows) : lsort E rows = l :=
  rising_uniq (lsort_rising rows) h fun x => by rw [lsort_mem, hm]
theorem lsort_perm {E : Enc α} {rows : List α} (h : rows.Nodup) : (lsort E rows).Perm rows :=
  (List.perm_ext_iff_of_nodup (rising_nodup (lsort_rising rows)) h).mpr fun x => lsort_mem
theorem lsort_length {E : Enc α} : ∀ (rows l : List α), (rows.foldl (ins E) l).length ≤ l.length + rows.length
  | [], l => by simp
  | r :: rows, l => by
    rw [List.foldl_cons]
    have h := lsort_length (E := E) rows (ins E l r)
    have h2 : (ins E l r).length ≤ l.length + 1 := by
      unfold ins
      simp only
      split
      · simp only [List.length_append, List.length_take, List.length_drop, List.length_singleton]
        omega
      · omega
    rw [List.length_cons]
    omega
/-- Python's sorted of unlike items -/
theorem sort_rising {E : Enc α} {l : List α} (h : l.Nodup) : l.mergeSort (dataLe false E.e) = lsort E l := by
  have T : TotalLe (dataLe false E.e) := sortLe_total (listOrd itemOrd) false fun b => keyToks (E.e b)
  have hp : (l.mergeSort (dataLe false E.e)).Perm l := List.mergeSort_perm l _
  have nd : (l.mergeSort (dataLe false E.e)).Nodup := hp.symm.nodup h
  refine (lsort_of ?_ fun x => hp.mem_iff).symm
  refine (List.Pairwise.and (sort_pairwise T l) nd).imp fun {a b} ⟨q, ne⟩ => ?_
  have q' : (!E.lt b a) = true := q
  cases z : E.lt a b with
  | true => rfl
  | false =>
    refine absurd (E.tri z ?_) ne
    simpa using q'
end
end K8
/-! K8Alg: dicts as lists, tallies, canonical forms, sums and products in an algebra. No program in sight. -/
namespace K8
open PySem PySem.W PyProof.Rows

/-! ### dicts as lists of pairs, in the order of insertion -/
section
variable {κ β : Type} [DecidableEq κ]
def get? (kvs : List (κ × β)) (k : κ) : Option β := (kvs.find? fun kv => decide (kv.1 = k)).map (·.2)
def put (kvs : List (κ × β)) (k : κ) (v : β) : List (κ × β) :=
  if (kvs.any fun kv => decide (kv.1 = k)) = true then kvs.map (fun kv => if kv.1 = k then (kv.1, v) else kv) else kvs ++ [(k, v)]
def keys (kvs : List (κ × β)) : List κ := kvs.map (·.1)
theorem get?_nil (k : κ) : get? ([] : List (κ × β)) k = none := rfl
theorem get?_pos {p : κ × β} {r : List (κ × β)} {k : κ} (e : p.1 = k) : get? (p :: r) k = some p.2 := by simp [get?, List.find?_cons, e]
theorem get?_neg {p : κ × β} {r : List (κ × β)} {k : κ} (e : ¬ p.1 = k) : get? (p :: r) k = get? r k := by simp [get?, List.find?_cons, e]
theorem any_key (k : κ) : ∀ kvs : List (κ × β), (kvs.any fun kv => decide (kv.1 = k)) = decide (k ∈ keys kvs)
  | [] => by simp [keys]
  | p :: r => by
    rw [List.any_cons, any_key k r]
    by_cases e : p.1 = k
    · simp [keys, e]
    · have e2 : ¬ k = p.1 := fun z => e z.symm
      have q : (k ∈ keys (p :: r)) = (k ∈ keys r) := by
        show (k ∈ p.1 :: keys r) = _
        rw [List.mem_cons]
        exact propext ⟨fun z => z.elim (fun z => absurd z e2) id, .inr⟩
      simp only [q, e, decide_false, Bool.false_or]
theorem get?_isSome (k : κ) : ∀ kvs : List (κ × β), (get? kvs k).isSome = decide (k ∈ keys kvs)
  | [] => by simp [keys, get?]
  | p :: r => by
    by_cases e : p.1 = k
    · rw [get?_pos e]
      simp [keys, e]
    · rw [get?_neg e, get?_isSome k r]
      have e2 : ¬ k = p.1 := fun z => e z.symm
      have q : (k ∈ keys (p :: r)) = (k ∈ keys r) := by
        show (k ∈ p.1 :: keys r) = _
        rw [List.mem_cons]
        exact propext ⟨fun z => z.elim (fun z => absurd z e2) id, .inr⟩
      simp only [q]
theorem get?_none {k : κ} {kvs : List (κ × β)} : get? kvs k = none ↔ k ∉ keys kvs := by
  rw [← Option.not_isSome_iff_eq_none, get?_isSome]
  simp
theorem get?_mem {k : κ} {v : β} : ∀ {kvs : List (κ × β)}, get? kvs k = some v → (k, v) ∈ kvs
  | [], h => by simp [get?] at h
  | p :: r, h => by
    by_cases e : p.1 = k
    · rw [get?_pos e] at h
      have e2 : p.2 = v := Option.some.inj h
      rw [← e, ← e2]
      exact List.mem_cons_self
    · rw [get?_neg e] at h
      exact List.mem_cons_of_mem _ (get?_mem h)
theorem get?_of_mem {k : κ} {v : β} : ∀ {kvs : List (κ × β)}, (keys kvs).Nodup → (k, v) ∈ kvs → get? kvs k = some v
  | [], _, h => by simp at h
  | p :: r, nd, h => by
    have nd2 : p.1 ∉ keys r ∧ (keys r).Nodup := List.nodup_cons.mp nd
    rcases List.mem_cons.mp h with e | h
    · subst e
      exact get?_pos rfl
    · have ne : ¬ p.1 = k := fun e => nd2.1 (by rw [e]; exact List.mem_map.mpr ⟨_, h, rfl⟩)
      rw [get?_neg ne]
      exact get?_of_mem nd2.2 h
theorem keys_put (kvs : List (κ × β)) (k : κ) (v : β) : keys (put kvs k v) = if k ∈ keys kvs then keys kvs else keys kvs ++ [k] := by
  unfold put
  rw [any_key]
  by_cases h : k ∈ keys kvs
  · rw [if_pos (by simpa using h), if_pos h]
    unfold keys
    rw [List.map_map]
    refine List.map_congr_left fun p _ => ?_
    show (if p.1 = k then (p.1, v) else p).1 = p.1
    split <;> rfl
  · rw [if_neg (by simpa using h), if_neg h]
    simp [keys]
theorem nodup_put {kvs : List (κ × β)} (h : (keys kvs).Nodup) (k : κ) (v : β) : (keys (put kvs k v)).Nodup := by
  rw [keys_put]
  split
  · exact h
  · rename_i hn
    exact List.nodup_append.mpr ⟨h, by simp, fun a ha b hb => by
      have : b = k := by simpa using hb
      subst this
      rintro rfl
      exact hn ha⟩
theorem mem_keys_put {kvs : List (κ × β)} {k j : κ} {v : β} : j ∈ keys (put kvs k v) ↔ j = k ∨ j ∈ keys kvs := by
  rw [keys_put]
  split
  · rename_i h
    exact ⟨.inr, fun q => q.elim (fun e => e ▸ h) id⟩
  · simp [or_comm]
theorem get?_map_put (k j : κ) (v : β) : ∀ kvs : List (κ × β), get? (kvs.map fun kv => if kv.1 = k then (kv.1, v) else kv) j = (get? kvs j).map fun x => if j = k then v else x
  | [] => rfl
  | p :: r => by
    have ih := get?_map_put k j v r
    rw [List.map_cons]
    by_cases h : p.1 = k
    · rw [if_pos h]
      by_cases e : p.1 = j
      · rw [get?_pos (p := (p.1, v)) e, get?_pos e]
        have : j = k := e.symm.trans h
        simp [this]
      · rw [get?_neg (p := (p.1, v)) e, get?_neg e, ih]
    · rw [if_neg h]
      by_cases e : p.1 = j
      · rw [get?_pos e, get?_pos e]
        have : ¬ j = k := fun z => h (e.trans z)
        simp [this]
      · rw [get?_neg e, get?_neg e, ih]
theorem get?_snoc (k j : κ) (v : β) : ∀ kvs : List (κ × β), k ∉ keys kvs → get? (kvs ++ [(k, v)]) j = if j = k then some v else get? kvs j
  | [], _ => by
    by_cases e : k = j
    · rw [if_pos e.symm]; exact get?_pos (p := (k, v)) e
    · rw [if_neg (fun z => e z.symm)]; exact get?_neg (p := (k, v)) e
  | p :: r, hn => by
    have hk : ¬ p.1 = k := fun z => hn (by simp [keys, z])
    have hr : k ∉ keys r := fun z => hn (by
      have : k ∈ p.1 :: keys r := List.mem_cons_of_mem _ z
      exact this)
    rw [List.cons_append]
    by_cases e : p.1 = j
    · rw [get?_pos e, get?_pos e, if_neg (fun z => hk (e.trans z))]
    · rw [get?_neg e, get?_neg e]
      exact get?_snoc k j v r hr
theorem get?_put (kvs : List (κ × β)) (k j : κ) (v : β) : get? (put kvs k v) j = if j = k then some v else get? kvs j := by
  unfold put
  rw [any_key]
  by_cases h : k ∈ keys kvs
  · rw [if_pos (by simpa using h), get?_map_put]
    by_cases e : j = k
    · subst e
      rw [if_pos rfl]
      cases q : get? kvs j with
      | none => exact absurd h (get?_none.mp q)
      | some x => simp
    · rw [if_neg e]
      cases q : get? kvs j with
      | none => rfl
      | some x => simp [e]
  · rw [if_neg (by simpa using h)]
    exact get?_snoc k j v kvs h
theorem length_put (kvs : List (κ × β)) (k : κ) (v : β) : (put kvs k v).length ≤ kvs.length + 1 := by
  unfold put
  split
  · rw [List.length_map]; omega
  · rw [List.length_append, List.length_cons, List.length_nil]; omega
theorem put_new {kvs : List (κ × β)} {k : κ} (v : β) (h : k ∉ keys kvs) : put kvs k v = kvs ++ [(k, v)] := by
  unfold put
  rw [any_key]
  exact if_neg (by simpa using h)
/-- dict(pairs): later ones win -/
def ofPairs (ps : List (κ × β)) : List (κ × β) := ps.foldl (fun acc p => put acc p.1 p.2) []
theorem ofPairs_go : ∀ (ps acc : List (κ × β)), (keys ps).Nodup → (∀ k ∈ keys ps, k ∉ keys acc) → ps.foldl (fun acc p => put acc p.1 p.2) acc = acc ++ ps
  | [], acc, _, _ => by simp
  | p :: ps, acc, nd, h => by
    have nd2 : p.1 ∉ keys ps ∧ (keys ps).Nodup := List.nodup_cons.mp nd
    rw [List.foldl_cons, put_new p.2 (h p.1 (by simp [keys])), ofPairs_go ps _ nd2.2 fun k hk => ?_]
    · simp
    · have h1 : k ∉ keys acc := h k (List.mem_cons_of_mem _ hk)
      intro z
      have z2 : k ∈ keys acc ∨ k = p.1 := by simpa [keys] using z
      rcases z2 with z2 | z2
      · exact h1 z2
      · subst z2
        exact nd2.1 hk
theorem ofPairs_nodup {ps : List (κ × β)} (h : (keys ps).Nodup) : ofPairs ps = ps := by
  have := ofPairs_go ps [] h fun k _ => by simp [keys]
  simpa [ofPairs] using this
end

/-! ### tallies -/
section
variable {κ : Type} [DecidableEq κ]
def bump (kvs : List (κ × Nat)) (k : κ) (n : Nat) : List (κ × Nat) := put kvs k ((get? kvs k).getD 0 + n)
def tally (kvs ts : List (κ × Nat)) : List (κ × Nat) := ts.foldl (fun acc t => bump acc t.1 t.2) kvs
theorem tally_nil (kvs : List (κ × Nat)) : tally kvs [] = kvs := rfl
theorem tally_cons (kvs : List (κ × Nat)) (t : κ × Nat) (ts : List (κ × Nat)) : tally kvs (t :: ts) = tally (bump kvs t.1 t.2) ts := rfl
theorem tally_append (kvs ts us : List (κ × Nat)) : tally kvs (ts ++ us) = tally (tally kvs ts) us := by
  unfold tally
  rw [List.foldl_append]
theorem tally_snoc (kvs ts : List (κ × Nat)) (t : κ × Nat) : tally kvs (ts ++ [t]) = bump (tally kvs ts) t.1 t.2 := by
  rw [tally_append]
  rfl
theorem tally_nodup : ∀ (ts kvs : List (κ × Nat)), (keys kvs).Nodup → (keys (tally kvs ts)).Nodup
  | [], _, h => h
  | t :: ts, kvs, h => tally_nodup ts _ (nodup_put h _ _)
theorem tally_keys : ∀ (ts kvs : List (κ × Nat)) (k : κ), k ∈ keys (tally kvs ts) ↔ k ∈ keys kvs ∨ k ∈ keys ts
  | [], kvs, k => by simp [tally_nil, keys]
  | t :: ts, kvs, k => by
    rw [tally_cons, tally_keys ts _ k, bump, mem_keys_put]
    have : k ∈ keys (t :: ts) ↔ k = t.1 ∨ k ∈ keys ts := by
      show k ∈ t.1 :: keys ts ↔ _
      rw [List.mem_cons]
    rw [this]
    constructor
    · rintro ((q | q) | q)
      · exact .inr (.inl q)
      · exact .inl q
      · exact .inr (.inr q)
    · rintro (q | q | q)
      · exact .inl (.inr q)
      · exact .inl (.inl q)
      · exact .inr q
theorem tally_length : ∀ (ts kvs : List (κ × Nat)), (tally kvs ts).length ≤ kvs.length + ts.length
  | [], kvs => by simp [tally_nil]
  | t :: ts, kvs => by
    rw [tally_cons]
    have h := tally_length ts (bump kvs t.1 t.2)
    have h2 := length_put kvs t.1 ((get? kvs t.1).getD 0 + t.2)
    have h3 : (bump kvs t.1 t.2).length ≤ kvs.length + 1 := h2
    rw [List.length_cons]
    omega
/-- a tally of unlike keys from nothing is the list itself -/
theorem tally_self {ts : List (κ × Nat)} (h : (keys ts).Nodup) : tally [] ts = ts := by
  have go : ∀ (ts acc : List (κ × Nat)), (keys ts).Nodup → (∀ k ∈ keys ts, k ∉ keys acc) → tally acc ts = acc ++ ts := by
    intro ts
    induction ts with
    | nil => intro acc _ _; simp [tally_nil]
    | cons p ps ih =>
      intro acc nd h
      have nd2 : p.1 ∉ keys ps ∧ (keys ps).Nodup := List.nodup_cons.mp nd
      have hp : p.1 ∉ keys acc := h p.1 (by simp [keys])
      have e : bump acc p.1 p.2 = acc ++ [p] := by
        unfold bump
        rw [get?_none.mpr hp, put_new _ hp]
        simp
      rw [tally_cons, e, ih _ nd2.2 fun k hk => ?_]
      · simp
      · have h1 : k ∉ keys acc := h k (List.mem_cons_of_mem _ hk)
        intro z
        have z2 : k ∈ keys acc ∨ k = p.1 := by simpa [keys] using z
        rcases z2 with z2 | z2
        · exact h1 z2
        · subst z2
          exact nd2.1 hk
  have := go ts [] h fun k _ => by simp [keys]
  simpa using this
def PosN (ts : List (κ × Nat)) : Prop := ∀ t ∈ ts, 1 ≤ t.2
theorem put_mem {kvs : List (κ × Nat)} {k : κ} {v : Nat} {t : κ × Nat} (h : t ∈ put kvs k v) : t ∈ kvs ∨ t = (k, v) := by
  unfold put at h
  split at h
  · obtain ⟨p, hp, e⟩ := List.mem_map.mp h
    split at e
    · rename_i q
      right
      rw [← e, q]
    · left
      rw [← e]
      exact hp
  · rcases List.mem_append.mp h with h | h
    · exact .inl h
    · exact .inr (by simpa using h)
theorem tally_pos : ∀ (ts kvs : List (κ × Nat)), PosN kvs → PosN ts → PosN (tally kvs ts)
  | [], _, h, _ => h
  | t :: ts, kvs, h, ht => by
    refine tally_pos ts _ (fun u hu => ?_) fun u hu => ht u (List.mem_cons_of_mem _ hu)
    rcases put_mem hu with hu | e
    · exact h u hu
    · rw [e]
      have := ht t List.mem_cons_self
      show 1 ≤ _ + t.2
      omega
end

/-! ### the canonical form of a tally -/
section
variable {κ : Type} [DecidableEq κ] (E : Enc κ)
def canon (kvs : List (κ × Nat)) : List (κ × Nat) := (lsort E (keys kvs)).map fun k => (k, (get? kvs k).getD 0)
theorem canon_keys (kvs : List (κ × Nat)) : keys (canon E kvs) = lsort E (keys kvs) := by
  unfold canon keys
  rw [List.map_map]
  exact List.map_id' _
theorem canon_rising (kvs : List (κ × Nat)) : Rising E (keys (canon E kvs)) := by
  rw [canon_keys]
  exact lsort_rising _
theorem canon_perm {kvs : List (κ × Nat)} (h : (keys kvs).Nodup) : (canon E kvs).Perm kvs := by
  have e : kvs = (keys kvs).map fun k => (k, (get? kvs k).getD 0) := by
    unfold keys
    rw [List.map_map]
    refine (List.map_id kvs).symm.trans (List.map_congr_left fun p hp => ?_)
    show p = (p.1, (get? kvs p.1).getD 0)
    rw [get?_of_mem h (show (p.1, p.2) ∈ kvs from hp)]
    rfl
  have p := (lsort_perm (E := E) h).map fun k => (k, (get? kvs k).getD 0)
  rw [← e] at p
  exact p
theorem canon_length (kvs : List (κ × Nat)) : (canon E kvs).length ≤ kvs.length := by
  unfold canon lsort
  rw [List.length_map]
  have h := lsort_length (E := E) (keys kvs) []
  simp only [List.length_nil, Nat.zero_add] at h
  unfold keys at h
  rw [List.length_map] at h
  exact h
/-- Python's sorted of a dict's items -/
theorem sort_canon {kvs : List (κ × Nat)} (h : (keys kvs).Nodup) : kvs.mergeSort (dataLe false E.pair.e) = canon E kvs := by
  have T : TotalLe (dataLe false E.pair.e) := sortLe_total (listOrd itemOrd) false fun b => keyToks (E.pair.e b)
  have hp : (kvs.mergeSort (dataLe false E.pair.e)).Perm kvs := List.mergeSort_perm kvs _
  have hk : (keys (kvs.mergeSort (dataLe false E.pair.e))).Perm (keys kvs) := hp.map _
  have nd : (keys (kvs.mergeSort (dataLe false E.pair.e))).Nodup := hk.symm.nodup h
  have e1 : lsort E (keys kvs) = keys (kvs.mergeSort (dataLe false E.pair.e)) := by
    refine lsort_of ?_ fun x => hk.mem_iff
    refine List.pairwise_map.mpr ?_
    have nd2 : (kvs.mergeSort (dataLe false E.pair.e)).Pairwise fun a b => a.1 ≠ b.1 := List.pairwise_map.mp nd
    refine (List.Pairwise.and (sort_pairwise T kvs) nd2).imp fun {a b} ⟨q, ne⟩ => ?_
    have q' : (!dataLt (E.pair.e b) (E.pair.e a)) = true := q
    have e2 : dataLt (E.pair.e b) (E.pair.e a) = E.lt b.1 a.1 := by
      show dataLt (.tuple [E.e b.1, .int b.2]) (.tuple [E.e a.1, .int a.2]) = _
      rw [dataLt_pair (E.al _ _) (nat_alike _ _), E.eqv, decide_eq_false fun z => ne z.symm, if_neg (by decide)]
      rfl
    rw [e2] at q'
    cases z : E.lt a.1 b.1 with
    | true => rfl
    | false =>
      refine absurd (E.tri z ?_) ne
      simpa using q'
  unfold canon
  rw [e1]
  unfold keys
  rw [List.map_map]
  refine (List.map_id _).symm.trans (List.map_congr_left fun p m => ?_)
  show p = (p.1, (get? kvs p.1).getD 0)
  rw [get?_of_mem h (show (p.1, p.2) ∈ kvs from hp.mem_iff.mp m)]
  rfl
/-- a rising list is its own canonical form -/
theorem canon_self {kvs : List (κ × Nat)} (h : Rising E (keys kvs)) : canon E kvs = kvs := by
  have nd := rising_nodup h
  unfold canon
  rw [lsort_of h fun x => Iff.rfl]
  unfold keys
  rw [List.map_map]
  refine (List.map_congr_left fun p m => ?_).trans (List.map_id _)
  show (p.1, (get? kvs p.1).getD 0) = p
  rw [get?_of_mem nd (show (p.1, p.2) ∈ kvs from m)]
  rfl
theorem canon_mem {kvs : List (κ × Nat)} (h : (keys kvs).Nodup) {t : κ × Nat} : t ∈ canon E kvs ↔ t ∈ kvs := (canon_perm E h).mem_iff
end

/-! ### sums -/
structure CMon (S : Type) where
  op : S → S → S
  un : S
  comm : ∀ a b, op a b = op b a
  assoc : ∀ a b c, op (op a b) c = op a (op b c)
  unit : ∀ a, op un a = a
section
variable {S κ : Type} (M : CMon S)
theorem CMon.unitr (a : S) : M.op a M.un = a := by rw [M.comm, M.unit]
def CMon.sum (xs : List S) : S := xs.foldr M.op M.un
theorem CMon.sum_nil : M.sum [] = M.un := rfl
theorem CMon.sum_cons (x : S) (xs : List S) : M.sum (x :: xs) = M.op x (M.sum xs) := rfl
theorem CMon.sum_append : ∀ xs ys : List S, M.sum (xs ++ ys) = M.op (M.sum xs) (M.sum ys)
  | [], ys => by rw [List.nil_append, M.sum_nil, M.unit]
  | x :: xs, ys => by rw [List.cons_append, M.sum_cons, M.sum_cons, CMon.sum_append xs ys, M.assoc]
theorem CMon.left_comm (a b c : S) : M.op a (M.op b c) = M.op b (M.op a c) := by rw [← M.assoc, M.comm a b, M.assoc]
theorem CMon.sum_perm {xs ys : List S} (h : xs.Perm ys) : M.sum xs = M.sum ys := by
  induction h with
  | nil => rfl
  | cons x _ ih => rw [M.sum_cons, M.sum_cons, ih]
  | swap x y l => rw [M.sum_cons, M.sum_cons, M.sum_cons, M.sum_cons, M.left_comm]
  | trans _ _ ih1 ih2 => exact ih1.trans ih2
theorem CMon.foldl_eq {α : Type} (f : α → S) : ∀ (xs : List α) (a : S), xs.foldl (fun acc x => M.op acc (f x)) a = M.op a (M.sum (xs.map f))
  | [], a => by rw [List.foldl_nil, List.map_nil, M.sum_nil, M.unitr]
  | x :: xs, a => by rw [List.foldl_cons, CMon.foldl_eq f xs, List.map_cons, M.sum_cons, M.assoc]
variable [DecidableEq κ] (h : κ → Nat → S) (hadd : ∀ k c d, 1 ≤ c → 1 ≤ d → h k (c + d) = M.op (h k c) (h k d))
def CMon.tot (kvs : List (κ × Nat)) : S := M.sum (kvs.map fun t => h t.1 t.2)
include hadd in
theorem CMon.tot_bump : ∀ (kvs : List (κ × Nat)) (k : κ) (n : Nat), (keys kvs).Nodup → PosN kvs → 1 ≤ n → M.tot h (bump kvs k n) = M.op (M.tot h kvs) (h k n)
  | [], k, n, _, _, _ => by
    show M.sum [h k (0 + n)] = M.op (M.sum []) (h k n)
    rw [M.sum_cons, M.sum_nil, M.unit, M.unitr, Nat.zero_add]
  | p :: r, k, n, nd, hp, hn => by
    have nd2 : p.1 ∉ keys r ∧ (keys r).Nodup := List.nodup_cons.mp nd
    have hp2 : PosN r := fun t m => hp t (List.mem_cons_of_mem _ m)
    by_cases e : p.1 = k
    · have hk : k ∉ keys r := e ▸ nd2.1
      have e2 : bump (p :: r) k n = (p.1, p.2 + n) :: r := by
        unfold bump put
        rw [get?_pos e, any_key, if_pos (by simp [keys, e])]
        simp only [List.map_cons, Option.getD_some]
        rw [if_pos e]
        congr 1
        refine (List.map_congr_left fun q m => ?_).trans (List.map_id r)
        have : ¬ q.1 = k := fun z => hk (by rw [← z]; exact List.mem_map.mpr ⟨q, m, rfl⟩)
        rw [if_neg this]
        rfl
      rw [e2]
      show M.op (h p.1 (p.2 + n)) (M.tot h r) = M.op (M.op (h p.1 p.2) (M.tot h r)) (h k n)
      rw [hadd _ _ _ (hp p List.mem_cons_self) hn, e, M.assoc, M.assoc, M.comm (M.tot h r) (h k n)]
    · have e2 : bump (p :: r) k n = p :: bump r k n := by
        unfold bump put
        rw [get?_neg e, any_key, any_key]
        have q : (k ∈ keys (p :: r)) ↔ k ∈ keys r := by
          show k ∈ p.1 :: keys r ↔ _
          rw [List.mem_cons]
          exact ⟨fun z => z.elim (fun z => absurd z.symm e) id, .inr⟩
        by_cases z : k ∈ keys r
        · rw [if_pos (by simpa using q.mpr z), if_pos (by simpa using z)]
          rw [List.map_cons, if_neg e]
        · rw [if_neg (by simpa using fun y => z (q.mp y)), if_neg (by simpa using z)]
          rfl
      rw [e2]
      show M.op (h p.1 p.2) (M.tot h (bump r k n)) = M.op (M.op (h p.1 p.2) (M.tot h r)) (h k n)
      rw [CMon.tot_bump r k n nd2.2 hp2 hn, M.assoc]
include hadd in
theorem CMon.tot_tally : ∀ (ts kvs : List (κ × Nat)), (keys kvs).Nodup → PosN kvs → PosN ts → M.tot h (tally kvs ts) = M.op (M.tot h kvs) (M.tot h ts)
  | [], kvs, _, _, _ => (M.unitr _).symm
  | t :: ts, kvs, nd, hp, ht => by
    have h1 : 1 ≤ t.2 := ht t List.mem_cons_self
    have h2 : PosN ts := fun u m => ht u (List.mem_cons_of_mem _ m)
    have h3 : PosN (bump kvs t.1 t.2) := tally_pos [t] kvs hp fun u m => by
      have : u = t := by simpa using m
      rw [this]; exact h1
    rw [tally_cons, CMon.tot_tally ts (bump kvs t.1 t.2) (nodup_put nd _ _) h3 h2, M.tot_bump h hadd kvs t.1 t.2 nd hp h1, M.assoc]
    rfl
theorem CMon.tot_perm {kvs ts : List (κ × Nat)} (p : kvs.Perm ts) : M.tot h kvs = M.tot h ts := M.sum_perm (p.map _)
include hadd in
/-- the total of a canonical form is that of what was tallied -/
theorem CMon.tot_canon (E : Enc κ) {ts : List (κ × Nat)} (ht : PosN ts) : M.tot h (canon E (tally [] ts)) = M.tot h ts := by
  have nd : (keys (tally [] ts)).Nodup := tally_nodup ts [] List.nodup_nil
  rw [M.tot_perm h (canon_perm E nd), M.tot_tally h hadd ts [] List.nodup_nil (fun t m => absurd m (by simp)) ht]
  exact M.unit _
theorem CMon.tot_append (ts us : List (κ × Nat)) : M.tot h (ts ++ us) = M.op (M.tot h ts) (M.tot h us) := by
  unfold CMon.tot
  rw [List.map_append, M.sum_append]
end
end K8
/-! K8Hom: polynomials, their sums and products, the five measures, and that valuing is a homomorphism. No program in sight. -/
namespace K8
open PySem PySem.W PyProof.Rows

def mprod (a b : Mono) : Mono := canon encStr (tally [] (a ++ b))
def pplus (p q : Poly) : Poly := canon encMono (tally [] (p ++ q))
def tline (t : Mono × Nat) (q : Poly) : Poly := q.map fun u => (mprod t.1 u.1, t.2 * u.2)
def pterms (p q : Poly) : Poly := p.flatMap fun t => tline t q
def ptimes (p q : Poly) : Poly := canon encMono (tally [] (pterms p q))

structure Alg (S : Type) where
  A : CMon S
  M : CMon S
  act : Nat → S → S
  pow : S → Nat → S
  zmul : ∀ a, M.op A.un a = A.un
  dist : ∀ a b c, M.op a (A.op b c) = A.op (M.op a b) (M.op a c)
  act_one : ∀ x, act 1 x = x
  act_add : ∀ x c d, 1 ≤ c → 1 ≤ d → act (c + d) x = A.op (act c x) (act d x)
  act_mul : ∀ c d x y, 1 ≤ c → 1 ≤ d → act (c * d) (M.op x y) = M.op (act c x) (act d y)
  pow_add : ∀ x e f, 1 ≤ e → 1 ≤ f → pow x (e + f) = M.op (pow x e) (pow x f)
  pow_one : ∀ x, pow x 1 = x

/-- a well-made polynomial: rising monomials, each rising by tokens, all numbers from 1 on -/
structure MonoOk (m : Mono) : Prop where
  up : Rising encStr (keys m)
  pos : PosN m
structure PolyOk (p : Poly) : Prop where
  up : Rising encMono (keys p)
  pos : PosN p
  monos : ∀ t ∈ p, MonoOk t.1

section
variable {S : Type} (G : Alg S) (v : Str → S)
def mval (m : Mono) : S := G.M.tot (fun t e => G.pow (v t) e) m
def pval (p : Poly) : S := G.A.tot (fun m c => G.act c (mval G v m)) p
theorem mval_mprod {a b : Mono} (ha : PosN a) (hb : PosN b) : mval G v (mprod a b) = G.M.op (mval G v a) (mval G v b) := by
  have hp : PosN (a ++ b) := fun t m => (List.mem_append.mp m).elim (ha t) (hb t)
  unfold mval mprod
  rw [G.M.tot_canon _ (fun k c d hc hd => G.pow_add (v k) c d hc hd) encStr hp, G.M.tot_append]
theorem pval_pplus {p q : Poly} (hp : PosN p) (hq : PosN q) : pval G v (pplus p q) = G.A.op (pval G v p) (pval G v q) := by
  have h : PosN (p ++ q) := fun t m => (List.mem_append.mp m).elim (hp t) (hq t)
  unfold pval pplus
  rw [G.A.tot_canon _ (fun k c d hc hd => G.act_add (mval G v k) c d hc hd) encMono h, G.A.tot_append]
theorem tot_tline (t : Mono × Nat) (ht : 1 ≤ t.2) (hm : PosN t.1) : ∀ q : Poly, PosN q → (∀ u ∈ q, PosN u.1) →
    G.A.tot (fun m c => G.act c (mval G v m)) (tline t q) = G.M.op (G.act t.2 (mval G v t.1)) (pval G v q)
  | [], _, _ => by
    show G.A.un = G.M.op _ G.A.un
    rw [G.M.comm, G.zmul]
  | u :: q, hq, hu => by
    have ih := tot_tline t ht hm q (fun x m => hq x (List.mem_cons_of_mem _ m)) fun x m => hu x (List.mem_cons_of_mem _ m)
    show G.A.op (G.act (t.2 * u.2) (mval G v (mprod t.1 u.1))) (G.A.tot (fun m c => G.act c (mval G v m)) (tline t q)) = G.M.op (G.act t.2 (mval G v t.1)) (G.A.op (G.act u.2 (mval G v u.1)) (pval G v q))
    rw [ih, G.dist, mval_mprod G v hm (hu u List.mem_cons_self), G.act_mul _ _ _ _ ht (hq u List.mem_cons_self)]
theorem tot_pterms : ∀ p q : Poly, PosN p → (∀ u ∈ p, PosN u.1) → PosN q → (∀ u ∈ q, PosN u.1) →
    G.A.tot (fun m c => G.act c (mval G v m)) (pterms p q) = G.M.op (pval G v p) (pval G v q)
  | [], q, _, _, _, _ => by
    show G.A.un = G.M.op G.A.un _
    rw [G.zmul]
  | t :: p, q, hp, hm, hq, hu => by
    have ih := tot_pterms p q (fun x m => hp x (List.mem_cons_of_mem _ m)) (fun x m => hm x (List.mem_cons_of_mem _ m)) hq hu
    have e : pterms (t :: p) q = tline t q ++ pterms p q := rfl
    rw [e, G.A.tot_append, ih, tot_tline G v t (hp t List.mem_cons_self) (hm t List.mem_cons_self) q hq hu]
    show _ = G.M.op (G.A.op (G.act t.2 (mval G v t.1)) (pval G v p)) (pval G v q)
    rw [G.M.comm (G.A.op _ _), G.dist, G.M.comm _ (pval G v p), G.M.comm (pval G v q)]
theorem pos_pterms {p q : Poly} (hp : PosN p) (hq : PosN q) : PosN (pterms p q) := fun t m => by
  obtain ⟨a, ha, hb⟩ := List.mem_flatMap.mp m
  obtain ⟨b, hb, e⟩ := List.mem_map.mp hb
  rw [← e]
  exact Nat.mul_pos (hp a ha) (hq b hb)
theorem pval_ptimes {p q : Poly} (hp : PosN p) (hm : ∀ u ∈ p, PosN u.1) (hq : PosN q) (hu : ∀ u ∈ q, PosN u.1) : pval G v (ptimes p q) = G.M.op (pval G v p) (pval G v q) := by
  rw [← tot_pterms G v p q hp hm hq hu]
  unfold pval ptimes
  rw [G.A.tot_canon _ (fun k c d hc hd => G.act_add (mval G v k) c d hc hd) encMono (pos_pterms hp hq)]
end

/-! ### what is well made stays so -/
theorem mprod_ok {a b : Mono} (ha : PosN a) (hb : PosN b) : MonoOk (mprod a b) := by
  have nd : (keys (tally [] (a ++ b))).Nodup := tally_nodup _ [] List.nodup_nil
  refine ⟨canon_rising _ _, fun t m => ?_⟩
  exact tally_pos (a ++ b) [] (fun _ m => absurd m (by simp)) (fun t m => (List.mem_append.mp m).elim (ha t) (hb t)) t ((canon_mem encStr nd).mp m)
theorem mem_canon_tally {ts : Poly} {t : Mono × Nat} (m : t ∈ canon encMono (tally [] ts)) : t.1 ∈ keys ts := by
  have nd : (keys (tally [] ts)).Nodup := tally_nodup _ [] List.nodup_nil
  have h : t.1 ∈ keys (tally [] ts) := List.mem_map.mpr ⟨t, (canon_mem encMono nd).mp m, rfl⟩
  rcases (tally_keys ts [] t.1).mp h with q | q
  · exact absurd q (by simp [keys])
  · exact q
theorem canon_poly_ok {ts : Poly} (hp : PosN ts) (hm : ∀ t ∈ ts, MonoOk t.1) : PolyOk (canon encMono (tally [] ts)) := by
  have nd : (keys (tally [] ts)).Nodup := tally_nodup _ [] List.nodup_nil
  refine ⟨canon_rising _ _, fun t m => ?_, fun t m => ?_⟩
  · exact tally_pos ts [] (fun _ m => absurd m (by simp)) hp t ((canon_mem encMono nd).mp m)
  · obtain ⟨u, hu, e⟩ := List.mem_map.mp (mem_canon_tally m)
    rw [← e]
    exact hm u hu
theorem pplus_ok {p q : Poly} (hp : PolyOk p) (hq : PolyOk q) : PolyOk (pplus p q) :=
  canon_poly_ok (fun t m => (List.mem_append.mp m).elim (hp.pos t) (hq.pos t)) fun t m => (List.mem_append.mp m).elim (hp.monos t) (hq.monos t)
theorem pterms_monos {p q : Poly} (hp : PolyOk p) (hq : PolyOk q) : ∀ t ∈ pterms p q, MonoOk t.1 := fun t m => by
  obtain ⟨a, ha, hb⟩ := List.mem_flatMap.mp m
  obtain ⟨b, hb, e⟩ := List.mem_map.mp hb
  rw [← e]
  exact mprod_ok (hp.monos a ha).pos (hq.monos b hb).pos
theorem ptimes_ok {p q : Poly} (hp : PolyOk p) (hq : PolyOk q) : PolyOk (ptimes p q) := canon_poly_ok (pos_pterms hp.pos hq.pos) (pterms_monos hp hq)
theorem PolyOk.mpos {p : Poly} (h : PolyOk p) : ∀ u ∈ p, PosN u.1 := fun u m => (h.monos u m).pos

/-! ### how great they are -/
def addN : CMon Nat := ⟨(· + ·), 0, Nat.add_comm, Nat.add_assoc, Nat.zero_add⟩
def csum {κ : Type} (p : List (κ × Nat)) : Nat := addN.tot (fun _ c => c) p
theorem csum_cons {κ : Type} (t : κ × Nat) (p : List (κ × Nat)) : csum (t :: p) = t.2 + csum p := rfl
theorem csum_nil {κ : Type} : csum ([] : List (κ × Nat)) = 0 := rfl
theorem csum_append {κ : Type} [DecidableEq κ] (p q : List (κ × Nat)) : csum (p ++ q) = csum p + csum q := addN.tot_append _ p q
theorem csum_canon {κ : Type} [DecidableEq κ] (E : Enc κ) {ts : List (κ × Nat)} (h : PosN ts) : csum (canon E (tally [] ts)) = csum ts := addN.tot_canon _ (fun _ _ _ _ _ => rfl) E h
theorem le_csum {κ : Type} {t : κ × Nat} : ∀ {p : List (κ × Nat)}, t ∈ p → t.2 ≤ csum p
  | [], h => absurd h (by simp)
  | u :: p, h => by
    rw [csum_cons]
    rcases List.mem_cons.mp h with e | h
    · rw [e]; omega
    · have := le_csum h; omega
theorem csum_tline (t : Mono × Nat) : ∀ q : Poly, csum (tline t q) = t.2 * csum q
  | [] => rfl
  | u :: q => by
    show t.2 * u.2 + csum (tline t q) = t.2 * (u.2 + csum q)
    rw [csum_tline t q, Nat.mul_add]
theorem csum_pterms : ∀ p q : Poly, csum (pterms p q) = csum p * csum q
  | [], q => by show 0 = 0 * csum q; rw [Nat.zero_mul]
  | t :: p, q => by
    show csum (tline t q ++ pterms p q) = (t.2 + csum p) * csum q
    rw [csum_append, csum_tline, csum_pterms p q, Nat.add_mul]
/-- at most n terms, coefficients together at most c, exponents of a term together at most d, tokens among T -/
structure Small (T : Str → Prop) (n c d : Nat) (p : Poly) : Prop where
  ok : PolyOk p
  len : p.length ≤ n
  sum : csum p ≤ c
  deg : ∀ t ∈ p, csum t.1 ≤ d
  tok : ∀ t ∈ p, ∀ k ∈ keys t.1, T k
theorem Small.mono {T : Str → Prop} {n c d n' c' d' : Nat} {p : Poly} (h : Small T n c d p) (hn : n ≤ n') (hc : c ≤ c') (hd : d ≤ d') : Small T n' c' d' p :=
  ⟨h.ok, Nat.le_trans h.len hn, Nat.le_trans h.sum hc, fun t m => Nat.le_trans (h.deg t m) hd, h.tok⟩
theorem canon_len {ts : Poly} : (canon encMono (tally [] ts)).length ≤ ts.length := by
  have h1 := canon_length encMono (tally [] ts)
  have h2 := tally_length ts []
  simp only [List.length_nil, Nat.zero_add] at h2
  omega
theorem small_plus {T : Str → Prop} {n c d n' c' d' : Nat} {p q : Poly} (hp : Small T n c d p) (hq : Small T n' c' d' q) : Small T (n + n') (c + c') (max d d') (pplus p q) := by
  have pos : PosN (p ++ q) := fun t m => (List.mem_append.mp m).elim (hp.ok.pos t) (hq.ok.pos t)
  have key : ∀ t ∈ pplus p q, ∃ u ∈ p ++ q, u.1 = t.1 := fun t m => List.mem_map.mp (mem_canon_tally m)
  refine ⟨pplus_ok hp.ok hq.ok, ?_, ?_, fun t m => ?_, fun t m k hk => ?_⟩
  · have h := canon_len (ts := p ++ q)
    have h1 := hp.len
    have h2 := hq.len
    rw [List.length_append] at h
    exact Nat.le_trans h (by omega)
  · have h := csum_canon encMono pos
    rw [csum_append] at h
    have h1 := hp.sum
    have h2 := hq.sum
    show csum (canon encMono (tally [] (p ++ q))) ≤ _
    omega
  · obtain ⟨u, hu, e⟩ := key t m
    rw [← e]
    rcases List.mem_append.mp hu with hu | hu
    · exact Nat.le_trans (hp.deg u hu) (Nat.le_max_left _ _)
    · exact Nat.le_trans (hq.deg u hu) (Nat.le_max_right _ _)
  · obtain ⟨u, hu, e⟩ := key t m
    rw [← e] at hk
    rcases List.mem_append.mp hu with hu | hu
    · exact hp.tok u hu k hk
    · exact hq.tok u hu k hk
theorem csum_mprod {a b : Mono} (ha : PosN a) (hb : PosN b) : csum (mprod a b) = csum a + csum b := by
  have hp : PosN (a ++ b) := fun t m => (List.mem_append.mp m).elim (ha t) (hb t)
  unfold mprod
  rw [csum_canon encStr hp, csum_append]
theorem keys_mprod {a b : Mono} {k : Str} : k ∈ keys (mprod a b) ↔ k ∈ keys a ∨ k ∈ keys b := by
  unfold mprod
  rw [canon_keys, lsort_mem, tally_keys]
  have : keys (a ++ b) = keys a ++ keys b := by unfold keys; rw [List.map_append]
  rw [this, List.mem_append]
  simp [keys]
theorem length_pterms : ∀ p q : Poly, (pterms p q).length = p.length * q.length
  | [], q => by simp [pterms]
  | t :: p, q => by
    show (tline t q ++ pterms p q).length = _
    rw [List.length_append, length_pterms p q, List.length_cons]
    unfold tline
    rw [List.length_map, Nat.add_mul]
    omega
theorem small_times {T : Str → Prop} {n c d n' c' d' : Nat} {p q : Poly} (hp : Small T n c d p) (hq : Small T n' c' d' q) : Small T (n * n') (c * c') (d + d') (ptimes p q) := by
  have key : ∀ t ∈ ptimes p q, ∃ a ∈ p, ∃ b ∈ q, t.1 = mprod a.1 b.1 := fun t m => by
    obtain ⟨u, hu, e⟩ := List.mem_map.mp (mem_canon_tally m)
    obtain ⟨a, ha, hb⟩ := List.mem_flatMap.mp hu
    obtain ⟨b, hb, e2⟩ := List.mem_map.mp hb
    exact ⟨a, ha, b, hb, by rw [← e, ← e2]⟩
  refine ⟨ptimes_ok hp.ok hq.ok, ?_, ?_, fun t m => ?_, fun t m k hk => ?_⟩
  · have h := canon_len (ts := pterms p q)
    rw [length_pterms] at h
    exact Nat.le_trans h (Nat.mul_le_mul hp.len hq.len)
  · have h := csum_canon encMono (pos_pterms hp.ok.pos hq.ok.pos)
    rw [csum_pterms] at h
    show csum (canon encMono (tally [] (pterms p q))) ≤ _
    rw [h]
    exact Nat.mul_le_mul hp.sum hq.sum
  · obtain ⟨a, ha, b, hb, e⟩ := key t m
    rw [e, csum_mprod (hp.ok.mpos a ha) (hq.ok.mpos b hb)]
    exact Nat.add_le_add (hp.deg a ha) (hq.deg b hb)
  · obtain ⟨a, ha, b, hb, e⟩ := key t m
    rw [e] at hk
    rcases keys_mprod.mp hk with q | q
    · exact hp.tok a ha k q
    · exact hq.tok b hb k q

/-! ### the five measures -/
def mulN : CMon Nat := ⟨(· * ·), 1, Nat.mul_comm, Nat.mul_assoc, Nat.one_mul⟩
def gCount : Alg Nat where
  A := addN
  M := mulN
  act := fun c x => c * x
  pow := fun x e => x ^ e
  zmul := Nat.zero_mul
  dist := Nat.mul_add
  act_one := Nat.one_mul
  act_add := fun x c d _ _ => Nat.add_mul c d x
  act_mul := fun c d x y _ _ => Nat.mul_mul_mul_comm c d x y
  pow_add := fun x e f _ _ => Nat.pow_add x e f
  pow_one := Nat.pow_one
def minO : Option Nat → Option Nat → Option Nat
  | none, b => b
  | a, none => a
  | some a, some b => some (min a b)
def addO : Option Nat → Option Nat → Option Nat
  | some a, some b => some (a + b)
  | _, _ => none
theorem minO_none (a : Option Nat) : minO a none = a := by cases a <;> rfl
theorem addO_none (a : Option Nat) : addO a none = none := by cases a <;> rfl
def gCost : Alg (Option Nat) where
  A := ⟨minO, none, fun a b => by cases a <;> cases b <;> simp [minO, Nat.min_comm], fun a b c => by cases a <;> cases b <;> cases c <;> simp [minO, Nat.min_assoc], fun a => rfl⟩
  M := ⟨addO, some 0, fun a b => by cases a <;> cases b <;> simp [addO, Nat.add_comm], fun a b c => by cases a <;> cases b <;> cases c <;> simp [addO, Nat.add_assoc], fun a => by cases a <;> simp [addO]⟩
  act := fun _ x => x
  pow := fun x e => x.map (· * e)
  zmul := fun a => by cases a <;> rfl
  dist := fun a b c => by
    cases a <;> cases b <;> cases c <;> simp [addO, minO]
  act_one := fun _ => rfl
  act_add := fun x _ _ _ _ => by cases x <;> simp [minO]
  act_mul := fun _ _ _ _ _ _ => rfl
  pow_add := fun x e f _ _ => by cases x <;> simp [addO, Nat.mul_add]
  pow_one := fun x => by cases x <;> simp
abbrev Pct := { n : Nat // n ≤ 100 }
def gTrust : Alg Pct where
  A := ⟨fun a b => ⟨max a.1 b.1, Nat.max_le.mpr ⟨a.2, b.2⟩⟩, ⟨0, Nat.zero_le _⟩, fun a b => Subtype.ext (Nat.max_comm _ _), fun a b c => Subtype.ext (Nat.max_assoc _ _ _), fun a => Subtype.ext (Nat.zero_max _)⟩
  M := ⟨fun a b => ⟨min a.1 b.1, Nat.le_trans (Nat.min_le_left _ _) a.2⟩, ⟨100, Nat.le_refl _⟩, fun a b => Subtype.ext (Nat.min_comm _ _), fun a b c => Subtype.ext (Nat.min_assoc _ _ _), fun a => Subtype.ext (Nat.min_eq_right a.2)⟩
  act := fun _ x => x
  pow := fun x _ => x
  zmul := fun a => Subtype.ext (Nat.zero_min _)
  dist := fun a b c => Subtype.ext (by show min a.1 (max b.1 c.1) = max (min a.1 b.1) (min a.1 c.1); omega)
  act_one := fun _ => rfl
  act_add := fun x _ _ _ _ => Subtype.ext (Nat.max_self _).symm
  act_mul := fun _ _ _ _ _ _ => rfl
  pow_add := fun x _ _ _ _ => Subtype.ext (Nat.min_self _).symm
  pow_one := fun _ => rfl
def gThere : Alg Bool where
  A := ⟨(· || ·), false, Bool.or_comm, Bool.or_assoc, Bool.false_or⟩
  M := ⟨(· && ·), true, Bool.and_comm, Bool.and_assoc, Bool.true_and⟩
  act := fun _ x => x
  pow := fun x _ => x
  zmul := Bool.false_and
  dist := fun a b c => by cases a <;> cases b <;> cases c <;> rfl
  act_one := fun _ => rfl
  act_add := fun x _ _ _ _ => by cases x <;> rfl
  act_mul := fun _ _ _ _ _ _ => rfl
  pow_add := fun x _ _ _ _ => by cases x <;> rfl
  pow_one := fun _ => rfl
def gSeen : Alg (Str → Bool) where
  A := ⟨fun f g x => f x || g x, fun _ => false, fun a b => funext fun _ => Bool.or_comm _ _, fun a b c => funext fun _ => Bool.or_assoc _ _ _, fun a => funext fun _ => Bool.false_or _⟩
  M := ⟨fun f g x => f x && g x, fun _ => true, fun a b => funext fun _ => Bool.and_comm _ _, fun a b c => funext fun _ => Bool.and_assoc _ _ _, fun a => funext fun _ => Bool.true_and _⟩
  act := fun _ x => x
  pow := fun x _ => x
  zmul := fun a => funext fun x => Bool.false_and (a x)
  dist := fun a b c => funext fun x => by
    show (a x && (b x || c x)) = ((a x && b x) || (a x && c x))
    cases a x <;> cases b x <;> cases c x <;> rfl
  act_one := fun _ => rfl
  act_add := fun f _ _ _ _ => funext fun x => (Bool.or_self _).symm
  act_mul := fun _ _ _ _ _ _ => rfl
  pow_add := fun f _ _ _ _ => funext fun x => (Bool.and_self _).symm
  pow_one := fun _ => rfl

/-- a count's bound -/
theorem mval_le {v : Str → Nat} {B : Nat} (hB : 1 ≤ B) : ∀ {m : Mono}, (∀ k ∈ keys m, v k ≤ B) → mval gCount v m ≤ B ^ csum m
  | [], _ => by show 1 ≤ B ^ 0; rw [Nat.pow_zero]; exact Nat.le_refl _
  | t :: m, h => by
    have ih : mval gCount v m ≤ B ^ csum m := mval_le hB fun k hk => h k (List.mem_cons_of_mem _ hk)
    show v t.1 ^ t.2 * mval gCount v m ≤ B ^ (t.2 + csum m)
    rw [Nat.pow_add]
    exact Nat.mul_le_mul (Nat.pow_le_pow_left (h t.1 (by simp [keys])) _) ih
theorem pval_le {v : Str → Nat} {B D : Nat} (hB : 1 ≤ B) : ∀ {p : Poly}, (∀ t ∈ p, csum t.1 ≤ D ∧ ∀ k ∈ keys t.1, v k ≤ B) → pval gCount v p ≤ csum p * B ^ D
  | [], _ => by show 0 ≤ _; exact Nat.zero_le _
  | t :: p, h => by
    have ih : pval gCount v p ≤ csum p * B ^ D := pval_le hB fun u m => h u (List.mem_cons_of_mem _ m)
    obtain ⟨h1, h2⟩ := h t List.mem_cons_self
    have h3 : mval gCount v t.1 ≤ B ^ D := Nat.le_trans (mval_le hB h2) (Nat.pow_le_pow_right hB h1)
    show t.2 * mval gCount v t.1 + pval gCount v p ≤ (t.2 + csum p) * B ^ D
    rw [Nat.add_mul]
    exact Nat.add_le_add (Nat.mul_le_mul_left _ h3) ih
end K8
set_option Elab.async false
/-! K8Text: the text by places. -/
namespace K8
open PySem L2
def top (i : Nat) : Stmt := PySem.Challenge.pw_ledgertrace_k08_whole_valuing_is_a_homom.main.body.getD i (.Pass ⟨0, 0, 0, 0⟩)
abbrev FnP (K : PySem.W.Frag) (x : Str) (st : Stmt) (f : Addr) (fd : FuncData) : Prop := FunD K x x (defArgs st) (defBody st) (defScope st) [] [] f fd
abbrev s_d_frozen : Stmt := top 9
abbrev s_d_checked : Stmt := top 10
abbrev s_d_need_figures : Stmt := top 11
abbrev s_d_monomial_product : Stmt := top 12
abbrev s_d_plus : Stmt := top 13
abbrev s_d_times : Stmt := top 14
abbrev s_d_added : Stmt := top 15
abbrev s_d_multiplied : Stmt := top 16
abbrev s_d_tokens_of : Stmt := top 17
abbrev s_d_raised_within : Stmt := top 18
abbrev s_d_measured_zero : Stmt := top 23
abbrev s_d_measured_one : Stmt := top 24
abbrev s_d_measured_plus : Stmt := top 25
abbrev s_d_measured_times : Stmt := top 26
abbrev s_d_counted : Stmt := top 27
abbrev s_d_measured_power : Stmt := top 28
abbrev s_d_valued : Stmt := top 29
abbrev s_q_mixed : Stmt := top 31
abbrev s_q_pool : Stmt := top 32
abbrev s_q_take : Stmt := top 33
abbrev s_q_tokens : Stmt := top 34
abbrev s_q_sorted : Stmt := top 35
abbrev s_q_poly : Stmt := top 36
abbrev s_q_product : Stmt := top 37
abbrev s_q_plus : Stmt := top 38
abbrev s_q_times : Stmt := top 39
abbrev s_q_drawn_poly : Stmt := top 40
abbrev s_q_tokens_of : Stmt := top 41
abbrev s_q_listed : Stmt := top 42
abbrev s_q_lists : Stmt := top 43
abbrev s_q_persons : Stmt := top 44
abbrev s_q_some : Stmt := top 45
abbrev s_q_drawn_value : Stmt := top 46
abbrev s_q_zero : Stmt := top 47
abbrev s_q_one : Stmt := top 48
abbrev s_q_sum : Stmt := top 49
abbrev s_q_both : Stmt := top 50
abbrev s_q_valued : Stmt := top 51
abbrev s_q_given : Stmt := top 52
abbrev s_q_same : Stmt := top 53
abbrev s_q_met : Stmt := top 54
abbrev s_q_law : Stmt := top 55
end K8
/-! K8Rules: rules that the layer lacks: data compared and sorted, calls by keywords alone. -/
namespace K8
open PySem PySem.Spec PyProof.Rows L2

/-! ### data stay while what is tracked stays -/
theorem same_rd {H H' : Hp} {a : Addr} {u : HO} (e : Same H H') (h : Rd H a u) : Rd H' a u := by
  rcases h with h | ⟨o, h⟩
  · exact .inl (e _ _ h)
  · exact .inr ⟨o, e _ _ h⟩
theorem same_l {K : PySem.W.Frag} {H H' : Hp} {a : Addr} {xs : List V} (e : Same H H') (h : SqL K H a xs) : SqL K H' a xs := by
  rcases h with h | h
  · exact .inl (same_rd e h)
  · exact .inr h
theorem same_t {K : PySem.W.Frag} {H H' : Hp} {a : Addr} {xs : List V} (e : Same H H') (h : SqT K H a xs) : SqT K H' a xs := by
  rcases h with h | h
  · exact .inl (same_rd e h)
  · exact .inr h
theorem Same.new {H : Hp} {p : Addr} {o : HO} (h : H p = none) : Same H (upd H p o) := fun a u e => by
  rw [upd_ne (ne_of_none e h)]
  exact e
/-- an object that H does not know may change -/
theorem Same.mut {H H' : Hp} {p : Addr} {o : HO} (e : Same H H') (h : H p = none) : Same H (upd H' p o) := fun a u ha => by
  rw [upd_ne (ne_of_none ha h)]
  exact e a u ha
mutual
theorem dp_same {K : PySem.W.Frag} {H H' : Hp} (e : Same H H') : ∀ (d : PyData) (v : V), Dp K H v d → Dp K H' v d
  | .none, _, h => by cases h; exact .non
  | .bool b, _, h => by cases h; exact .bl b
  | .int i, _, h => by cases h; exact .int i
  | .str x, _, h => by cases h; exact .str x
  | .list ds, _, h => by
    cases h with
    | lst hs ha => exact .lst (same_l e hs) (dpAll_same e ds _ ha)
  | .tuple ds, _, h => by
    cases h with
    | tup hs ha => exact .tup (same_t e hs) (dpAll_same e ds _ ha)
  | .dict _, _, h => by cases h
theorem dpAll_same {K : PySem.W.Frag} {H H' : Hp} (e : Same H H') : ∀ (ds : List PyData) (vs : List V), DpAll K H vs ds → DpAll K H' vs ds
  | [], _, h => by cases h; exact .nil
  | d :: ds, _, h => by
    cases h with
    | cons h1 h2 => exact .cons (dp_same e d _ h1) (dpAll_same e ds _ h2)
end
/-- values that stand for the items of a kind -/
abbrev DpL (K : PySem.W.Frag) (H : Hp) {α : Type} (e : α → PyData) : List V → List α → Prop := Paired fun v x => Dp K H v (e x)
theorem DpL.same {K : PySem.W.Frag} {H H' : Hp} {α : Type} {e : α → PyData} {vs : List V} {xs : List α} (s : Same H H') (h : DpL K H e vs xs) : DpL K H' e vs xs := Paired.mapP h fun v x q => dp_same s _ v q
theorem DpL.all {K : PySem.W.Frag} {H : Hp} {α : Type} {e : α → PyData} : ∀ {vs : List V} {xs : List α}, DpL K H e vs xs → DpAll K H vs (xs.map e)
  | _, _, .nil => .nil
  | _, _, .cons h t => .cons h (DpL.all t)
theorem DpL.of_all {K : PySem.W.Frag} {H : Hp} {α : Type} {e : α → PyData} : ∀ {vs : List V} {xs : List α}, DpAll K H vs (xs.map e) → DpL K H e vs xs
  | vs, [], h => by
    have h' : DpAll K H vs [] := h
    cases h'
    exact .nil
  | vs, x :: xs, h => by
    have h' : DpAll K H vs (e x :: xs.map e) := h
    cases h' with
    | cons h1 h2 => exact .cons h1 (DpL.of_all h2)
theorem DpL.append {K : PySem.W.Frag} {H : Hp} {α : Type} {e : α → PyData} : ∀ {vs ws : List V} {xs ys : List α}, DpL K H e vs xs → DpL K H e ws ys → DpL K H e (vs ++ ws) (xs ++ ys)
  | _, _, _, _, .nil, s => s
  | _, _, _, _, .cons h t, s => .cons h (DpL.append t s)
theorem DpL.snoc {K : PySem.W.Frag} {H : Hp} {α : Type} {e : α → PyData} {vs : List V} {xs : List α} {v : V} {x : α} (h : DpL K H e vs xs) (q : Dp K H v (e x)) : DpL K H e (vs ++ [v]) (xs ++ [x]) := h.append (.cons q .nil)
theorem DpL.get {K : PySem.W.Frag} {H : Hp} {α : Type} {e : α → PyData} {vs : List V} {xs : List α} (h : DpL K H e vs xs) {i : Nat} {v : V} (hv : vs[i]? = some v) : ∃ x, xs[i]? = some x ∧ Dp K H v (e x) := paired_get h hv
theorem DpL.getr {K : PySem.W.Frag} {H : Hp} {α : Type} {e : α → PyData} : ∀ {vs : List V} {xs : List α}, DpL K H e vs xs → ∀ {i : Nat} {x : α}, xs[i]? = some x → ∃ v, vs[i]? = some v ∧ Dp K H v (e x)
  | _, _, .nil, _, _, hx => by simp at hx
  | _, _, .cons h t, 0, _, hx => by
    simp at hx
    subst hx
    exact ⟨_, rfl, h⟩
  | _, _, .cons h t, i + 1, _, hx => by
    obtain ⟨v, h1, h2⟩ := DpL.getr t (i := i) (by simpa using hx)
    exact ⟨v, by simpa using h1, h2⟩
theorem DpL.len {K : PySem.W.Frag} {H : Hp} {α : Type} {e : α → PyData} {vs : List V} {xs : List α} (h : DpL K H e vs xs) : vs.length = xs.length := Paired.length h
/-- a tuple of the items -/
theorem dp_tup {K : PySem.W.Frag} {H : Hp} {α : Type} {e : α → PyData} {a : Addr} {vs : List V} {xs : List α} (h : SqT K H a vs) (q : DpL K H e vs xs) : Dp K H (.ref a) (.tuple (xs.map e)) := .tup h q.all
theorem dp_tup_inv {K : PySem.W.Frag} {H : Hp} {α : Type} {e : α → PyData} {v : V} {xs : List α} (h : Dp K H v (.tuple (xs.map e))) : ∃ a vs, v = .ref a ∧ SqT K H a vs ∧ DpL K H e vs xs := by
  cases h with
  | tup hs ha => exact ⟨_, _, rfl, hs, DpL.of_all ha⟩
theorem dp_pair {K : PySem.W.Frag} {H : Hp} {a : Addr} {v w : V} {d e : PyData} (h : SqT K H a [v, w]) (h1 : Dp K H v d) (h2 : Dp K H w e) : Dp K H (.ref a) (.tuple [d, e]) := .tup h (.cons h1 (.cons h2 .nil))
theorem dp_pair_inv {K : PySem.W.Frag} {H : Hp} {v : V} {d e : PyData} (h : Dp K H v (.tuple [d, e])) : ∃ a x y, v = .ref a ∧ SqT K H a [x, y] ∧ Dp K H x d ∧ Dp K H y e := by
  cases h with
  | tup hs ha =>
    cases ha with
    | cons h1 h2 =>
      cases h2 with
      | cons h3 h4 =>
        cases h4
        exact ⟨_, _, _, rfl, hs, h1, h3⟩
theorem dp_int_inv {K : PySem.W.Frag} {H : Hp} {v : V} {i : Int} (h : Dp K H v (.int i)) : v = .int i := by cases h; rfl
theorem dp_str_inv {K : PySem.W.Frag} {H : Hp} {v : V} {x : Str} (h : Dp K H v (.str x)) : v = .str x := by cases h; rfl
theorem DpL.strs {K : PySem.W.Frag} {H : Hp} : ∀ {vs : List V} {xs : List Str}, DpL K H PyData.str vs xs → vs = xs.map V.str
  | _, _, .nil => rfl
  | _, _, .cons h t => by
    rw [dp_str_inv h, DpL.strs t]
    rfl
theorem DpL.of_strs {K : PySem.W.Frag} {H : Hp} : ∀ xs : List Str, DpL K H PyData.str (xs.map V.str) xs
  | [] => .nil
  | x :: xs => .cons (.str x) (DpL.of_strs xs)

/-! ### a < b of data -/
def rLtD (K : PySem.W.Frag) : R2 := fun x y H Q => ∃ d e, Dp K H x d ∧ Dp K H y e ∧ PySem.W.alike d e = true ∧ d ≠ .none ∧ d.depth ≤ 8 ∧ Q (.bl (PySem.W.dataLt d e)) H
section
variable {X : Cx}
theorem op_ltD (hu : X.A.units + 64 < cLine) : OpR X (compareOp .Lt) (rLtD X.K) := by
  intro pins s σ H x y v u Q I rx ry h
  obtain ⟨d, e, hd, he, ha, hn, hz, q⟩ := h
  obtain ⟨as, r1⟩ := Dp.reads I d x v hd rx
  obtain ⟨bs, r2⟩ := Dp.reads I e y u he ry
  exact PySem.W.rcLt_alike d e X.A s v u as bs r1 r2 ha hn (by omega) X.prog X.w X.xe _ ⟨.bl _, H, I, rfl, q⟩
/-- a != b of alike data -/
def rNeA (K : PySem.W.Frag) : R2 := fun x y H Q => ∃ d e, Dp K H x d ∧ Dp K H y e ∧ PySem.W.alike d e = true ∧ d.depth ≤ 8 ∧ Q (.bl (!PyData.eqv d e)) H
end

/-! ### sorted(xs) of data -/
theorem EachIs_of {α β γ : Type} {F : α → β → Prop} {G : α → γ → Prop} {R : β → γ → Prop} (hR : ∀ a b c, F a b → G a c → R b c) : ∀ {as : List α} {bs : List β} {cs : List γ}, Paired F as bs → Paired G as cs → PySem.W.EachIs R bs cs
  | _, _, _, .nil, .nil => .nil
  | _, _, _, .cons h t, .cons h' t' => .cons (hR _ _ _ h h') (EachIs_of hR t t')
theorem EachIs_split {β γ : Type} {α : Type} {F : α → β → Prop} {G : α → γ → Prop} : ∀ {bs : List β} {cs : List γ}, PySem.W.EachIs (fun b c => ∃ a, F a b ∧ G a c) bs cs → ∃ as, Paired F as bs ∧ Paired G as cs
  | _, _, .nil => ⟨[], .nil, .nil⟩
  | _, _, .cons ⟨a, h1, h2⟩ t => by
    obtain ⟨as, q1, q2⟩ := EachIs_split t
    exact ⟨a :: as, .cons h1 q1, .cons h2 q2⟩
theorem paired_mem {α β : Type} {F : α → β → Prop} : ∀ {as : List α} {bs : List β}, Paired F as bs → Paired (fun a b => F a b ∧ a ∈ as) as bs
  | _, _, .nil => .nil
  | _, _, .cons h t => .cons ⟨h, List.mem_cons_self⟩ (Paired.mapP (paired_mem t) fun _ _ q => ⟨q.1, List.mem_cons_of_mem _ q.2⟩)
theorem paired_left {α β : Type} {F : α → β → Prop} {P : α → Prop} (h : ∀ a b, F a b → P a) : ∀ {as : List α} {bs : List β}, Paired F as bs → ∀ a ∈ as, P a
  | _, _, .nil, _, m => by simp at m
  | _, _, .cons q t, a, m => by
    rcases List.mem_cons.mp m with e | m
    · rw [e]; exact h _ _ q
    · exact paired_left h t a m
def rSortedD (K : PySem.W.Frag) : List V → Hp → VK → Prop := fun vs H Q => ∃ (a : Addr) (α : Type) (E : Enc α) (us : List V) (xs : List α), vs = [.ref a] ∧ SqL K H a us ∧ DpL K H E.e us xs ∧ PySem.W.Sortable (xs.map E.e) ∧ (∀ x ∈ xs, (E.e x).depth ≤ 8) ∧
  ∀ p ws, H p = none → DpL K H E.e ws (xs.mergeSort (PySem.W.dataLe false E.e)) → (∀ w ∈ ws, w ∈ us) → Q (.ref p) (upd H p (.lst ws))
section
variable {X : Cx}
theorem cr_sortedD (hu : X.A.units + 64 < cLine) : CallR X (.builtin "sorted") (rSortedD X.K) := by
  intro pins s σ H vs us Q I r h
  obtain ⟨a, α, E, ws, xs, rfl, hs, hd, hk, hz, q⟩ := h
  obtain ⟨its, rv, hl, hsz⟩ := I.list hs
  obtain ⟨u, rfl, ru⟩ := vals1 r
  obtain rfl : u = Value.ref a := ru
  have e1 : PySem.W.EachIs (fun (u : Value) (x : α) => ∃ v, RelV v u ∧ (Dp X.K H v (E.e x) ∧ v ∈ ws)) its xs := EachIs_of (fun v u x h1 h2 => ⟨v, h1, h2⟩) rv (paired_mem hd)
  have e2 : PySem.W.EachIs (fun (u : Value) (x : α) => ∃ as, Reads s.heap u (E.e x) as) its xs := EachIs_of (fun v u x h1 h2 => Dp.reads I (E.e x) v u h2 h1) rv hd
  refine PySem.W.sorted_data hl.isList e1 e2 (PySem.W.AllAlike.of E.al) hk (by rw [← hd.len]; exact hsz) (fun b hb => by have := hz b hb; omega) fun out ho eo => ?_
  obtain ⟨zs, p1, p2⟩ := EachIs_split eo
  obtain ⟨ep, he'⟩ := PyProof.Rows.sortedAll_at s.heap its out.toArray
  have hlen : zs.length ≤ sizeLine := by
    rw [p1.length, ho, ← hd.len]
    exact hsz
  exact ⟨.ref _, upd H (s.heap.objs.size + 1) (.lst zs), I.laid (t' := s.toks) (fun _ _ => PyProof.Rows.sortedAll_old) (Nat.le_succ _) ⟨hlen, out, ep, p1, he'⟩, rfl, q _ zs (I.hok.fresh (Nat.le_succ _)) (Paired.mapP p2 fun _ _ z => z.1) (paired_left (fun _ _ z => z.2) p2)⟩
end

/-! ### defs that are called -/
structure Cal (P : Program) (w : World) (K : PySem.W.Frag) (mg : Str → Option Value) (base : Heap) (k : Nat) (x : Str) (ps : List Str) (sp : Sp) : Prop where
  ex : ∃ (f : Addr) (fd : FuncData), FnOk P w K mg base CX0 k f fd ps sp ∧ mg x = some (.ref f) ∧ PySem.W.keepIn K (.ref f) = true ∧ Binds K fd ps [] ∧ ∀ (s : Shared) (ws : List Value), ws.length = ps.length → BindsTo s fd ⟨[], ps.zip ws⟩ (ps.zip ws)
def tU (sp : Sp) (t : TA) : TE := fun σ H Q => t σ H fun vs H1 => sp vs H1 Q E0
section
variable {X : Cx} {j k : Nat} {x : Str} {ps : List Str} {sp : Sp} {e : Expr} {es : List Expr} {kws : List Keyword} {p pos : Pos} {t tk : TA}
theorem pe_u (c : Cal X.prog X.w X.K X.mg X.base k x ps sp) (hr : Room j X.A) (hk : k ≤ j) (hg : Gl X x) (ha : PA X (e :: es) t) (hdb : (x == ("__debug__" : Str)) = false := by decide)
    (he : starEach (e :: es) X.env = (false, eval e X.env) :: starEach es X.env := by rfl) (hpl : (backTo pos (starEach es X.env)).any (·.1) = false := by rfl) : PE X (.Call (.Name x p) (e :: es) [] pos) (tU sp t) := by
  obtain ⟨f, fd, F, hm, kp, b, _⟩ := c.ex
  have h := pe_call (pos := pos) (p := p) F (hr.mono hk) hg hm kp b .nil (pass0 (X := X)) ha hdb he hpl
  have e2 : tCall sp [] E0 t = tU sp t := by
    funext σ H Q
    unfold tCall tU
    congr 1
    funext vs H1
    rw [List.append_nil]
  rw [← e2]
  exact h
/-- f(k = v, ..), all parameters in their order -/
theorem pe_uk (c : Cal X.prog X.w X.K X.mg X.base k x ps sp) (hr : Room j X.A) (hk : k ≤ j) (hg : Gl X x) (hkw : PK X kws tk) (hks : (backToKw pos (keywordEach kws X.env)).filterMap (·.1) = ps)
    (hall : (backToKw pos (keywordEach kws X.env)).all (·.1.isSome) = true := by rfl) (hdb : (x == ("__debug__" : Str)) = false := by decide)
    (hpl : ((backTo pos (starEach [] X.env)).any (·.1) || (backToKw pos (keywordEach kws X.env)).any (·.1.isNone)) = false := by rfl) : PE X (.Call (.Name x p) [] kws pos) (tU sp tk) := by
  obtain ⟨f, fd, F, hm, kp, _, b⟩ := c.ex
  refine ⟨fun pins s σ H Q I h => ?_⟩
  refine wpAny_Call_Name_kw (ld_glob I hg hm ?_ hdb)
  refine PySem.W.callWith_KW0 (h₀ := X.base) I.ok.mod.kin kp hall ?_ hpl
  refine thn (hkw.run pos pins s σ H _ I h) fun ws s2 ⟨zs, H2, I2, rz, q2⟩ => ⟨I2.kIn, ?_⟩
  rw [hks]
  have hl : ws.length = ps.length := by rw [← rz.length]; exact F.len _ _ _ _ q2
  refine wpAny_call (codeAny_mono (F.run X.A X.stack s2 H2 ⟨[], ps.zip ws⟩ ws zs Q E0 (hr.mono hk) I2.env0 (b s2 ws hl) rz q2) fun r s' hq => ?_)
  cases r with
  | error e => exact (pass0 (X := X)) pins σ H2 s2 e s' I2 hq
  | ok fl =>
    cases fl with
    | ret u => exact I2.after hq
    | next => exact False.elim hq
    | brk => exact False.elim hq
    | cont => exact False.elim hq
/-- how a def of the text comes to be called -/
theorem cal_mk {P : Program} {w : World} {K : PySem.W.Frag} {mg : Str → Option Value} {base : Heap} {k : Nat} {x qual : Str} {params : Arguments} {body : List Stmt} {scope : Scope} {f : Addr} {fd : FuncData} {ps : List Str} {sp : Sp}
    (F : FunD K x qual params body scope [] [] f fd) (G : FnOk P w K mg base CX0 k f fd ps sp) (hm : mg x = some (.ref f))
    (h1 : ∀ (kV doc pm : Value) (an : Option Addr) (cdv ct : Value) (us : List Value), us.length = ps.length → bindArgs (PySem.W.fnOf x qual params body scope .none kV doc pm an cdv ct) ⟨us, []⟩ = pure (ps.zip us))
    (h2 : ∀ (kV doc pm : Value) (an : Option Addr) (cdv ct : Value) (us : List Value), us.length = ps.length → bindArgs (PySem.W.fnOf x qual params body scope .none kV doc pm an cdv ct) ⟨[], ps.zip us⟩ = pure (ps.zip us)) : Cal P w K mg base k x ps sp := by
  refine ⟨f, fd, G, hm, F.kp, F.bindsN h1, fun s ws hl => ?_⟩
  obtain ⟨oc, od, dV, kV, doc, pm, an, cdv, ct, osl, rfl, lk, hcd, hD, hK⟩ := F.ex
  rcases hD with ⟨_, rfl⟩ | ⟨e, _⟩
  · exact .of_eq (h2 kV doc pm an cdv ct ws hl)
  · exact absurd rfl e
end
end K8
/-! K8Dict: dicts whose keys are monomials (tuples of pairs) and whose values are numbers, as tracked objects of the layer. -/
namespace K8
open PySem PySem.Spec PyProof.Rows L2

/-! ### keys -/
def nkP (p : Str × Nat) : NestedKey := .tup [.text p.1, .num p.2]
def nk (m : Mono) : NestedKey := .tup (m.map nkP)
theorem nkP_inj {p q : Str × Nat} (h : nkP p = nkP q) : p = q := by
  unfold nkP at h
  injection h with h
  injection h with h1 h2
  injection h1 with h1
  injection h2 with h2 _
  injection h2 with h2
  exact Prod.ext h1 (by omega)
theorem nkPs_inj : ∀ {a b : Mono}, a.map nkP = b.map nkP → a = b
  | [], [], _ => rfl
  | [], _ :: _, h => by simp at h
  | _ :: _, [], h => by simp at h
  | x :: xs, y :: ys, h => by
    rw [List.map_cons, List.map_cons] at h
    injection h with h1 h2
    rw [nkP_inj h1, nkPs_inj h2]
theorem nk_inj {a b : Mono} (h : nk a = nk b) : a = b := by
  unfold nk at h
  injection h with h
  exact nkPs_inj h
theorem nkP_depth (p : Str × Nat) : (nkP p).depth = 1 := rfl
theorem nkPs_depth : ∀ m : Mono, NestedKey.depthAll (m.map nkP) ≤ 1
  | [] => Nat.zero_le _
  | p :: m => by
    show max (nkP p).depth (NestedKey.depthAll (m.map nkP)) ≤ 1
    have := nkPs_depth m
    rw [nkP_depth]
    omega
theorem nk_depth (m : Mono) : (nk m).depth ≤ 8 := by
  show NestedKey.depthAll (m.map nkP) + 1 ≤ 8
  have := nkPs_depth m
  omega
theorem nested_pair {h : Heap} {p : Str × Nat} {u : Value} {as : List Addr} (r : Reads h u (ePair p) as) : NestedIs h (nkP p) u := by
  unfold ePair at r
  cases r with
  | @tuple a o vs n _ _ ho hc hd ha =>
    refine NestedIs.tup ho hc hd ?_
    generalize vs.toList = l at ha ⊢
    cases ha with
    | cons h1 h2 =>
      cases h1
      cases h2 with
      | cons h3 h4 =>
        cases h3
        cases h4
        exact .cons (.text _ _) (.cons (.int _ _) .nil)
theorem nested_all {h : Heap} : ∀ {m : Mono} {us : List Value} {as : List Addr}, ReadsAll h us (m.map ePair) as → NestedAll h (m.map nkP) us
  | [], us, as, r => by
    have r' : ReadsAll h us [] as := r
    cases r'
    exact .nil
  | p :: m, us, as, r => by
    have r' : ReadsAll h us (ePair p :: m.map ePair) as := r
    cases r' with
    | cons h1 h2 => exact .cons (nested_pair h1) (nested_all h2)
theorem nested_mono {h : Heap} {m : Mono} {u : Value} {as : List Addr} (r : Reads h u (eMono m) as) : NestedIs h (nk m) u := by
  unfold eMono at r
  cases r with
  | tuple ho hc hd ha => exact NestedIs.tup ho hc hd (nested_all ha)
theorem key_is {X : Cx} {pins : List (Addr × Obj)} {σ : L2.St} {H : Hp} {s : Shared} {a : Addr} {m : Mono} (I : L2.Inv X pins σ H s) (h : Dp X.K H (.ref a) (eMono m)) : (nestedKind X.prog X.w).is s.heap (nk m) a := by
  obtain ⟨as, r⟩ := Dp.reads I (eMono m) (.ref a) (.ref a) h rfl
  exact ⟨nested_mono r, nk_depth m⟩

/-! ### the object -/
/-- the entries xs are those of kvs, their keys' own tuples at as -/
def Ent (as : List Addr) (kvs : List (Mono × Nat)) (xs : List (NestedKey × Addr × Value)) : Prop :=
  xs.map (·.2.1) = as ∧ Paired (fun (p : Mono × Nat) (q : NestedKey × Addr × Value) => q.1 = nk p.1 ∧ ∃ t, q.2.2 = Value.int p.2 t) kvs xs
def MO (P : Program) (w : World) (d : Addr) (as : List Addr) (kvs : List (Mono × Nat)) : HO := .ext fun h => ∃ xs, Ent as kvs xs ∧ kvs.length ≤ sizeLine ∧ (d == sysModules) = false ∧
  ∃ o es ep, h.get? d = some o ∧ o.ExactDict ∧ o.data = .dict es ep ∧ es.toList = xs.map (entryOfKey (nestedKind P w)) ∧ (xs.map (·.1)).Nodup
theorem mo_ok {P : Program} {w : World} {H : Hp} {h : Heap} {d : Addr} {as : List Addr} {kvs : List (Mono × Nat)} {xs : List (NestedKey × Addr × Value)} (e : Ent as kvs xs) (hz : kvs.length ≤ sizeLine) (hd : (d == sysModules) = false)
    (ho : ∃ o es ep, h.get? d = some o ∧ o.ExactDict ∧ o.data = .dict es ep ∧ es.toList = xs.map (entryOfKey (nestedKind P w)) ∧ (xs.map (·.1)).Nodup) : ObjOk P w H h d (MO P w d as kvs) := by
  refine ⟨⟨xs, e, hz, hd, ho⟩, ?_, fun h1 h2 ⟨ys, e1, z1, d1, o, es, ep, ho, r⟩ k => ⟨ys, e1, z1, d1, o, es, ep, k o ho, r⟩⟩
  obtain ⟨o, _, _, ho, _⟩ := ho
  exact ⟨o, ho⟩
/-- the dict stands at d, its keys' tuples with it -/
structure MTab (P : Program) (w : World) (K : PySem.W.Frag) (H : Hp) (d : Addr) (as : List Addr) (kvs : List (Mono × Nat)) : Prop where
  ob : Rd H d (MO P w d as kvs)
  ks : DpL K H eMono (as.map V.ref) (keys kvs)
theorem ent_keys {as : List Addr} {kvs : List (Mono × Nat)} {xs : List (NestedKey × Addr × Value)} (e : Ent as kvs xs) : xs.map (·.1) = (keys kvs).map nk := by
  have r := e.2
  clear e
  induction r with
  | nil => rfl
  | @cons p q ps qs h t ih =>
    show q.1 :: qs.map (·.1) = nk p.1 :: (keys ps).map nk
    rw [ih, h.1]
theorem ent_at {as : List Addr} {kvs : List (Mono × Nat)} {xs : List (NestedKey × Addr × Value)} (e : Ent as kvs xs) (m : Mono) :
    (get? kvs m = none → atKey xs (nk m) = none) ∧ ∀ n, get? kvs m = some n → ∃ a t, atKey xs (nk m) = some (a, Value.int n t) := by
  have r := e.2
  clear e
  induction r with
  | nil => exact ⟨fun _ => rfl, fun n h => by simp [get?] at h⟩
  | @cons p q ps qs h t ih =>
    obtain ⟨h1, tk, h2⟩ := h
    by_cases c : p.1 = m
    · have c' : q.1 = nk m := by rw [h1, c]
      refine ⟨fun z => (by rw [get?_pos c] at z; cases z), fun n z => ?_⟩
      rw [get?_pos c] at z
      have z' : p.2 = n := Option.some.inj z
      refine ⟨q.2.1, tk, ?_⟩
      rw [← z', ← h2]
      simp [atKey, List.find?_cons, c']
    · have c' : ¬ q.1 = nk m := fun z => c (nk_inj (h1.symm.trans z))
      have b : atKey (q :: qs) (nk m) = atKey qs (nk m) := by simp [atKey, List.find?_cons, c']
      rw [get?_neg c, b]
      exact ih
section
variable {X : Cx} {pins : List (Addr × Obj)} {σ : L2.St} {H : Hp} {s : Shared} {d : Addr} {as : List Addr} {kvs : List (Mono × Nat)}
theorem ent_dict (I : L2.Inv X pins σ H s) (T : MTab X.prog X.w X.K H d as kvs) : ∃ xs, Ent as kvs xs ∧ kvs.length ≤ sizeLine ∧ (d == sysModules) = false ∧ s.heap.DictOfH (nestedKind X.prog X.w) d xs := by
  obtain ⟨⟨xs, e, hz, hd, o, es, ep, ho, hx, hdt, he, hn⟩, _, _⟩ : ObjOk X.prog X.w H s.heap d (MO X.prog X.w d as kvs) := T.ob.ok I.hok
  refine ⟨xs, e, hz, hd, o, es, ep, ho, hx, hdt, he, fun x hx2 => ?_, hn⟩
  obtain ⟨i, hi, ex⟩ := List.mem_iff_getElem.mp hx2
  obtain ⟨ea, r⟩ := e
  have hl : kvs.length = xs.length := Paired.length r
  obtain ⟨q, hq, h1, _⟩ := paired_get r (List.getElem?_eq_getElem (show i < kvs.length by omega))
  have hq' : xs[i] = q := by rw [List.getElem?_eq_getElem hi] at hq; exact Option.some.inj hq
  have ha : as[i]? = some x.2.1 := by
    rw [← ea, List.getElem?_map, List.getElem?_eq_getElem hi, ex]
    rfl
  have hv : (as.map V.ref)[i]? = some (V.ref x.2.1) := by
    rw [List.getElem?_map, ha]
    rfl
  obtain ⟨m, hm, dm⟩ := T.ks.get hv
  have em : m = (kvs[i]'(by omega)).1 := by
    have e2 : (keys kvs)[i]? = some (kvs[i]'(by omega)).1 := by
      unfold keys
      rw [List.getElem?_map, List.getElem?_eq_getElem (show i < kvs.length by omega)]
      rfl
    rw [hm] at e2
    exact Option.some.inj e2
  have k := key_is I dm
  have ek : x.1 = nk m := by rw [← ex, hq', h1, em]
  rw [ek]
  exact k
theorem room_n {A : Around} (hu : A.units + 64 < cLine) : (nestedKind X.prog X.w).room A.in1 := by
  show A.units + 1 + 8 < cLine
  omega
/-- d[m] -/
theorem m_get {a : Addr} {m : Mono} {n : Nat} {A : Around} {E : Value → Shared → Prop} {Q : Value → Shared → Prop} (hu : A.units + 64 < cLine) (I : L2.Inv X pins σ H s) (T : MTab X.prog X.w X.K H d as kvs) (hk : Dp X.K H (.ref a) (eMono m)) (hg : get? kvs m = some n)
    (h : ∀ t s', L2.Inv X pins σ H s' → Q (.int n t) s') : wpAny (model X.prog X.w) A (getItem (.ref d) (.ref a)) Q E s := by
  obtain ⟨xs, e, hz, hd, dd⟩ := ent_dict I T
  obtain ⟨b, t, hb⟩ := (ent_at e m).2 n hg
  exact wpAny_getItem_heap (room_n (X := X) hu) (key_is I hk) dd hb (h t _ (I.tok _))
/-- d.get(m, x) -/
theorem m_get2 {a : Addr} {m : Mono} {x : Int} {t : Tok} {A : Around} {E : Value → Shared → Prop} {Q : Value → Shared → Prop} (hu : A.units + 64 < cLine) (I : L2.Inv X pins σ H s) (T : MTab X.prog X.w X.K H d as kvs) (hk : Dp X.K H (.ref a) (eMono m))
    (h : ∀ t' s', L2.Inv X pins σ H s' → Q (.int (match get? kvs m with | some n => (n : Int) | none => x) t') s') : wpAny (model X.prog X.w) A (call (.builtin "dict.get") [.ref d, .ref a, .int x t]) Q E s := by
  obtain ⟨xs, e, hz, hd, dd⟩ := ent_dict I T
  refine call_meetsIn PySem.F.slot_dict_get dd.typeIs PySem.F.entry_dict_get (PySem.F.args_dict_get_3 _ _ _) (meetsH_dict_get_default (nestedKind X.prog X.w) d a hd (.int x t)) ⟨room_n (X := X) hu, nk m, xs, key_is I hk, dd, ?_⟩
  cases q : get? kvs m with
  | none =>
    rw [(ent_at e m).1 q]
    have := h t _ (I.tok (s.toks + (nestedKind X.prog X.w).draws (nk m)))
    rw [q] at this
    exact this
  | some n =>
    obtain ⟨b, t', hb⟩ := (ent_at e m).2 n q
    rw [hb]
    have := h t' _ (I.tok (s.toks + (nestedKind X.prog X.w).draws (nk m)))
    rw [q] at this
    exact this
end
/-- where a key's tuple stands behind a store -/
def putA (as : List Addr) (kvs : List (Mono × Nat)) (m : Mono) (a : Addr) : List Addr := if m ∈ keys kvs then as else as ++ [a]
theorem ent_put {as : List Addr} {kvs : List (Mono × Nat)} {xs : List (NestedKey × Addr × Value)} (e : Ent as kvs xs) (m : Mono) (a : Addr) (n : Nat) (t : Tok) : Ent (putA as kvs m a) (put kvs m n) (storedH xs (nk m) a (.int n t)) := by
  have key : (atKey xs (nk m)).isSome = decide (m ∈ keys kvs) := by
    by_cases c : m ∈ keys kvs
    · obtain ⟨v, hv⟩ : ∃ v, get? kvs m = some v := by
        cases q : get? kvs m with
        | none => exact absurd c (get?_none.mp q)
        | some v => exact ⟨v, rfl⟩
      obtain ⟨b, t', hb⟩ := (ent_at e m).2 v hv
      rw [hb]
      simp [c]
    · rw [(ent_at e m).1 (get?_none.mpr c)]
      simp [c]
  obtain ⟨ea, r⟩ := e
  unfold putA put storedH
  rw [key, any_key]
  by_cases c : m ∈ keys kvs
  · rw [if_pos c, if_pos (by simpa using c), if_pos (by simpa using c)]
    refine ⟨?_, ?_⟩
    · rw [List.map_map, ← ea]
      refine List.map_congr_left fun q _ => ?_
      show (putAt (nk m) (Value.int n t) q).2.1 = q.2.1
      unfold putAt
      split <;> rfl
    · clear ea key c
      induction r with
      | nil => exact .nil
      | @cons p q ps qs h tt ih =>
        refine .cons ?_ ih
        obtain ⟨h1, t', h2⟩ := h
        show (if q.1 = nk m then (q.1, q.2.1, Value.int n t) else q).1 = nk (if p.1 = m then (p.1, n) else p).1 ∧ ∃ t1, (if q.1 = nk m then (q.1, q.2.1, Value.int n t) else q).2.2 = Value.int ((if p.1 = m then (p.1, n) else p).2 : Nat) t1
        by_cases c : p.1 = m
        · rw [if_pos c, if_pos (by rw [h1, c])]
          exact ⟨h1, t, rfl⟩
        · rw [if_neg c, if_neg fun z => c (nk_inj (h1.symm.trans z))]
          exact ⟨h1, t', h2⟩
  · rw [if_neg c, if_neg (by simpa using c), if_neg (by simpa using c)]
    refine ⟨by rw [List.map_append, ea]; rfl, Paired.snoc r ⟨rfl, t, rfl⟩⟩
section
variable {X : Cx} {pins : List (Addr × Obj)} {σ : L2.St} {H : Hp} {s : Shared} {d : Addr} {as : List Addr} {kvs : List (Mono × Nat)}
/-- d[m] = n -/
theorem m_set {a : Addr} {m : Mono} {n : Nat} {t : Tok} {A : Around} {E : Value → Shared → Prop} {Q : Unit → Shared → Prop} (hu : A.units + 64 < cLine) (I : L2.Inv X pins σ H s) (ob : H d = some (MO X.prog X.w d as kvs)) (ks : DpL X.K H eMono (as.map V.ref) (keys kvs)) (hk : Dp X.K H (.ref a) (eMono m)) (hl : kvs.length < sizeLine)
    (h : ∀ s', L2.Inv X pins σ (upd H d (MO X.prog X.w d (putA as kvs m a) (put kvs m n))) s' → Q () s') : wpAny (model X.prog X.w) A (setItem (.ref d) (.ref a) (.int n t)) Q E s := by
  obtain ⟨xs, e, hz, hd, dd⟩ := ent_dict I ⟨.inl ob, ks⟩
  have hxl : xs.length ≤ sizeLine := by rw [← Paired.length e.2]; exact hz
  refine wpAny_setItem_heap (hsz := hxl) (room_n (X := X) hu) (key_is I hk) dd fun h' dd' hs => h _ ?_
  obtain ⟨q, es, ep, hq, h2, h3, h4, _, h5⟩ := dd'
  have hp := length_put kvs m n
  exact d_write I (by rw [ob]; exact True.intro) hs ⟨q, hq⟩ (mo_ok (ent_put e m a n t) (by omega) hd ⟨q, es, ep, hq, h2, h3, h4, h5⟩)
end

/-! ### rules -/
/-- {}, to be such a dict -/
def tMNew (P : Program) (w : World) : TE := fun _ H Q => ∀ p, H p = none → Q (.ref p) (upd H p (MO P w p [] []))
/-- d[m]; d.get(m, x) -/
def tMGet (P : Program) (w : World) (K : PySem.W.Frag) (td ty : TE) : TE := fun σ H Q => td σ H fun x H1 => ty σ H1 fun y H2 => ∃ d as kvs a m n, x = .ref d ∧ y = .ref a ∧ MTab P w K H2 d as kvs ∧ Dp K H2 (.ref a) (eMono m) ∧ get? kvs m = some n ∧ Q (.int n) H2
def tMGet2 (X : Cx) (td ty tx : TE) : TE := fun σ H Q => td σ H fun x H1 => ∃ d as kvs, x = .ref d ∧ MTab X.prog X.w X.K H1 d as kvs ∧ ty σ H1 fun y H2 => tx σ H2 fun z H3 => ∃ a m i, y = .ref a ∧ z = .int i ∧ MTab X.prog X.w X.K H3 d as kvs ∧ Dp X.K H3 (.ref a) (eMono m) ∧
  Q (.int (match get? kvs m with | some n => (n : Int) | none => i)) H3
/-- d[m] = v -/
def sMPut (X : Cx) (td ty tv : TE) : TS := fun D σ H => tv σ H fun v H1 => td σ H1 fun x H2 => ty σ H2 fun y H3 => ∃ d as kvs a m n, v = .int ((n : Nat) : Int) ∧ x = .ref d ∧ y = .ref a ∧ H3 d = some (MO X.prog X.w d as kvs) ∧ DpL X.K H3 eMono (as.map V.ref) (keys kvs) ∧
  Dp X.K H3 (.ref a) (eMono m) ∧ kvs.length < sizeLine ∧ D.nx σ (upd H3 d (MO X.prog X.w d (putA as kvs m a) (put kvs m n)))
section
variable {X : Cx} {o i e f value : Expr} {pos pos' apos cpos : Pos} {td ty tv tx : TE}
theorem pe_mnew : PE X (.Dict [] [] pos) (tMNew X.prog X.w) := ⟨fun pins s σ H Q I h =>
  wpAny_Dict_empty ⟨.ref s.heap.objs.size, _, I.laid (a := s.heap.objs.size) (o := MO X.prog X.w s.heap.objs.size [] []) (t' := s.toks) (fun _ _ q => Heap.get?_push_of_some _ q) (Nat.le_refl _)
    (mo_ok (xs := []) ⟨rfl, .nil⟩ (Nat.zero_le _) (beq_eq_false_iff_ne.mpr (Ne.symm (Nat.ne_of_lt I.big))) ⟨_, #[], 0, Heap.get?_push_size _ rfl, ⟨rfl, rfl, rfl⟩, rfl, rfl, List.nodup_nil⟩), rfl, h _ (I.hok.fresh (Nat.le_refl _))⟩⟩
theorem mtab_dict {pins : List (Addr × Obj)} {σ : L2.St} {H : Hp} {s : Shared} {d : Addr} {as : List Addr} {kvs : List (Mono × Nat)} (I : L2.Inv X pins σ H s) (T : MTab X.prog X.w X.K H d as kvs) :
    s.TypeIs (.ref d) "dict" ∧ ∀ b, Value.ref d = .ref b → ∃ ob, s.heap.get? b = some ob ∧ ob.dict = none := by
  obtain ⟨xs, _, _, _, dd⟩ := ent_dict I T
  refine ⟨dd.typeIs, fun b q => ?_⟩
  cases q
  obtain ⟨ob, _, _, h1, h2, _⟩ := dd
  exact ⟨ob, h1, h2.2.1⟩
theorem pe_mget (hu : X.A.units + 64 < cLine) (ho : PE X o td) (hi : PE X i ty) (hs : NoSl i) : PE X (.Subscript o i pos) (tMGet X.prog X.w X.K td ty) := by
  refine ⟨fun pins s σ H Q I h => ?_⟩
  refine subD_of PySem.F.slot_dict_getitem.lookup hs (thn (ho.run pins s σ H _ I h) fun u s1 ⟨x, H1, I1, rx, q1⟩ => thn (hi.run pins s1 σ H1 _ I1 q1) fun iv s2 ⟨y, H2, I2, ry, d, as, kvs, a, m, n, ex, ey, T, hk, hg, q2⟩ => ?_)
  subst ex ey
  obtain rfl : u = Value.ref d := rx
  obtain rfl : iv = Value.ref a := ry
  exact ⟨(mtab_dict I2 T).1, m_get hu I2 T hk hg fun t s3 I3 => ⟨.int n, H2, I3, ⟨t, rfl⟩, q2⟩⟩
theorem pe_mget2 (hu : X.A.units + 64 < cLine) (ho : PE X o td) (he : PE X e ty) (hf : PE X f tx) (m : M2 X o "get" apos e f cpos) : PE X (.Call (.Attribute o "get" apos) [e, f] [] cpos) (tMGet2 X td ty tx) := by
  refine ⟨fun pins s σ H Q I h => ?_⟩
  refine wpAny_Call_method m.base m.few m.line PySem.F.plainAttrs_dict PySem.F.slot_dict_get PySem.F.type_dict_get (thn (ho.run pins s σ H _ I h) fun u s1 ⟨x, H1, I1, rx, d, as, kvs, ex, T, q1⟩ => ?_)
  subst ex
  obtain rfl : u = Value.ref d := rx
  obtain ⟨t1, t2⟩ := mtab_dict I1 T
  refine ⟨t1, t2, ?_⟩
  rw [m.trees]
  refine Calls.callWith_builtin rfl (Calls.evalArgs_plain (Calls.spliced_cons (thn (he.run pins s1 σ H1 _ I1 q1) fun iv s2 ⟨y, H2, I2, ry, q2⟩ =>
    Calls.spliced_cons (thn (hf.run pins s2 σ H2 _ I2 q2) fun fv s3 ⟨z, H3, I3, rz, a, mm, ii, ey, ez, T3, hk, q3⟩ => Calls.spliced_nil ?_))))
  subst ey ez
  obtain rfl : iv = Value.ref a := ry
  obtain ⟨t, rfl⟩ := rz
  exact m_get2 hu I3 T3 hk fun t' s4 I4 => ⟨.int _, H3, I4, ⟨t', rfl⟩, q3⟩
theorem ps_mput (hu : X.A.units + 64 < cLine) (ho : PE X o td) (hi : PE X i ty) (hv : PE X value tv) (hs : swapsWith value (some (.Subscript o i pos')) pos.line X.env = pure false) :
    PS X (.Assign [.Subscript o i pos'] value pos) (sMPut X td ty tv) := by
  refine ⟨fun pins s σ H D I h => ?_⟩
  refine wpAny_Assign_Subscript (thn (hv.run pins s σ H _ I h) fun r s1 ⟨v, H1, I1, rv, q1⟩ => thn (ho.run pins s1 σ H1 _ I1 q1) fun u s2 ⟨x, H2, I2, rx, q2⟩ => thn (hi.run pins s2 σ H2 _ I2 q2) fun iv s3 ⟨y, H3, I3, ry, d, as, kvs, a, m, n, ev, ex, ey, ob, ks, hk, hl, q3⟩ => ?_) hs
  subst ev ex ey
  obtain rfl : u = Value.ref d := rx
  obtain rfl : iv = Value.ref a := ry
  obtain ⟨t, rfl⟩ := rv
  exact m_set hu I3 ob ks hk hl fun s4 I4 => ⟨σ, _, I4, q3⟩
/-- len(d) -/
def rMLen (X : Cx) : List V → Hp → VK → Prop := fun xs H Q => ∃ d as kvs, xs = [.ref d] ∧ MTab X.prog X.w X.K H d as kvs ∧ Q (.int ((kvs.length : Nat) : Int)) H
theorem call_len_m : CallR X (.builtin "len") (rMLen X) := by
  intro pins s σ H vs us Q I r h
  obtain ⟨d, as, kvs, rfl, T, q⟩ := h
  obtain ⟨u, rfl, ru⟩ := vals1 r
  obtain rfl : u = Value.ref d := ru
  obtain ⟨xs, e, hz, hd, dd⟩ := ent_dict I T
  have hl : kvs.length = xs.length := Paired.length e.2
  refine call_len_dictH hd dd (by rw [← hl]; rw [sizeLine_eq] at hz; omega) ?_
  exact ⟨.int _, H, I.tok _, ⟨_, by rw [hl]⟩, q⟩
end

/-! ### its keys walked -/
def Itm (P : Program) (w : World) (d : Addr) (o : Obj) (as : List Addr) (kvs : List (Mono × Nat)) : It :=
  ⟨fun i H => H d = some (.frz o (MO P w d as kvs)) ∧ i < kvs.length, fun i H x H' => H' = H ∧ ∃ a, as[i]? = some a ∧ x = .ref a, fun i H => H d = some (.frz o (MO P w d as kvs)) ∧ kvs.length ≤ i⟩
theorem frzM {X : Cx} {pins : List (Addr × Obj)} {σ : L2.St} {H : Hp} {s : Shared} {d : Addr} {o : Obj} {as : List Addr} {kvs : List (Mono × Nat)} (I : L2.Inv X pins σ H s) (h : H d = some (.frz o (MO X.prog X.w d as kvs))) :
    (d == sysModules) = false ∧ s.heap.get? d = some o ∧ o.ExactDict ∧ ∃ (es : Array DictEntry) (ep : Nat), o.data = .dict es ep ∧ es.size = kvs.length ∧ as.length = kvs.length ∧ ∀ (i : Nat) (a : Addr), as[i]? = some a → ∃ en : DictEntry, es[i]? = some en ∧ en.key = .ref a := by
  obtain ⟨hd, ⟨xs, e, hz, hs, o', es, ep, ho, hx, hdt, he, hn⟩, _, _⟩ := I.hok d _ h
  rw [hd] at ho
  cases ho
  have hl : kvs.length = xs.length := Paired.length e.2
  refine ⟨hs, hd, hx, es, ep, hdt, ?_, ?_, fun i a ha => ?_⟩
  · have := size_of_entries he
    omega
  · rw [← e.1, List.length_map, hl]
  · rw [← e.1, List.getElem?_map] at ha
    have q := entry_at he i
    cases hx2 : xs[i]? with
    | none => rw [hx2] at ha; cases ha
    | some b =>
      rw [hx2] at ha q
      have ea : b.2.1 = a := Option.some.inj ha
      exact ⟨_, q, by rw [← ea]; rfl⟩
theorem turn_keysM {P : Program} {w : World} {K : PySem.W.Frag} {tg : Expr} {d : Addr} {o : Obj} {es : Array DictEntry} {ep : Nat} {as : List Addr} {kvs : List (Mono × Nat)} (it : Addr) (hod : o.data = .dict es ep) : Turn P w K tg (Itm P w d o as kvs) [it] it (fun i h => h.IsKeyIter it d i kvs.length ep) where
  mem := by simp
  obj := fun i h st b hb => by
    have e : b = it := by simpa using hb
    subst e
    obtain ⟨oi, e, c, dd⟩ := st
    exact ⟨oi, e, fun v z => by rw [dd] at z; cases z⟩
  keep := fun i h h' st k => st.at fun oi e => k it (by simp) oi e
  item := by
    intro X hP hw hK hc i pins s σ H E I hf st hg
    subst hP hw hK
    obtain ⟨hd, hi⟩ := hg
    obtain ⟨f0, f1, f2, f3, f4, f5⟩ := hf it (by simp)
    obtain ⟨hs, hgd, hx, es', ep', hdt, hsz, hal, ent⟩ := frzM I hd
    obtain ⟨rfl, rfl⟩ := dict_ep hod hdt
    obtain ⟨a, ha⟩ : ∃ a, as[i]? = some a := ⟨as[i]'(by omega), List.getElem?_eq_getElem (by omega)⟩
    obtain ⟨en, hen, hkey⟩ := ent i a ha
    refine next_key_item st hgd hdt hsz hen fun h' st' sb => ?_
    have I1 : L2.Inv X pins σ H { s with heap := h' } := I.turned (t' := s.toks) (fun b ob hb e => (sb.2 b hb).trans e) f0 f1 f3 f4 f5
    obtain ⟨oi, e, c, dd⟩ := id st'
    exact ⟨en.key, rfl, go_of (s := { s with heap := h' }) e c dd (by decide) ⟨.ref a, H, I1, hkey, ⟨rfl, a, ha, rfl⟩, st', fun b hb => (hf b hb).1⟩⟩
  done := by
    intro X hP hw hK hc i pins s σ H E I hf st hg
    subst hP hw hK
    obtain ⟨hd, hi⟩ := hg
    obtain ⟨f0, f1, f2, f3, f4, f5⟩ := hf it (by simp)
    obtain ⟨hs, hgd, hx, es', ep', hdt, hsz, hal, ent⟩ := frzM I hd
    obtain ⟨rfl, rfl⟩ := dict_ep hod hdt
    exact next_key_end (I.ok.hd hc) st hgd hdt hsz hi fun h' eb => ⟨rfl, I.turned (t' := s.toks) (fun b ob hb e => eb b ob hb e) f0 f1 f3 f4 f5⟩
  self := fun A i s Q E st h => by
    refine wpAny_pyIter_slot st.typeIs F.slot_dict_keyiterator_iter (wpAny_call_entry F.slot_dict_keyiterator_iter st.typeIs F.entry_dict_keyiterator_iter ?_ (F.args_dict_keyiterator_iter_1 _))
    show wpAny _ _ (ret (.ref it)) _ _ s
    exact wpAny_pure ⟨_, rfl, "dict_keyiterator", _, st.typeIs, F.slot_dict_keyiterator_next.lookup, h⟩
def iKeysMo (X : Cx) (td : TE) : TI := fun σ H R => td σ H fun x H1 => ∃ d o as kvs, x = .ref d ∧ H1 d = some (.frz o (MO X.prog X.w d as kvs)) ∧ R (Itm X.prog X.w d o as kvs) H1
theorem pi_keysMo {X : Cx} {tg e : Expr} {td : TE} (he : PE X e td) : PI X tg e (iKeysMo X td) := by
  refine ⟨fun pins s σ H R I h => ?_⟩
  refine thn (he.run pins s σ H _ I h) fun u s1 ⟨x, H1, I1, rx, d, o, as, kvs, ex, hd, q⟩ => ?_
  subst ex
  obtain rfl : u = Value.ref d := rx
  obtain ⟨hs, hgd, hx, es, ep, hdt, hsz, hal, ent⟩ := frzM I1 hd
  refine iter_keys hs hgd hx hdt (pi_one (tk := s1.toks) I1 _ (turn_keysM _ hdt) ⟨_, Heap.get?_push_size _ rfl, rfl, ?_⟩ q)
  rw [hsz] <;> rfl
theorem walk_keysMo {P : Program} {w : World} {d : Addr} {o : Obj} {as : List Addr} {kvs : List (Mono × Nat)} : Walk (Itm P w d o as kvs) kvs.length (fun H => H d = some (.frz o (MO P w d as kvs))) (fun i H x H' => H' = H ∧ ∃ a, as[i]? = some a ∧ x = .ref a) :=
  ⟨fun _ _ hi q => ⟨q, hi⟩, fun _ q => ⟨q, Nat.le_refl _⟩, fun _ _ _ _ _ _ y => y⟩
end K8
/-! K8Min: min(xs, default=d) of a list of whole numbers, perhaps empty. -/
namespace K8
open PySem PySem.Spec PyProof.Rows

/-- the least so far and one more -/
def lessO : Option Int → Int → Option Int
  | none, i => some i
  | some m, i => some (if i < m then i else m)
def leastO (ns : List Int) : Option Int := ns.foldl lessO none
theorem args_min_default (a d : Value) : argsOk "min" ⟨[a], [(Str.ofString "default", d)]⟩ := by unfold argsOk; kernel_rfl
theorem bind_min_default (d : Value) : Builtin.Builtins.bindParams "min" ["key", "default"] 0 ⟨[], [(Str.ofString "default", d)]⟩ = pure [none, some d] := rfl
/-- a built-in function's tree, called with keywords -/
theorem call_tree_kw {prog : Program} {w : World} {A : Around} {E : Value → Shared → Prop} {s : Shared} {id : String} {b : Builtin} {args : List Value} {kw : List (Str × Value)} {Q : Value → Shared → Prop} (hk : builtinKind id = none) (hp : plainId id = true)
    (hb : entryFor table id = some b) (ha : argsOk id ⟨args, kw⟩)
    (hc : wpAny (model prog w) A.in1 (b ⟨args, kw⟩) (fun fin s' => match fin with
      | .done f => (match (Except.ok f : Result) with | .ok (.ret v) => Q v s' | .ok _ => False | .error e => E e s')
      | .again c' => c'.quiet = true ∧ codeAny (model prog w) A c' (fun r s' => match r with | .ok (.ret v) => Q v s' | .ok _ => False | .error e => E e s') s') E s) :
    wpAny (model prog w) A (call (.builtin id) args kw) Q E s := by
  refine wpAny_call (codeAny_call_builtin hp hb ?_)
  simp only [checkBuiltinCall, hk]
  cases hs : Manifest.signature? id with
  | none => exact wpAny_pure hc
  | some sig =>
    simp only [argsOk, hs] at ha
    show wpAny _ A.in1 (Bind.checkArgs id sig ⟨args, kw⟩) _ _ s
    rw [show Bind.checkArgs id sig ⟨args, kw⟩ = pure () from ha]
    exact wpAny_pure hc
def bestObj (ob : Option Value) (c : Nat) : Obj := { cls := .type "list", dict := none, data := .seq (match ob with | none => #[] | some v => #[v, v]) c, slots := #[] }
def BestIs (ob : Option Value) (o : Option Int) : Prop := match ob, o with
  | none, none => True
  | some v, some m => ∃ t, v = Value.int m t
  | _, _ => False
/-- what it ends in -/
def EndIs (d v : Value) (o : Option Int) : Prop := match o with
  | none => v = d
  | some m => ∃ t, v = Value.int m t
theorem ints_at : ∀ {vs : List Value} {ns : List Int}, IntsAre vs ns → ∀ {j : Nat} {i : Int} {v : Value}, ns[j]? = some i → vs[j]? = some v → ∃ t, v = Value.int i t
  | _, _, .nil, _, _, _, h, _ => by simp at h
  | _, _, .cons n t r, 0, _, _, h, h' => by
    simp at h h'
    exact ⟨t, by rw [← h', h]⟩
  | _, _, .cons n t r, j + 1, _, _, h, h' => ints_at r (j := j) (by simpa using h) (by simpa using h')
section
variable {prog : Program} {w : World} {A : Around} {R : Result → Shared → Prop} {I l S : Addr} {items : Array Value} {ns : List Int} {d : Value}
theorem min_turns (hh : A.in1.handled = none) (hI : IntsAre items.toList ns) (hlI : l ≠ I) (hSI : S ≠ I) (hSl : S ≠ l) :
    ∀ (k j : Nat) (s : Shared) (ob : Option Value) (c : Nat), items.size - j = k → j ≤ items.size → s.heap.IsListIter I l j → s.heap.IsList l items → BestIs ob (leastO (ns.take j)) → s.heap.get? S = some (bestObj ob c) →
    (∀ v h' tk, EndIs d v (leastO ns) → (∀ b o, b ≠ I → b ≠ S → s.heap.get? b = some o → h'.get? b = some o) → R (.ok (.ret v)) { s with heap := h', toks := tk }) →
    codeAny (model prog w) A (.builtin "min.loop" ⟨[.ref I, .none, .ref S], [(Str.ofString "default", d)]⟩) R s := by
  have W := Walks.list (prog := prog) (w := w) hh I l hlI items
  have hname : (toString "min" ++ toString ".loop" : String) = "min.loop" := by decide
  have hl : items.size = ns.length := by
    have := hI.length
    simpa using this
  intro k
  induction k with
  | zero =>
    intro j s ob c hk hj hit hli hob hS hR
    have hin : j = items.size := by omega
    have ht : ns.take j = ns := List.take_of_length_le (by omega)
    rw [ht] at hob
    refine codeAny_builtin F.entry_min_loop ?_
    rw [Around.under_plainId F.plain_min_loop _]
    show wpAny _ A.in1 (seqItems? (.ref S) >>= _) _ _ s
    cases ob with
    | none =>
      refine wpAny_bind (wpAny_seqItems hS rfl ?_)
      show wpAny _ A.in1 (tryCatch (pyNext (.ref I)) _ >>= _) _ _ s
      refine wpAny_bind (wpAny_tryCatch (W.done s _ _ (hin ▸ ⟨hit, hli⟩) fun h' tk hk' => ?_))
      show wpAny _ A.in1 (rule _ >>= fun _ => ret d) _ _ _
      refine wpAny_bind (wpAny_rule (wpAny_pure (hR d h' tk ?_ fun b o hb hbS e => hk' b o (by simpa using hb) e)))
      cases q : leastO ns with
      | none => rfl
      | some m => rw [q] at hob; exact hob.elim
    | some vb =>
      refine wpAny_bind (wpAny_seqItems hS rfl ?_)
      show wpAny _ A.in1 (tryCatch (pyNext (.ref I)) _ >>= _) _ _ s
      refine wpAny_bind (wpAny_tryCatch (W.done s _ _ (hin ▸ ⟨hit, hli⟩) fun h' tk hk' => ?_))
      have hS' := hk' S _ (by simpa using hSI) hS
      show wpAny _ A.in1 (updateSeq S (fun _ => #[]) >>= _) _ _ _
      refine wpAny_bind (wpAny_updateSeq hS' rfl (wpAny_bind (wpAny_letGo (wpAny_pure ?_))))
      refine hR vb _ tk ?_ fun b o hb hbS e => (Heap.get?_update_other _ _ (Ne.symm hbS)).trans (hk' b o (by simpa using hb) e)
      cases q : leastO ns with
      | none => rw [q] at hob; exact hob.elim
      | some m => rw [q] at hob; exact hob
  | succ k ih =>
    intro j s ob c hk hj hit hli hob hS hR
    have hlt : j < items.size := by omega
    obtain ⟨i, hi⟩ : ∃ i, ns[j]? = some i := ⟨ns[j]'(by omega), List.getElem?_eq_getElem (by omega)⟩
    have hts : ns.take (j + 1) = ns.take j ++ [i] := by rw [List.take_add_one, hi]; rfl
    have hlo : leastO (ns.take (j + 1)) = lessO (leastO (ns.take j)) i := by
      unfold leastO
      rw [hts, List.foldl_append]
      rfl
    refine codeAny_builtin F.entry_min_loop ?_
    rw [Around.under_plainId F.plain_min_loop _]
    show wpAny _ A.in1 (seqItems? (.ref S) >>= _) _ _ s
    cases ob with
    | none =>
      refine wpAny_bind (wpAny_seqItems hS rfl ?_)
      show wpAny _ A.in1 (tryCatch (pyNext (.ref I)) _ >>= _) _ _ s
      refine wpAny_bind (wpAny_tryCatch (W.item j s _ _ hlt ⟨hit, hli⟩ fun v h' tk hP hst' hk' => ?_))
      have hS' := hk' S _ (by simpa using hSI) hS
      obtain ⟨t, ev⟩ := ints_at hI hi (by simpa using hP)
      show wpAny _ A.in1 (updateSeq S (fun _ => #[v, v]) >>= _) _ _ _
      refine wpAny_bind (wpAny_updateSeq hS' rfl ?_)
      rw [hname]
      refine wpAny_pure ⟨plainId_quiet F.plain_min_loop _, ih (j + 1) _ (some v) _ (by omega) (by omega) (hst'.1.at fun o e => ?_) (hst'.2.at fun o e => ?_) ?_ (Heap.get?_update_self _ hS' rfl) fun v' h'' tk'' hE hk'' => ?_⟩
      · exact (Heap.get?_update_other _ _ hSI).trans e
      · exact (Heap.get?_update_other _ _ hSl).trans e
      · rw [hlo]
        cases q : leastO (ns.take j) with
        | none => exact ⟨t, ev⟩
        | some m => rw [q] at hob; exact hob.elim
      · exact hR v' h'' tk'' hE fun b o hb hbS e => hk'' b o hb hbS ((Heap.get?_update_other _ _ (Ne.symm hbS)).trans (hk' b o (by simpa using hb) e))
    | some vb =>
      obtain ⟨m, hm, tm, evb⟩ : ∃ m, leastO (ns.take j) = some m ∧ ∃ t, vb = Value.int m t := by
        cases q : leastO (ns.take j) with
        | none => rw [q] at hob; exact hob.elim
        | some m => rw [q] at hob; exact ⟨m, rfl, hob⟩
      rw [hm] at hlo
      refine wpAny_bind (wpAny_seqItems hS rfl ?_)
      show wpAny _ A.in1 (tryCatch (pyNext (.ref I)) _ >>= _) _ _ s
      refine wpAny_bind (wpAny_tryCatch (W.item j s _ _ hlt ⟨hit, hli⟩ fun v h' tk hP hst' hk' => ?_))
      have hS' := hk' S _ (by simpa using hSI) hS
      obtain ⟨t, ev⟩ := ints_at hI hi (by simpa using hP)
      subst ev evb
      show wpAny _ A.in1 (tryCatch (holding [Value.int i t, Value.int i t] (richCompare .Lt (Value.int i t) (Value.int m tm) >>= _)) _ >>= _) _ _ _
      refine wpAny_bind (wpAny_tryCatch (wpAny_holding (wpAny_bind (lt_int ?_))))
      refine wpAny_bind (wpAny_holding (wpAny_truthy_bool ?_))
      refine wpAny_bind (wpAny_letGo (wpAny_pure ?_))
      by_cases hb : i < m
      · rw [if_pos (decide_eq_true hb)]
        refine wpAny_bind (wpAny_updateSeq hS' rfl (wpAny_bind (wpAny_letGo ?_)))
        rw [hname]
        refine wpAny_pure ⟨plainId_quiet F.plain_min_loop _, ih (j + 1) _ (some (Value.int i t)) _ (by omega) (by omega) (hst'.1.at fun o e => ?_) (hst'.2.at fun o e => ?_) ?_ (Heap.get?_update_self _ hS' rfl) fun v' h'' tk'' hE hk'' => ?_⟩
        · exact (Heap.get?_update_other _ _ hSI).trans e
        · exact (Heap.get?_update_other _ _ hSl).trans e
        · rw [hlo]
          show BestIs (some (Value.int i t)) (some (if i < m then i else m))
          rw [if_pos hb]
          exact ⟨t, rfl⟩
        · exact hR v' h'' tk'' hE fun b o hb hbS e => hk'' b o hb hbS ((Heap.get?_update_other _ _ (Ne.symm hbS)).trans (hk' b o (by simpa using hb) e))
      · rw [if_neg (by simpa using hb)]
        refine wpAny_bind (wpAny_letGo ?_)
        rw [hname]
        refine wpAny_pure ⟨plainId_quiet F.plain_min_loop _, ih (j + 1) _ (some (Value.int m tm)) c (by omega) (by omega) hst'.1 hst'.2 ?_ hS' fun v' h'' tk'' hE hk'' => ?_⟩
        · rw [hlo]
          show BestIs (some (Value.int m tm)) (some (if i < m then i else m))
          rw [if_neg hb]
          exact ⟨tm, rfl⟩
        · exact hR v' h'' tk'' hE fun b o hb hbS e => hk'' b o hb hbS (hk' b o (by simpa using hb) e)
end
section
variable {prog : Program} {w : World} {A : Around} {E : Value → Shared → Prop} {s : Shared} {l : Addr} {items : Array Value} {ns : List Int} {d : Value}
theorem call_min_default {Q : Value → Shared → Prop} (hh : A.handled = none) (hl : s.heap.IsList l items) (hI : IntsAre items.toList ns)
    (h : ∀ v h' tk, EndIs d v (leastO ns) → (∀ b o, s.heap.get? b = some o → h'.get? b = some o) → Q v { s with heap := h', toks := tk }) :
    wpAny (model prog w) A (call (.builtin "min") [.ref l] [(Str.ofString "default", d)]) Q E s := by
  have hname : (toString "min" ++ toString ".loop" : String) = "min.loop" := by decide
  have hlt : l < s.heap.objs.size := by obtain ⟨_, e, _⟩ := hl; exact Heap.lt_size e
  refine call_tree_kw F.kind_min F.plain_min F.entry_min (args_min_default _ _) ?_
  show wpAny _ A.in1 (Builtin.Builtins.bindParams "min" ["key", "default"] 0 ⟨[], [(Str.ofString "default", d)]⟩ >>= _) _ _ s
  refine wpAny_bind (wpAny_of_eq (bind_min_default d) ?_)
  refine wpAny_bind (wpAny_pure ?_)
  refine wpAny_bind (wpAny_pyIter_list hl ?_)
  refine wpAny_bind (wpAny_newObj_type ?_)
  rw [hname]
  refine wpAny_pure ⟨plainId_quiet F.plain_min_loop _, min_turns (I := s.heap.objs.size) (l := l) (items := items) (ns := ns) hh hI (Nat.ne_of_lt hlt) ?_ ?_ _ 0 _ none 0 rfl (Nat.zero_le _) ?_ ?_ ?_ (Heap.get?_push_size _ rfl) fun v h' tk hE hk => ?_⟩
  · rw [Heap.size_push]
    exact Nat.succ_ne_self _
  · rw [Heap.size_push]
    exact Nat.ne_of_gt (Nat.lt_succ_of_lt hlt)
  · exact ⟨_, Heap.get?_push_of_some _ (Heap.get?_push_size _ rfl), rfl, rfl⟩
  · exact (hl.push _).push _
  · exact True.intro
  · refine h v h' tk hE fun b o e => hk b o (Nat.ne_of_lt (Heap.lt_size e)) ?_ (Heap.get?_push_of_some _ (Heap.get?_push_of_some _ e))
    rw [Heap.size_push]
    exact Nat.ne_of_lt (Nat.lt_succ_of_lt (Heap.lt_size e))
end
end K8

namespace K8
open PySem PySem.Spec PyProof.Rows L2
def rMinDef (K : PySem.W.Frag) : List V → List V → Hp → VK → Prop := fun vs zs H Q => ∃ (a : Addr) (ns : List Int) (d : V), vs = [.ref a] ∧ zs = [d] ∧ SqL K H a (ns.map V.int) ∧ Q (match leastO ns with | none => d | some m => .int m) H
theorem cr_minDef {X : Cx} (hc : X.calm = true) : CallRK X (.builtin "min") [Str.ofString "default"] (rMinDef X.K) := by
  intro pins s σ H xs zs us ws Q I r rz h
  obtain ⟨a, ns, d, rfl, rfl, hs, q⟩ := h
  obtain ⟨its, rv, hl, hz⟩ := I.list hs
  obtain ⟨u, rfl, ru⟩ := vals1 r
  obtain rfl : u = Value.ref a := ru
  obtain ⟨z, rfl, rz'⟩ := vals1 rz
  refine call_min_default (I.ok.hd hc) hl.isList (by simpa using rv.ints) fun v h' tk hE hk => ?_
  refine ⟨_, H, I.kept (t' := tk) hk, ?_, q⟩
  cases e : leastO ns with
  | none =>
    rw [e] at hE
    have hE' : v = z := hE
    rw [hE']
    exact rz'
  | some m =>
    rw [e] at hE
    exact hE
end K8
/-! K8Seq: a list or a tuple walked and unpacked alike; a dict comprehension with two fors. -/
namespace K8
open PySem PySem.Spec PyProof.Rows L2

/-! ### a list or a tuple -/
def SqA (K : PySem.W.Frag) (H : Hp) (a : Addr) (xs : List V) : Prop := SqL K H a xs ∨ SqT K H a xs
theorem same_a {K : PySem.W.Frag} {H H' : Hp} {a : Addr} {xs : List V} (e : Same H H') (h : SqA K H a xs) : SqA K H' a xs := h.elim (fun h => .inl (same_l e h)) fun h => .inr (same_t e h)
def iSeq (K : PySem.W.Frag) (tl : TE) : TI := fun σ H R => tl σ H fun x H1 => ∃ a, x = .ref a ∧ ((∃ xs, SqL K H1 a xs) ∧ R (Itl K a) H1 ∨ (∃ xs, SqT K H1 a xs) ∧ R (Itt K a) H1)
section
variable {X : Cx} {tg e : Expr}
theorem pi_seq {tl : TE} (hl : PE X e tl) : PI X tg e (iSeq X.K tl) := by
  refine ⟨fun pins s σ H R I h => ?_⟩
  refine thn (hl.run pins s σ H _ I h) fun v s1 ⟨x, H1, I1, r1, a, ex, q1⟩ => ?_
  subst ex
  obtain rfl : v = Value.ref a := r1
  rcases q1 with ⟨⟨xs, hq⟩, q⟩ | ⟨⟨xs, hq⟩, q⟩
  · obtain ⟨its, rv, p, hz⟩ := I1.list hq
    refine wpAny_pyIter_list p.isList ⟨s1.heap.objs.size, [s1.heap.objs.size], _, _, H1, rfl, I1.kept (t' := s1.toks) fun b o e => Heap.get?_push_of_some _ e, turn_list a _, ⟨_, Heap.get?_push_size _ rfl, rfl, rfl⟩, fun b hb => ?_, q⟩
    obtain rfl : b = s1.heap.objs.size := by simpa using hb
    exact I1.fpOk (Nat.le_refl _) (I1.hok.fresh (Nat.le_refl _))
  · obtain ⟨its, rv, p, hz⟩ := I1.tuple hq
    refine wpAny_pyIter_tuple (show s1.heap.IsTuple a its.toArray from p) ⟨s1.heap.objs.size, [s1.heap.objs.size], _, _, H1, rfl, I1.kept (t' := s1.toks) fun b o e => Heap.get?_push_of_some _ e, turn_tuple a _, ⟨_, Heap.get?_push_size _ rfl, rfl, rfl⟩, fun b hb => ?_, q⟩
    obtain rfl : b = s1.heap.objs.size := by simpa using hb
    exact I1.fpOk (Nat.le_refl _) (I1.hok.fresh (Nat.le_refl _))
end
/-- what is asked of a walked sequence: R for whatever walks it -/
theorem iseq_of {K : PySem.W.Frag} {tl : TE} {σ : L2.St} {H1 : Hp} {a : Addr} {xs : List V} {R : It → Hp → Prop} (h : SqA K H1 a xs) (hR : ∀ (J : It) (G : Hp → Prop), Walk J xs.length G (YAt xs) → (∀ H', SqA K H' a xs → (SqL K H1 a xs → SqL K H' a xs) → (SqT K H1 a xs → SqT K H' a xs) → G H') → R J H1) :
    (∃ xs, SqL K H1 a xs) ∧ R (Itl K a) H1 ∨ (∃ xs, SqT K H1 a xs) ∧ R (Itt K a) H1 := by
  rcases h with h | h
  · exact .inl ⟨⟨xs, h⟩, hR _ _ walk_list fun H' _ q _ => q h⟩
  · exact .inr ⟨⟨xs, h⟩, hR _ _ walk_tup fun H' _ _ q => q h⟩
/-- .. where the heap only grows -/
theorem iseq_same {K : PySem.W.Frag} {H1 : Hp} {a : Addr} {xs : List V} {R : It → Hp → Prop} (h : SqA K H1 a xs) (hR : ∀ (J : It) (G : Hp → Prop), Walk J xs.length G (YAt xs) → (∀ H', Same H1 H' → G H') → R J H1) :
    (∃ xs, SqL K H1 a xs) ∧ R (Itl K a) H1 ∨ (∃ xs, SqT K H1 a xs) ∧ R (Itt K a) H1 := by
  rcases h with h | h
  · exact .inl ⟨⟨xs, h⟩, hR _ _ walk_list fun H' e => same_l e h⟩
  · exact .inr ⟨⟨xs, h⟩, hR _ _ walk_tup fun H' e => same_t e h⟩
/-- (a, b, ..) = a list or a tuple of that length -/
def gSeq (K : PySem.W.Frag) (n : Nat) (t : TGs) : TG := fun v σ H Q => ∃ a xs, v = .ref a ∧ SqA K H a xs ∧ xs.length = n ∧ t xs σ H Q
theorem pg_seq {X : Cx} {es : List Expr} {k : Nat} {pos : Pos} {t : TGs} {n : Nat} (hc : X.calm = true) (h : PGs X es t) (hn : (assignEach es X.env).length = n := by rfl) (hst : (assignEach es X.env).findIdx? (·.1) = none := by rfl) : PG X (.Tuple es k pos) (gSeq X.K n t) := by
  refine ⟨fun pins s σ H v u Q I r hw => ?_⟩
  obtain ⟨a, xs, ev, hq, hl, hw⟩ := hw
  rcases hq with hq | hq
  · exact (pg_unl hc h hn hst).run pins s σ H v u Q I r ⟨a, xs, ev, hq, hl, hw⟩
  · exact (pg_tup hc h hn hst).run pins s σ H v u Q I r ⟨a, xs, ev, hq, hl, hw⟩

/-! ### {k: v for .. in .. for .. in ..} -/
section
variable {prog : Program} {w : World} {A : Around} {R : Result → Shared → Prop} {s : Shared} {kx vx t0 i0 t1 i1 : Expr} {scope : Scope} {pos : Pos} {it acc : Value} {D : Addr} {env : Env}
/-- the comprehension at hand -/
abbrev dc2 (kx vx t0 i0 t1 i1 : Expr) (scope : Scope) (pos : Pos) : Expr := .DictComp kx vx [⟨t0, i0, [], 0⟩, ⟨t1, i1, [], 0⟩] scope pos
theorem dcTurn_out : compTurn (dc2 kx vx t0 i0 t1 i1 scope pos) 0 it acc env = (do
    standAt i0.pos
    match ← pyNext it with
    | none => pure (.done .next)
    | some v =>
      letOwnedTupleGo t0 it v
      assign t0 env v
      let x ← eval i1 env
      standAt i1.pos
      let x ← foldedSetIterable i1 env x
      let _ ← runOwn (.compStart (dc2 kx vx t0 i0 t1 i1 scope pos) 1 (← holding [x] (pyIter x)) acc env) env
      again (.compLoop (dc2 kx vx t0 i0 t1 i1 scope pos) 0 it acc env)) := by rfl
/-- a turn of the second clause, its item v -/
def dcStep (kx vx t1 : Expr) (it v : Value) (D : Addr) (env : Env) : Sem Unit := do
  letOwnedTupleGo t1 it v
  assign t1 env v
  let kv ← eval kx env
  let vv ← holding [kv] (eval vx env)
  standAt { kx.pos with endLine := vx.pos.endLine, endCol := vx.pos.endCol }
  holding [kv, vv] (dictSet D kv vv)
theorem dcTurn_in : compTurn (dc2 kx vx t0 i0 t1 i1 scope pos) 1 it (.ref D) env = (do
    standAt i1.pos
    match ← pyNext it with
    | none => pure (.done .next)
    | some v =>
      dcStep kx vx t1 it v D env
      again (.compLoop (dc2 kx vx t0 i0 t1 i1 scope pos) 1 it (.ref D) env)) := by
  have e : compTurn (dc2 kx vx t0 i0 t1 i1 scope pos) 1 it (.ref D) env = (do
      standAt i1.pos
      match ← pyNext it with
      | none => pure (.done .next)
      | some v =>
        letOwnedTupleGo t1 it v
        assign t1 env v
        (do
          let kv ← eval kx env
          let vv ← holding [kv] (eval vx env)
          standAt { kx.pos with endLine := vx.pos.endLine, endCol := vx.pos.endCol }
          holding [kv, vv] (dictSet D kv vv))
        again (.compLoop (dc2 kx vx t0 i0 t1 i1 scope pos) 1 it (.ref D) env)) := by rfl
  rw [e]
  congr 1
  funext _
  congr 1
  funext r
  cases r with
  | none => rfl
  | some v => simp only [dcStep, bind_assoc]
theorem dcLoop_in (J : Nat → Shared → Prop)
    (turn : ∀ n s, J n s → wpAny (model prog w) A (pyNext it) (fun r s1 => match r with
      | none => R (.ok .next) s1
      | some v => wpAny (model prog w) A (dcStep kx vx t1 it v D env) (fun _ s2 => ∃ m, m < n ∧ J m s2) (fun _ _ => False) s1) (fun _ _ => False) s)
    (n : Nat) (h : J n s) : codeAny (model prog w) A (.compLoop (dc2 kx vx t0 i0 t1 i1 scope pos) 1 it (.ref D) env) R s := by
  refine codeAny_loop rfl J (fun n s hJ => ?_) n h
  show wpAny _ A ((compTurn (dc2 kx vx t0 i0 t1 i1 scope pos) 1 it (.ref D) env).onRaise (fun x => do noteFrame x env; theTreesLotGoes x)) _ _ s
  refine wpAny_noted ?_
  rw [dcTurn_in]
  refine wpAny_bind (wpAny_standAt (wpAny_bind (thnF (turn n s hJ) fun r s1 h1 => ?_)))
  cases r with
  | none => exact wpAny_pure h1
  | some v => exact wpAny_bind (thnF h1 fun _ s2 h2 => wpAny_pure ⟨rfl, h2⟩)
theorem dcLoop_out (hs : ∀ x, foldedSetIterable i1 env x = pure x) (J : Nat → Shared → Prop)
    (turn : ∀ n s, J n s → wpAny (model prog w) A (pyNext it) (fun r s1 => match r with
      | none => R (.ok .next) s1
      | some v => wpAny (model prog w) A (letOwnedTupleGo t0 it v) (fun _ s2 => wpAny (model prog w) A (assign t0 env v) (fun _ s3 => wpAny (model prog w) A (eval i1 env) (fun x s4 => wpAny (model prog w) A (pyIter x) (fun it1 s5 =>
          codeAny (model prog w) A (.compStart (dc2 kx vx t0 i0 t1 i1 scope pos) 1 it1 acc env) (fun r s' => match r with
            | .ok _ => ∃ m, m < n ∧ J m s'
            | .error _ => False) s5) (fun _ _ => False) s4) (fun _ _ => False) s3) (fun _ _ => False) s2) (fun _ _ => False) s1) (fun _ _ => False) s)
    (n : Nat) (h : J n s) : codeAny (model prog w) A (.compLoop (dc2 kx vx t0 i0 t1 i1 scope pos) 0 it acc env) R s := by
  refine codeAny_loop rfl J (fun n s hJ => ?_) n h
  show wpAny _ A ((compTurn (dc2 kx vx t0 i0 t1 i1 scope pos) 0 it acc env).onRaise (fun x => do noteFrame x env; theTreesLotGoes x)) _ _ s
  refine wpAny_noted ?_
  rw [dcTurn_out]
  refine wpAny_bind (wpAny_standAt (wpAny_bind (thnF (turn n s hJ) fun r s1 h1 => ?_)))
  cases r with
  | none => exact wpAny_pure h1
  | some v =>
    refine wpAny_bind (thnF h1 fun _ s2 h2 => wpAny_bind (thnF h2 fun _ s3 h3 => wpAny_bind (thnF h3 fun x s4 h4 => ?_)))
    refine wpAny_bind (wpAny_standAt (wpAny_bind (wpAny_of_eq (hs x) (wpAny_bind (wpAny_holding (thnF h4 fun it1 s5 h5 => ?_))))))
    refine wpAny_bind (wpAny_runOwn ?_)
    rw [Around.mark_none]
    refine codeAny_mono h5 fun r s' hr => ?_
    cases r with
    | ok f =>
      first
        | exact wpAny_pure ⟨rfl, hr⟩
        | exact wpAny_bind (wpAny_pure (wpAny_pure ⟨rfl, hr⟩))
    | error e => exact hr.elim
theorem dcStart_in (h0 : codeAny (model prog w) A (.compLoop (dc2 kx vx t0 i0 t1 i1 scope pos) 1 it acc env) R s)
    (h : wpAny (model prog w) A (pyIter it) (fun it' s' => codeAny (model prog w) A (.compLoop (dc2 kx vx t0 i0 t1 i1 scope pos) 1 it' acc env) R s') (notedBy (model prog w) A env fun x s' => R (.error x) s') s) :
    codeAny (model prog w) A (.compStart (dc2 kx vx t0 i0 t1 i1 scope pos) 1 it acc env) R s := by
  refine codeAny_of_tree ?_
  show wpAny _ _ ((compStart (dc2 kx vx t0 i0 t1 i1 scope pos) 1 it acc env).onRaise (fun x => do noteFrame x env; standAt theWindowsPlace)) _ _ s
  refine wpAny_notedAt ?_
  unfold compStart
  show wpAny _ _ (ask >>= _) _ _ s
  refine wpAny_bind (wpAny_askSetting (wpAny_ite ?_))
  split
  · first
      | exact wpAny_bind (wpAny_pure (wpAny_pure (And.intro rfl h0)))
      | exact wpAny_pure (And.intro rfl h0)
  · first
      | exact wpAny_bind (wpAny_rule (wpAny_bind (wpAny_standAt (wpAny_bind (wpAny_mono h (fun it' s' h' => wpAny_pure (And.intro rfl h')) fun _ _ x => x)))))
      | (refine wpAny_bind (wpAny_rule ?_); show wpAny _ _ (standAt i1.pos >>= _) _ _ s; exact wpAny_bind (wpAny_standAt (wpAny_bind (wpAny_mono h (fun it' s' h' => wpAny_pure (And.intro rfl h')) fun _ _ x => x))))
end
end K8
/-! K8Dc2: the rule for a dict comprehension with two fors and no ifs, keys whole numbers or texts. -/
namespace K8
open PySem PySem.Spec PyProof.Rows L2
section
variable {X : Cx}
/-- what is asked: the outer walk by W, each turn's inner walk by W1; vs the comprehension's own slots, vs1 those of the second target -/
def tDc2 (wi : TI) (g : TG) (wi1 : TI) (g1 : TG) (tk tv : TE) (vs vs1 : List Nat) : TE := fun σ H Q => wi σ H fun J H1 => ∀ D, H1 D = none → ∃ W : Nat → Nat → Hp → Prop, (∃ m, W 0 m (upd H1 D (.dK []))) ∧ ∀ i m H, W i m H →
  (J.stop i H ∧ Q (.ref D) H) ∨ (J.go i H ∧ ∃ Nx : Hp → Prop, (∀ H', Nx H' → ∃ m', m' < m ∧ W (i + 1) m' H') ∧ ∀ x H', J.yld i H x H' → g x (wipe σ vs) H' fun σ2 H2 => wipe σ2 vs = wipe σ vs ∧
    wi1 σ2 H2 fun J1 H4 => ∃ W1 : Nat → Nat → Hp → Prop, (∃ m, W1 0 m H4) ∧ ∀ j k H, W1 j k H →
      (J1.stop j H ∧ Nx H) ∨ (J1.go j H ∧ ∃ Nx1 : Hp → Prop, (∀ H', Nx1 H' → ∃ k', k' < k ∧ W1 (j + 1) k' H') ∧ ∀ x H', J1.yld j H x H' → g1 x (wipe σ2 vs1) H' fun σ3 H5 => wipe σ3 vs1 = wipe σ2 vs1 ∧
        tk σ3 H5 fun y H6 => tv σ3 H6 fun z H7 => ∃ kvs k, y = kV k ∧ H7 D = some (.dK kvs) ∧ kvs.length < sizeLine ∧ Nx1 (upd H7 D (.dK (putK kvs k z)))))
/-- a turn of the second clause does what its parts say -/
theorem dcStep_ok {Y : Cx} {σ : L2.St} {s : Shared} {kx vx t1 : Expr} {it D : Addr} {u : Value} {g1 : TG} {tk tv : TE} {P : L2.St → Prop} {N : Hp → Prop} {Qf : Shared → Prop}
    (hx : Y.xe = fun _ _ => False) (pg : PG Y t1 g1) (pk : PE Y kx tk) (pv : PE Y vx tv)
    (go : wpAny (model Y.prog Y.w) Y.A (letOwnedTupleGo t1 (.ref it) u) (fun _ s1 => ∃ x pins' H1, L2.Inv Y pins' σ H1 s1 ∧ RelV x u ∧ g1 x σ H1 (fun σ3 H5 => P σ3 ∧ tk σ3 H5 fun y H6 => tv σ3 H6 fun z H7 => ∃ kvs k, y = kV k ∧ H7 D = some (.dK kvs) ∧ kvs.length < sizeLine ∧ N (upd H7 D (.dK (putK kvs k z)))) ∧
      ∀ σ3 H' s2, P σ3 → L2.Inv Y pins' σ3 H' s2 → N H' → Qf s2) (fun _ _ => False) s) :
    wpAny (model Y.prog Y.w) Y.A (dcStep kx vx t1 (.ref it) u D Y.env) (fun _ s2 => Qf s2) (fun _ _ => False) s := by
  unfold dcStep
  refine wpAny_bind (thnF go fun _ s1 ⟨x, pins', H1, I1, r1, q1, fin⟩ => ?_)
  have z1 := pg.run pins' s1 σ H1 x u _ I1 r1 q1
  rw [hx] at z1
  refine wpAny_bind (thnF z1 fun _ s2 ⟨σ3, H5, I2, hp, q2⟩ => ?_)
  have z2 := pk.run pins' s2 σ3 H5 _ I2 q2
  rw [hx] at z2
  refine wpAny_bind (thnF z2 fun kv s3 ⟨y, H6, I3, r3, q3⟩ => ?_)
  have z3 := pv.run pins' s3 σ3 H6 _ I3 q3
  rw [hx] at z3
  refine wpAny_bind (wpAny_holding (thnF z3 fun vv s4 ⟨z, H7, I4, r4, kvs, k, ek, hD, hz, nn⟩ => ?_))
  subst ek
  refine wpAny_bind (wpAny_standAt (wpAny_holding ?_))
  exact d_dictSet I4 hD hz r3 r4 fun s5 I5 => fin σ3 _ s5 hp I5 nn
theorem dc2_core {pins : List (Addr × Obj)} {s : Shared} {σ : L2.St} {H : Hp} {Q : VK} {kx vx t0 i0 t1 i1 : Expr} {scope : Scope} {own : List (Str × Nat)} {vs1 : List Nat} {pos pos' : Pos} {wi wi1 : TI} {g g1 : TG} {tk tv : TE} {use : Option (Value → Sem Unit)} {Qf : Value → Shared → Prop}
    (hc : X.calm = true) (hN : X.N.Nodup) (I : L2.Inv X pins σ H s) (hi : PI X t0 i0 wi) (ok : BlkOk X.N X.env.scope scope own) (hv : ∀ i ∈ vs1, i ∈ own.map (·.2))
    (hg : ∀ (s : Shared) (H : Hp) (C : Addr) (cl : List (Str × Addr)) (fp : List Addr), PG (X.blk s H scope (compEnvC scope cl C X.env) fp) t0 g)
    (hi1 : ∀ (s : Shared) (H : Hp) (C : Addr) (cl : List (Str × Addr)) (fp : List Addr), PI (X.blk s H scope (compEnvC scope cl C X.env) fp) t1 i1 wi1)
    (hg1 : ∀ (s : Shared) (H : Hp) (C : Addr) (cl : List (Str × Addr)) (fp : List Addr), PG (X.blk s H scope (compEnvC scope cl C X.env) fp) t1 g1)
    (hk : ∀ (s : Shared) (H : Hp) (C : Addr) (cl : List (Str × Addr)) (fp : List Addr), PE (X.blk s H scope (compEnvC scope cl C X.env) fp) kx tk)
    (he : ∀ (s : Shared) (H : Hp) (C : Addr) (cl : List (Str × Addr)) (fp : List Addr), PE (X.blk s H scope (compEnvC scope cl C X.env) fp) vx tv)
    (hs : ∀ x, foldedSetIterable i0 X.env x = pure x) (hs1 : ∀ env x, foldedSetIterable i1 env x = pure x) (h : tDc2 wi g wi1 g1 tk tv (own.map (·.2)) vs1 σ H Q)
    (hRR : ∀ D C s' m H', L2.Inv X pins σ H' s' → Q (.ref D) H' → s'.heap.Ns C m → FpOk X pins H' C → compPost (model X.prog X.w) X.A X.xe use Qf (.ref D) C (.ok .next) s') :
    wpAny (model X.prog X.w) X.A (comprehension (dc2 kx vx t0 i0 t1 i1 scope pos) scope X.env pos' newDict false (eval i0 X.env) use) Qf X.xe s := by
  have hfree : ∀ y ∈ scope.names, y.2 = .free → ∃ c, X.env.cells.lookup y.1 = some c := fun y hy e => (ok.free y hy e).elim (fun k => I.ok.has _ (.inl k)) fun k => I.ok.has _ (.inr k)
  refine wpAny_comprehension_free (use := use) rfl hs (closure_ok hfree) ok.kind (fun y hy e => by rw [ok.uniq y hy, e]) (thn (hi.run pins s σ H _ I h) fun xv s1 hx => thn hx fun itv s2 h2 => ?_)
  obtain ⟨it, fp, tn, J, H2, e, I2, T, st2, f2, q⟩ := h2
  subst e
  refine wpAny_newObj_type (newEnv_comp ?_)
  generalize hD : s2.heap.objs.size = D
  obtain ⟨W, ⟨m0, w0⟩, turn⟩ := q D (I2.hok.fresh (Nat.le_of_eq hD))
  -- the new dict stands; the block's own context begins
  generalize hs3 : ({ s2 with heap := s2.heap.push { cls := .type "dict", data := .dict #[] } } : Shared) = s3
  have h3 : s3.heap = s2.heap.push { cls := .type "dict", data := .dict #[] } := by rw [← hs3]
  have I3 : L2.Inv X pins σ (upd H2 D (.dK [])) s3 := by
    rw [← hs3]
    refine I2.laid (t' := s2.toks) (fun b o e => Heap.get?_push_of_some _ e) (Nat.le_of_eq hD) ?_
    rw [← hD]
    exact dk_empty s2.heap I2.big
  have low : ∀ b ∈ fp, b < s2.heap.objs.size := fun b hb => let ⟨o, e, _⟩ := T.obj _ _ st2 b hb; Heap.lt_size e
  have f3 : ∀ b ∈ fp, FpOk X pins (upd H2 D (.dK [])) b ∧ b < s3.heap.objs.size := fun b hb => by
    refine ⟨⟨?_, (f2 b hb).2⟩, by rw [h3, Heap.size_push]; exact Nat.lt_succ_of_lt (low b hb)⟩
    rw [upd_ne (by rw [← hD]; exact Nat.ne_of_lt (low b hb))]
    exact (f2 b hb).1
  have st3 : tn 0 s3.heap := T.keep _ _ _ st2 fun b _ o e => by rw [h3]; exact Heap.get?_push_of_some _ e
  have I4 := block_start I3 ok hN f3
  generalize hH3 : upd H2 D (.dK []) = H3 at I3 I4 w0 f3
  have pg := hg s3 H3 s3.heap.objs.size (cellsFrom (s3.heap.objs.size + 1) scope.names (cloFrom X.env.cells scope.names [])) fp
  have pi1 := hi1 s3 H3 s3.heap.objs.size (cellsFrom (s3.heap.objs.size + 1) scope.names (cloFrom X.env.cells scope.names [])) fp
  have pg1 := hg1 s3 H3 s3.heap.objs.size (cellsFrom (s3.heap.objs.size + 1) scope.names (cloFrom X.env.cells scope.names [])) fp
  have pk := hk s3 H3 s3.heap.objs.size (cellsFrom (s3.heap.objs.size + 1) scope.names (cloFrom X.env.cells scope.names [])) fp
  have pe := he s3 H3 s3.heap.objs.size (cellsFrom (s3.heap.objs.size + 1) scope.names (cloFrom X.env.cells scope.names [])) fp
  show codeAny _ _ (.compStart (dc2 kx vx t0 i0 t1 i1 scope pos) 0 (.ref it) (.ref D) (compEnvC scope (cellsFrom (s3.heap.objs.size + 1) scope.names (cloFrom X.env.cells scope.names [])) s3.heap.objs.size X.env)) (compPost (model X.prog X.w) X.A X.xe use Qf (.ref D) s3.heap.objs.size) { s3 with heap := pushCells (s3.heap.push { cls := .type "dict", data := .dict #[] }) scope.names }
  generalize hce : compEnvC scope (cellsFrom (s3.heap.objs.size + 1) scope.names (cloFrom X.env.cells scope.names [])) s3.heap.objs.size X.env = ce at I4 pg pi1 pg1 pk pe ⊢
  have cL : ce.locals = s3.heap.objs.size := by subst hce; rfl
  generalize hs4 : ({ s3 with heap := pushCells (s3.heap.push { cls := .type "dict", data := .dict #[] }) scope.names } : Shared) = s4 at I4 ⊢
  have st4 : tn 0 s4.heap := T.keep _ _ _ st3 fun b _ o e => by rw [← hs4]; exact pushCells_keeps _ _ _ _ (Heap.get?_push_of_some _ e)
  have stat : ∀ {σ' : L2.St} {H' : Hp} {s' : Shared}, L2.Inv (X.blk s3 H3 scope ce fp) [] σ' H' s' → (∀ b ∈ fp, H' b = none) → ∀ b ∈ fp, FpOk (X.blk s3 H3 scope ce fp) [] H' b := fun {σ' H' s'} I' hn b hb =>
    ⟨hn b hb, (I'.ok.exf b hb).1, I'.ok.exfs b hb, .inl hb, fun x c e => (I'.ok.exf b hb).2 x c e, fun p hp => absurd (show p ∈ ([] : List (Addr × Obj)) ++ [] from hp) (by simp)⟩
  have loop : codeAny (model X.prog X.w) X.A (.compLoop (dc2 kx vx t0 i0 t1 i1 scope pos) 0 (.ref it) (.ref D) ce) (compPost (model X.prog X.w) X.A X.xe use Qf (.ref D) s3.heap.objs.size) s4 := by
    refine dcLoop_out (hs1 ce) (fun n s' => ∃ i H', L2.Inv (X.blk s3 H3 scope ce fp) [] (wipe σ (own.map (·.2))) H' s' ∧ tn i s'.heap ∧ (∀ b ∈ fp, H' b = none) ∧ W i n H') ?_ m0 ⟨0, H3, I4, st4, fun b hb => (f3 b hb).1.1, w0⟩
    rintro n s5 ⟨i, H5, I5, st5, n5, w5⟩
    rcases turn i n H5 w5 with ⟨stop, qq⟩ | ⟨go, Nx, hNx, step⟩
    · -- the outer walk's end: back in the def's own context
      refine thnF (T.done (X.blk s3 H3 scope ce fp) rfl rfl rfl hc i [] s5 _ H5 (fun _ _ => False) I5 (stat I5 n5) st5 stop) fun r s6 ⟨hr, I6⟩ => ?_
      subst hr
      have I7 : L2.Inv X pins σ H5 s6 := I3.call' (ch := fp) I6.os I6.base I6.hok I6.bare fun b hb => ⟨(f3 b hb).1.2.2.2.1, (f3 b hb).1.2.1, (f3 b hb).1.2.2.2.2.1, (f3 b hb).1.2.2.2.2.2⟩
      have nC : H5 s3.heap.objs.size = none := by
        have z : H5 ce.locals = none := I6.free
        rwa [cL] at z
      obtain ⟨m, hn, _⟩ := I6.loc
      have hn : s6.heap.Ns ce.locals m := hn
      rw [cL] at hn
      exact hRR D s3.heap.objs.size s6 m H5 I7 qq hn (I3.fpOk (Nat.le_refl _) nC)
    · -- an outer turn
      refine thnF (T.item (X.blk s3 H3 scope ce fp) rfl rfl rfl hc i [] s5 _ H5 (fun _ _ => False) I5 (stat I5 n5) st5 go) fun r s6 ⟨u, hr, h6⟩ => ?_
      subst hr
      refine thnF h6 fun _ s7 ⟨x, H7, I7, r7, y7, st7, n7⟩ => ?_
      refine thnF (pg.run _ s7 _ H7 x u _ (I7.pinned (stat I7 n7) (T.obj _ _ st7)) r7 (step x H7 y7)) fun _ s8 ⟨σ8, H8, I8, hw8, q8⟩ => ?_
      refine thnF (pi1.run _ s8 σ8 H8 _ I8 q8) fun xv s10 hx => thnF hx fun itv s11 h11 => ?_
      obtain ⟨it1, fp1, tn1, J1, H11, e1, I11, T1, st11, f11, W1, ⟨m1, w1⟩, turn1⟩ := h11
      subst e1
      have known : ∀ (j : Nat) v, (wipe σ (own.map (·.2)))[j]? = some (some v) → (wipe σ8 vs1)[j]? = some (some v) := fun j v e => by
        rw [← hw8] at e
        obtain ⟨e1, e2⟩ := wipe_some e
        rw [wipe_out fun z => e2 (hv j z)]
        exact e1
      have long : (wipe σ (own.map (·.2))).length = (wipe σ8 vs1).length := by rw [← hw8, wipe_length, wipe_length]
      have stat1 : ∀ {H' : Hp}, (∀ b ∈ fp1, H' b = none) → ∀ b ∈ fp1, FpOk (X.blk s3 H3 scope ce fp) ([] ++ pinsAt fp s7.heap) H' b := fun hn b hb => ⟨hn b hb, (f11 b hb).2⟩
      have loop1 : codeAny (model X.prog X.w) X.A (.compLoop (dc2 kx vx t0 i0 t1 i1 scope pos) 1 (.ref it1) (.ref D) ce)
          (fun r s' => match r with
            | .ok _ => ∃ m, m < n ∧ ∃ i H', L2.Inv (X.blk s3 H3 scope ce fp) [] (wipe σ (own.map (·.2))) H' s' ∧ tn i s'.heap ∧ (∀ b ∈ fp, H' b = none) ∧ W i m H'
            | .error _ => False) s11 := by
        refine dcLoop_in (fun k s' => ∃ j H', L2.Inv (X.blk s3 H3 scope ce fp) ([] ++ pinsAt fp s7.heap) (wipe σ8 vs1) H' s' ∧ tn1 j s'.heap ∧ (∀ b ∈ fp1, H' b = none) ∧ W1 j k H') ?_ m1 ⟨0, H11, I11.weak (wipe_length _ _) (fun j v e => (wipe_some e).1), st11, fun b hb => (f11 b hb).1, w1⟩
        rintro k s12 ⟨j, H12, I12, st12, n12, w12⟩
        rcases turn1 j k H12 w12 with ⟨stop1, nx1⟩ | ⟨go1, Nx1, hNx1, step1⟩
        · -- the inner walk's end: the outer turn's end
          refine thnF (T1.done (X.blk s3 H3 scope ce fp) rfl rfl rfl hc j _ s12 (wipe σ8 vs1) H12 (fun _ _ => False) I12 (stat1 n12) st12 stop1) fun r s13 ⟨hr, I13⟩ => ?_
          subst hr
          obtain ⟨m', hm, w'⟩ := hNx H12 nx1
          have pin' : ∀ b ∈ fp, ∀ o, s7.heap.get? b = some o → s13.heap.get? b = some o ∧ H12 b = none := fun b hb o e =>
            let z := I13.pin (b, o) (List.mem_append_right _ (List.mem_append_right _ (mem_pinsAt hb e)))
            ⟨z.1, z.2.1⟩
          refine ⟨m', hm, i + 1, H12, (I13.unpinned (pins := [])).weak long known, T.keep _ _ _ st7 fun b hb o e => (pin' b hb o e).1, fun b hb => ?_, w'⟩
          obtain ⟨o, e, _⟩ := T.obj _ _ st7 b hb
          exact (pin' b hb o e).2
        · -- an inner turn
          refine thnF (T1.item (X.blk s3 H3 scope ce fp) rfl rfl rfl hc j _ s12 (wipe σ8 vs1) H12 (fun _ _ => False) I12 (stat1 n12) st12 go1) fun r s13 ⟨u1, hr, h13⟩ => ?_
          subst hr
          refine dcStep_ok (Y := X.blk s3 H3 scope ce fp) (σ := wipe σ8 vs1) (P := fun σ3 => wipe σ3 vs1 = wipe σ8 vs1) (N := Nx1) rfl pg1 pk pe (thnF h13 fun _ s14 ⟨x1, H14, I14, r14, y14, st14, n14⟩ => ?_)
          refine ⟨x1, _, H14, I14.pinned (stat1 n14) (T1.obj _ _ st14), r14, step1 x1 H14 y14, fun σ3 H' s15 hp I15 nn => ?_⟩
          obtain ⟨k', hk', w'⟩ := hNx1 H' nn
          have pin1 : ∀ b ∈ fp1, ∀ o, s14.heap.get? b = some o → s15.heap.get? b = some o ∧ H' b = none := fun b hb o e =>
            let z := I15.pin (b, o) (List.mem_append_right _ (List.mem_append_right _ (mem_pinsAt hb e)))
            ⟨z.1, z.2.1⟩
          have e3 : wipe σ3 vs1 = wipe σ8 vs1 := hp
          refine ⟨k', hk', j + 1, H', ((I15.unpinned (pins := [] ++ pinsAt fp s7.heap)).weak ?_ fun a v e => ?_), T1.keep _ _ _ st14 fun b hb o e => (pin1 b hb o e).1, fun b hb => ?_, w'⟩
          · rw [← e3, wipe_length]
          · rw [← e3] at e
            exact (wipe_some e).1
          · obtain ⟨o, e, _⟩ := T1.obj _ _ st14 b hb
            exact (pin1 b hb o e).2
      exact dcStart_in loop1 (T1.self X.A 0 _ _ _ st11 loop1)
  exact codeAny_compStart_dict loop (T.self X.A 0 _ _ _ st4 loop)
/-- as a value -/
theorem pe_dc2 {kx vx t0 i0 t1 i1 : Expr} {scope : Scope} {own : List (Str × Nat)} {vs1 : List Nat} {pos : Pos} {wi wi1 : TI} {g g1 : TG} {tk tv : TE}
    (hc : X.calm = true) (hN : X.N.Nodup) (hi : PI X t0 i0 wi) (ok : BlkOk X.N X.env.scope scope own)
    (hg : ∀ (s : Shared) (H : Hp) (C : Addr) (cl : List (Str × Addr)) (fp : List Addr), PG (X.blk s H scope (compEnvC scope cl C X.env) fp) t0 g)
    (hi1 : ∀ (s : Shared) (H : Hp) (C : Addr) (cl : List (Str × Addr)) (fp : List Addr), PI (X.blk s H scope (compEnvC scope cl C X.env) fp) t1 i1 wi1)
    (hg1 : ∀ (s : Shared) (H : Hp) (C : Addr) (cl : List (Str × Addr)) (fp : List Addr), PG (X.blk s H scope (compEnvC scope cl C X.env) fp) t1 g1)
    (hk : ∀ (s : Shared) (H : Hp) (C : Addr) (cl : List (Str × Addr)) (fp : List Addr), PE (X.blk s H scope (compEnvC scope cl C X.env) fp) kx tk)
    (he : ∀ (s : Shared) (H : Hp) (C : Addr) (cl : List (Str × Addr)) (fp : List Addr), PE (X.blk s H scope (compEnvC scope cl C X.env) fp) vx tv)
    (hv : ∀ i ∈ vs1, i ∈ own.map (·.2) := by decide)
    (hs : ∀ x, foldedSetIterable i0 X.env x = pure x := by intro _; rfl) (hs1 : ∀ env x, foldedSetIterable i1 env x = pure x := by intro _ _; rfl) :
    PE X (.DictComp kx vx [⟨t0, i0, [], 0⟩, ⟨t1, i1, [], 0⟩] scope pos) (tDc2 wi g wi1 g1 tk tv (own.map (·.2)) vs1) := by
  refine ⟨fun pins s σ H Q I h => ?_⟩
  rw [arm_eval_DictComp]
  refine dc2_core hc hN I hi ok hv hg hi1 hg1 hk he hs hs1 h fun D C s' m H' I' q hn f => ⟨m, hn, fun h'' sb => ?_⟩
  obtain ⟨f0, f1, f2, f3, f4, f5⟩ := f
  exact ⟨.ref D, H', I'.turned (t' := s'.toks) (fun b o hb e => (sb.2 b hb).trans e) f0 f1 f3 f4 f5, rfl, q⟩
end
end K8
/-! K8Fn: what the walks share. -/
namespace K8
open PySem PySem.Spec PyProof.Rows L2
structure Bl (mg : Str → Option Value) : Prop where
  len : mg "len" = none
  range : mg "range" = none
  list : mg "list" = none
  tuple : mg "tuple" = none
  int : mg "int" = none
  str : mg "str" = none
  min : mg "min" = none
  max : mg "max" = none
  sorted : mg "sorted" = none
  any : mg "any" = none
  isinstance : mg "isinstance" = none
  bool : mg "bool" = none
theorem hu1 {A : Around} {k : Nat} (hr : Room k A) : A.units + 1 < cLine := hu_of hr
theorem hu2 {A : Around} {k : Nat} (hr : Room k A) : A.units + 64 < cLine := hr.units
theorem szn {n : Nat} (h : n ≤ 100000) : n ≤ sizeLine := Nat.le_trans h (by decide)
theorem szl {n : Nat} (h : n ≤ 100000) : n < sizeLine := Nat.lt_of_le_of_lt h (by decide)

theorem sz1 {x : V} : [x].length ≤ sizeLine := szn (show 1 ≤ 100000 by decide)
theorem sz2 {x y : V} : [x, y].length ≤ sizeLine := szn (show 2 ≤ 100000 by decide)
theorem sz3 {x y z : V} : [x, y, z].length ≤ sizeLine := szn (show 3 ≤ 100000 by decide)
theorem sz4 {x y z u : V} : [x, y, z, u].length ≤ sizeLine := szn (show 4 ≤ 100000 by decide)
theorem sz5 {x y z u t : V} : [x, y, z, u, t].length ≤ sizeLine := szn (show 5 ≤ 100000 by decide)
/-! ### what is kept -/
def Kp (M : Addr → Prop) (H H' : Hp) : Prop := ∀ a u, ¬ M a → H a = some u → H' a = some u
def NoM : Addr → Prop := fun _ => False
theorem Same.kp {M : Addr → Prop} {H H' : Hp} (e : Same H H') : Kp M H H' := fun a u _ h => e a u h
theorem Kp.same {H H' : Hp} (e : Kp NoM H H') : Same H H' := fun a u h => e a u id h
theorem Kp.refl {M : Addr → Prop} {H : Hp} : Kp M H H := fun _ _ _ h => h
theorem Kp.trans {M : Addr → Prop} {H H1 H2 : Hp} (a : Kp M H H1) (b : Kp M H1 H2) : Kp M H H2 := fun x u n h => b x u n (a x u n h)
theorem Kp.mut {M : Addr → Prop} {H H' : Hp} {p : Addr} {o : HO} (e : Kp M H H') (h : H p = none) : Kp M H (upd H' p o) := fun a u n ha => by
  rw [upd_ne (ne_of_none ha h)]
  exact e a u n ha
theorem Same.rfl' {H : Hp} : Same H H := fun _ _ h => h
def NoSeq (M : Addr → Prop) (H : Hp) : Prop := ∀ a, M a → ∀ xs, ¬ Rd H a (.lst xs) ∧ ¬ Rd H a (.tup xs)
theorem rd_kp_l {M : Addr → Prop} {H H' : Hp} {a : Addr} {xs : List V} (z : NoSeq M H) (e : Kp M H H') (h : Rd H a (.lst xs)) : Rd H' a (.lst xs) := by
  have nm : ¬ M a := fun m => (z a m xs).1 h
  rcases h with h | ⟨o, h⟩
  · exact .inl (e _ _ nm h)
  · exact .inr ⟨o, e _ _ nm h⟩
theorem rd_kp_t {M : Addr → Prop} {H H' : Hp} {a : Addr} {xs : List V} (z : NoSeq M H) (e : Kp M H H') (h : Rd H a (.tup xs)) : Rd H' a (.tup xs) := by
  have nm : ¬ M a := fun m => (z a m xs).2 h
  rcases h with h | ⟨o, h⟩
  · exact .inl (e _ _ nm h)
  · exact .inr ⟨o, e _ _ nm h⟩
theorem kp_l {M : Addr → Prop} {K : PySem.W.Frag} {H H' : Hp} {a : Addr} {xs : List V} (z : NoSeq M H) (e : Kp M H H') (h : SqL K H a xs) : SqL K H' a xs := by
  rcases h with h | h
  · exact .inl (rd_kp_l z e h)
  · exact .inr h
theorem kp_t {M : Addr → Prop} {K : PySem.W.Frag} {H H' : Hp} {a : Addr} {xs : List V} (z : NoSeq M H) (e : Kp M H H') (h : SqT K H a xs) : SqT K H' a xs := by
  rcases h with h | h
  · exact .inl (rd_kp_t z e h)
  · exact .inr h
mutual
theorem dp_kp {M : Addr → Prop} {K : PySem.W.Frag} {H H' : Hp} (z : NoSeq M H) (e : Kp M H H') : ∀ (d : PyData) (v : V), Dp K H v d → Dp K H' v d
  | .none, _, h => by cases h; exact .non
  | .bool b, _, h => by cases h; exact .bl b
  | .int i, _, h => by cases h; exact .int i
  | .str x, _, h => by cases h; exact .str x
  | .list ds, _, h => by
    cases h with
    | lst hs ha => exact .lst (kp_l z e hs) (dpAll_kp z e ds _ ha)
  | .tuple ds, _, h => by
    cases h with
    | tup hs ha => exact .tup (kp_t z e hs) (dpAll_kp z e ds _ ha)
  | .dict _, _, h => by cases h
theorem dpAll_kp {M : Addr → Prop} {K : PySem.W.Frag} {H H' : Hp} (z : NoSeq M H) (e : Kp M H H') : ∀ (ds : List PyData) (vs : List V), DpAll K H vs ds → DpAll K H' vs ds
  | [], _, h => by cases h; exact .nil
  | d :: ds, _, h => by
    cases h with
    | cons h1 h2 => exact .cons (dp_kp z e d _ h1) (dpAll_kp z e ds _ h2)
end
theorem DpL.kp {M : Addr → Prop} {K : PySem.W.Frag} {H H' : Hp} {α : Type} {e : α → PyData} {vs : List V} {xs : List α} (z : NoSeq M H) (s : Kp M H H') (h : DpL K H e vs xs) : DpL K H' e vs xs := Paired.mapP h fun v x q => dp_kp z s _ v q
def atA (d : Addr) : Addr → Prop := fun a => a = d
theorem ns_ext {H : Hp} {d : Addr} {φ : Heap → Prop} (h : Rd H d (.ext φ)) : NoSeq (atA d) H := fun a m xs => by
  have m' : a = d := m
  subst m'
  rcases h with h | ⟨o, h⟩ <;> refine ⟨fun q => ?_, fun q => ?_⟩ <;> rcases q with q | ⟨o', q⟩ <;> rw [h] at q <;> cases q
theorem ns_dK {H : Hp} {d : Addr} {kvs : List (Key × V)} (h : Rd H d (.dK kvs)) : NoSeq (atA d) H := fun a m xs => by
  have m' : a = d := m
  subst m'
  rcases h with h | ⟨o, h⟩ <;> refine ⟨fun q => ?_, fun q => ?_⟩ <;> rcases q with q | ⟨o', q⟩ <;> rw [h] at q <;> cases q
theorem kp_upd {H : Hp} {d : Addr} {o : HO} : Kp (atA d) H (upd H d o) := fun a u n h => by
  rw [upd_ne (fun e => n e)]
  exact h
/-- what may change (M) and what stands of it (Z) -/
structure Env2 (M : Addr → Prop) (Z : Hp → Prop) : Prop where
  ns : ∀ {H : Hp}, Z H → NoSeq M H
  st : ∀ {H0 H : Hp} {D : Addr} {o : HO}, Z H0 → H0 D = none → Z H → Z (upd H D o)
  sm : ∀ {H H' : Hp}, Z H → Same H H' → Z H'
def TrueH : Hp → Prop := fun _ => True
theorem env0 : Env2 NoM TrueH := ⟨fun _ _ m => False.elim m, fun _ _ _ => trivial, fun _ _ => trivial⟩

/-! ### lists or tuples alike -/
mutual
def ld : PyData → PyData
  | .tuple ds => .list (ldAll ds)
  | .none => .none
  | .bool b => .bool b
  | .int i => .int i
  | .str x => .str x
  | .list ds => .list ds
  | .dict ds => .dict ds
def ldAll : List PyData → List PyData
  | [] => []
  | d :: ds => ld d :: ldAll ds
end
def Fm (K : PySem.W.Frag) (H : Hp) (v : V) (d : PyData) : Prop := Dp K H v d ∨ Dp K H v (ld d)
theorem Fm.kp {M : Addr → Prop} {K : PySem.W.Frag} {H H' : Hp} {v : V} {d : PyData} (z : NoSeq M H) (s : Kp M H H') (h : Fm K H v d) : Fm K H' v d := h.elim (fun h => .inl (dp_kp z s _ _ h)) fun h => .inr (dp_kp z s _ _ h)
theorem Fm.same {K : PySem.W.Frag} {H H' : Hp} {v : V} {d : PyData} (s : Same H H') (h : Fm K H v d) : Fm K H' v d := h.elim (fun h => .inl (dp_same s _ _ h)) fun h => .inr (dp_same s _ _ h)
abbrev FmL (K : PySem.W.Frag) (H : Hp) {α : Type} (e : α → PyData) : List V → List α → Prop := Paired fun v x => Fm K H v (e x)
theorem FmL.same {K : PySem.W.Frag} {H H' : Hp} {α : Type} {e : α → PyData} {vs : List V} {xs : List α} (s : Same H H') (h : FmL K H e vs xs) : FmL K H' e vs xs := Paired.mapP h fun v x q => q.same s
theorem FmL.of {K : PySem.W.Frag} {H : Hp} {α : Type} {e : α → PyData} {vs : List V} {xs : List α} (h : DpL K H e vs xs) : FmL K H e vs xs := Paired.mapP h fun v x q => .inl q
theorem FmL.of_ld {K : PySem.W.Frag} {H : Hp} {α : Type} {e : α → PyData} : ∀ {vs : List V} {xs : List α}, DpAll K H vs (ldAll (xs.map e)) → FmL K H e vs xs
  | vs, [], h => by
    have h' : DpAll K H vs [] := h
    cases h'
    exact .nil
  | vs, x :: xs, h => by
    have h' : DpAll K H vs (ld (e x) :: ldAll (xs.map e)) := h
    cases h' with
    | cons h1 h2 => exact .cons (.inr h1) (FmL.of_ld h2)
theorem FmL.len {K : PySem.W.Frag} {H : Hp} {α : Type} {e : α → PyData} {vs : List V} {xs : List α} (h : FmL K H e vs xs) : vs.length = xs.length := Paired.length h
theorem FmL.get {K : PySem.W.Frag} {H : Hp} {α : Type} {e : α → PyData} {vs : List V} {xs : List α} (h : FmL K H e vs xs) {i : Nat} {v : V} (hv : vs[i]? = some v) : ∃ x, xs[i]? = some x ∧ Fm K H v (e x) := paired_get h hv
theorem fm_tup {K : PySem.W.Frag} {H : Hp} {α : Type} {e : α → PyData} {v : V} {xs : List α} (h : Fm K H v (.tuple (xs.map e))) : ∃ a vs, v = .ref a ∧ SqA K H a vs ∧ FmL K H e vs xs := by
  rcases h with h | h
  · obtain ⟨a, vs, rfl, h1, h2⟩ := dp_tup_inv h
    exact ⟨a, vs, rfl, .inr h1, .of h2⟩
  · have h' : Dp K H v (.list (ldAll (xs.map e))) := h
    cases h' with
    | lst hs ha => exact ⟨_, _, rfl, .inl hs, FmL.of_ld ha⟩
theorem fm_pair {K : PySem.W.Frag} {H : Hp} {v : V} {d e : PyData} (h : Fm K H v (.tuple [d, e])) : ∃ a x y, v = .ref a ∧ SqA K H a [x, y] ∧ Fm K H x d ∧ Fm K H y e := by
  rcases h with h | h
  · obtain ⟨a, x, y, rfl, h1, h2, h3⟩ := dp_pair_inv h
    exact ⟨a, x, y, rfl, .inr h1, .inl h2, .inl h3⟩
  · have h' : Dp K H v (.list [ld d, ld e]) := h
    cases h' with
    | lst hs ha =>
      cases ha with
      | cons h1 h2 =>
        cases h2 with
        | cons h3 h4 =>
          cases h4
          exact ⟨_, _, _, rfl, .inl hs, .inr h1, .inr h3⟩
theorem fm_int {K : PySem.W.Frag} {H : Hp} {v : V} {i : Int} (h : Fm K H v (.int i)) : v = .int i := h.elim dp_int_inv dp_int_inv
theorem fm_str {K : PySem.W.Frag} {H : Hp} {v : V} {x : Str} (h : Fm K H v (.str x)) : v = .str x := h.elim dp_str_inv dp_str_inv
theorem sqa_len {K : PySem.W.Frag} {X : Cx} {pins : List (Addr × Obj)} {σ : L2.St} {H : Hp} {s : Shared} {a : Addr} {xs : List V} (I : L2.Inv X pins σ H s) (h : SqA X.K H a xs) : xs.length ≤ sizeLine := by
  rcases h with h | h
  · obtain ⟨_, _, _, z⟩ := I.list h
    exact z
  · obtain ⟨_, _, _, z⟩ := I.tuple h
    exact z

theorem paired_snoc {α β : Type} {F : α → β → Prop} : ∀ {as : List α} {bs : List β} {a : α} {b : β}, Paired F as bs → F a b → Paired F (as ++ [a]) (bs ++ [b])
  | _, _, _, _, .nil, h => .cons h .nil
  | _, _, _, _, .cons q t, h => .cons q (paired_snoc t h)
theorem paired_self : ∀ xs : List Str, Paired (fun (v : V) (x : Str) => v = V.str x) (xs.map V.str) xs
  | [] => .nil
  | x :: xs => .cons rfl (paired_self xs)
/-! ### [.. for ..] -/
section
variable {J : It} {n : Nat} {G : Hp → Prop} {Y : Nat → Hp → V → Hp → Prop} {M : Addr → Prop} {Z : Hp → Prop} {β : Type}
theorem lc_gen (w : Walk J n G Y) (N2 : Env2 M Z) {g : TG} {tt : TT} {te : TE} {vs : List Nat} {σ : L2.St} {H0 : Hp} {Q : Addr → Hp → Prop} (hz : Z H0) (hG : ∀ H, Kp M H0 H → Z H → G H) (e' : Addr → Hp → V → β → Prop)
    (mono : ∀ D H H' y z, Z H → Kp M H H' → e' D H y z → e' D H' y z) (cl : ∀ D H ws ws' y z, H0 D = none → H D = some (.lst ws) → e' D H y z → e' D (upd H D (.lst ws')) y z) (Iv : Nat → List β → Prop) (h0 : Iv 0 []) (hl : n ≤ 100000)
    (step : ∀ D i x H H' zs ws (Ry : V → Hp → Prop) (Rn : Hp → Prop), H0 D = none → i < n → Iv i zs → H D = some (.lst ws) → Paired (e' D H) ws zs → Kp M H0 H → Z H → Y i H x H' → (∀ y H4 z, Kp M H H4 → Z H4 → e' D H4 y z → Iv (i + 1) (zs ++ [z]) → Ry y H4) → (∀ H3, Kp M H H3 → Z H3 → Iv (i + 1) zs → Rn H3) →
      g x (wipe σ vs) H' fun σ2 H2 => wipe σ2 vs = wipe σ vs ∧ tt σ2 H2 fun b H3 => if b = true then te σ2 H3 Ry else Rn H3)
    (fin : ∀ D ws zs H, H0 D = none → Kp M H0 H → Z H → H D = some (.lst ws) → Paired (e' D H) ws zs → Iv n zs → Q D H) :
    ∀ D, H0 D = none → ∃ W : Nat → Nat → Hp → Prop, (∃ m, W 0 m (upd H0 D (.lst []))) ∧ ∀ i m H, W i m H →
      (J.stop i H ∧ Q D H) ∨ (J.go i H ∧ ∃ Nx : Hp → Prop, (∀ H', Nx H' → ∃ m', m' < m ∧ W (i + 1) m' H') ∧ ∀ x H', J.yld i H x H' → g x (wipe σ vs) H' fun σ2 H2 => wipe σ2 vs = wipe σ vs ∧ tt σ2 H2 fun b H3 =>
        if b = true then te σ2 H3 fun y H4 => ∃ acc, H4 D = some (.lst acc) ∧ acc.length < sizeLine ∧ Nx (upd H4 D (.lst (acc ++ [y]))) else Nx H3) := by
  intro D hD
  have nM : ∀ {H : Hp} {ws : List V}, Z H → H D = some (.lst ws) → ¬ M D := fun {H ws} z e m => (N2.ns z D m ws).1 (.inl e)
  refine lc_it (H1 := H0) (D := D) w (fun i H => ∃ ws zs, Kp M H0 H ∧ Z H ∧ H D = some (.lst ws) ∧ ws.length ≤ i ∧ Paired (e' D H) ws zs ∧ Iv i zs) ⟨[], [], Kp.refl.mut hD, N2.st hz hD hz, upd_same, Nat.le_refl _, .nil, h0⟩ ?_ ?_ ?_
  · rintro i H _ ⟨ws, zs, k, z, _⟩
    exact hG H k z
  · rintro i x H H' hi ⟨ws, zs, k, z, hw, hlen, hp, iv⟩ y
    refine step D i x H H' zs ws _ _ hD hi iv hw hp k z y (fun y H4 u k4 z4 e4 iv4 => ?_) (fun H3 k3 z3 iv3 => ?_)
    · have hw4 : H4 D = some (.lst ws) := k4 D _ (nM z hw) hw
      refine ⟨ws, hw4, szl (by omega), ws ++ [y], zs ++ [u], (k.trans k4).mut hD, N2.st hz hD z4, upd_same, ?_, ?_, iv4⟩
      · rw [List.length_append]
        exact Nat.succ_le_succ hlen
      · exact Paired.mapP (paired_snoc (Paired.mapP hp fun v u q => mono _ _ _ _ _ z k4 q) e4) fun v u q => cl D H4 ws _ v u hD hw4 q
    · exact ⟨ws, zs, k.trans k3, z3, k3 D _ (nM z hw) hw, Nat.le_succ_of_le hlen, Paired.mapP hp fun v u q => mono _ _ _ _ _ z k3 q, iv3⟩
  · rintro H ⟨ws, zs, k, z, hw, hlen, hp, iv⟩
    exact fin D ws zs H hD k z hw hp iv
end
/-! ### data without lists stay while a list grows -/
mutual
def nol : PyData → Bool
  | .tuple ds => nolAll ds
  | .list _ => false
  | .none => true
  | .bool _ => true
  | .int _ => true
  | .str _ => true
  | .dict _ => false
def nolAll : List PyData → Bool
  | [] => true
  | d :: ds => nol d && nolAll ds
end
theorem nolAll_map {α : Type} {e : α → PyData} (h : ∀ x, nol (e x) = true) : ∀ xs : List α, nolAll (xs.map e) = true
  | [] => rfl
  | x :: xs => by
    show (nol (e x) && nolAll (xs.map e)) = true
    rw [h x, nolAll_map h xs]
    rfl
theorem nol_pair (p : Str × Nat) : nol (ePair p) = true := rfl
theorem nol_mono (m : Mono) : nol (eMono m) = true := nolAll_map nol_pair m
theorem nol_term (t : Mono × Nat) : nol (eTerm t) = true := by
  show (nol (eMono t.1) && true) = true
  rw [nol_mono]
  rfl
theorem nol_poly (p : Poly) : nol (ePoly p) = true := nolAll_map nol_term p
theorem t_upd_lst {K : PySem.W.Frag} {H : Hp} {a D : Addr} {xs ws ws' : List V} (hD : H D = some (.lst ws)) (h : SqT K H a xs) : SqT K (upd H D (.lst ws')) a xs := by
  rcases h with (h | ⟨o, h⟩) | h
  · refine .inl (.inl ?_)
    rw [upd_ne (ne_of h hD (by intro z; cases z))]
    exact h
  · refine .inl (.inr ⟨o, ?_⟩)
    rw [upd_ne (ne_of h hD (by intro z; cases z))]
    exact h
  · exact .inr h
mutual
theorem dp_upd_lst {K : PySem.W.Frag} {H : Hp} {D : Addr} {ws ws' : List V} (hD : H D = some (.lst ws)) : ∀ (d : PyData) (v : V), nol d = true → Dp K H v d → Dp K (upd H D (.lst ws')) v d
  | .none, _, _, h => by cases h; exact .non
  | .bool b, _, _, h => by cases h; exact .bl b
  | .int i, _, _, h => by cases h; exact .int i
  | .str x, _, _, h => by cases h; exact .str x
  | .list ds, _, n, _ => by simp [nol] at n
  | .tuple ds, _, n, h => by
    cases h with
    | tup hs ha => exact .tup (t_upd_lst hD hs) (dpAll_upd_lst hD ds _ (by simpa [nol] using n) ha)
  | .dict _, _, _, h => by cases h
theorem dpAll_upd_lst {K : PySem.W.Frag} {H : Hp} {D : Addr} {ws ws' : List V} (hD : H D = some (.lst ws)) : ∀ (ds : List PyData) (vs : List V), nolAll ds = true → DpAll K H vs ds → DpAll K (upd H D (.lst ws')) vs ds
  | [], _, _, h => by cases h; exact .nil
  | d :: ds, _, n, h => by
    have n' : nol d = true ∧ nolAll ds = true := by simpa [nolAll] using n
    cases h with
    | cons h1 h2 => exact .cons (dp_upd_lst hD d _ n'.1 h1) (dpAll_upd_lst hD ds _ n'.2 h2)
end
theorem DpL.upd_lst {K : PySem.W.Frag} {H : Hp} {D : Addr} {ws ws' : List V} {α : Type} {e : α → PyData} {vs : List V} {xs : List α} (hD : H D = some (.lst ws)) (hn : ∀ x, nol (e x) = true) (h : DpL K H e vs xs) : DpL K (upd H D (.lst ws')) e vs xs :=
  Paired.mapP h fun v x q => dp_upd_lst hD _ v (hn x) q
section
variable {J : It} {n : Nat} {G : Hp → Prop} {Y : Nat → Hp → V → Hp → Prop} {M : Addr → Prop} {Z : Hp → Prop} {β : Type} {K : PySem.W.Frag}
/-- items that are data without lists, made one by one -/
theorem lc_dat (w : Walk J n G Y) (N2 : Env2 M Z) {g : TG} {tt : TT} {te : TE} {vs : List Nat} {σ : L2.St} {H0 : Hp} {Q : Addr → Hp → Prop} (hz : Z H0) (hG : ∀ H, Kp M H0 H → Z H → G H) (e : β → PyData) (hn : ∀ z, nol (e z) = true) (Iv : Nat → List β → Prop) (h0 : Iv 0 []) (hl : n ≤ 100000)
    (step : ∀ i x H H' zs (Ry : V → Hp → Prop) (Rn : Hp → Prop), i < n → Iv i zs → Kp M H0 H → Z H → Y i H x H' → (∀ y H4 z, Kp M H H4 → Z H4 → Dp K H4 y (e z) → Iv (i + 1) (zs ++ [z]) → Ry y H4) → (∀ H3, Kp M H H3 → Z H3 → Iv (i + 1) zs → Rn H3) →
      g x (wipe σ vs) H' fun σ2 H2 => wipe σ2 vs = wipe σ vs ∧ tt σ2 H2 fun b H3 => if b = true then te σ2 H3 Ry else Rn H3)
    (fin : ∀ D ws zs H, H0 D = none → Kp M H0 H → Z H → H D = some (.lst ws) → DpL K H e ws zs → Iv n zs → Q D H) :
    ∀ D, H0 D = none → ∃ W : Nat → Nat → Hp → Prop, (∃ m, W 0 m (upd H0 D (.lst []))) ∧ ∀ i m H, W i m H →
      (J.stop i H ∧ Q D H) ∨ (J.go i H ∧ ∃ Nx : Hp → Prop, (∀ H', Nx H' → ∃ m', m' < m ∧ W (i + 1) m' H') ∧ ∀ x H', J.yld i H x H' → g x (wipe σ vs) H' fun σ2 H2 => wipe σ2 vs = wipe σ vs ∧ tt σ2 H2 fun b H3 =>
        if b = true then te σ2 H3 fun y H4 => ∃ acc, H4 D = some (.lst acc) ∧ acc.length < sizeLine ∧ Nx (upd H4 D (.lst (acc ++ [y]))) else Nx H3) :=
  lc_gen w N2 hz hG (fun _ H y z => Dp K H y (e z)) (fun _ H H' y z hz k q => dp_kp (N2.ns hz) k _ _ q) (fun _ H ws ws' y z _ hD q => dp_upd_lst hD _ _ (hn z) q) Iv h0 hl
    (fun D i x H H' zs ws Ry Rn _ hi iv _ _ k z y ry rn => step i x H H' zs Ry Rn hi iv k z y ry rn) fin
/-- a map of the items of a sequence whose data stand -/
theorem lc_map {us : List V} {α : Type} {xs : List α} {ev : Hp → V → α → Prop} (w : Walk J us.length G (YAt us)) {g : TG} {tt : TT} {te : TE} {vs : List Nat} {σ : L2.St} {H0 : Hp} {Q : Addr → Hp → Prop} (hG : ∀ H, Same H0 H → G H) (hp : Paired (ev H0) us xs) (e : β → PyData) (hn : ∀ z, nol (e z) = true) (f : α → β) (hl : xs.length ≤ 100000)
    (step : ∀ v x H (Ry : V → Hp → Prop) (Rn : Hp → Prop), x ∈ xs → ev H0 v x → Same H0 H → (∀ y H4, Same H H4 → Dp K H4 y (e (f x)) → Ry y H4) →
      g v (wipe σ vs) H fun σ2 H2 => wipe σ2 vs = wipe σ vs ∧ tt σ2 H2 fun b H3 => if b = true then te σ2 H3 Ry else Rn H3)
    (fin : ∀ D ws H, H0 D = none → Same H0 H → H D = some (.lst ws) → DpL K H e ws (xs.map f) → Q D H) :
    ∀ D, H0 D = none → ∃ W : Nat → Nat → Hp → Prop, (∃ m, W 0 m (upd H0 D (.lst []))) ∧ ∀ i m H, W i m H →
      (J.stop i H ∧ Q D H) ∨ (J.go i H ∧ ∃ Nx : Hp → Prop, (∀ H', Nx H' → ∃ m', m' < m ∧ W (i + 1) m' H') ∧ ∀ x H', J.yld i H x H' → g x (wipe σ vs) H' fun σ2 H2 => wipe σ2 vs = wipe σ vs ∧ tt σ2 H2 fun b H3 =>
        if b = true then te σ2 H3 fun y H4 => ∃ acc, H4 D = some (.lst acc) ∧ acc.length < sizeLine ∧ Nx (upd H4 D (.lst (acc ++ [y]))) else Nx H3) := by
  refine lc_dat (K := K) w env0 (H0 := H0) trivial (fun H k _ => hG H k.same) e hn (fun i zs => zs = (xs.take i).map f) rfl (by rw [Paired.length hp]; exact hl) ?_ ?_
  · rintro i v H H' zs Ry Rn hi rfl k _ ⟨rfl, hv⟩ ry _
    obtain ⟨x, hx, q⟩ := paired_get hp hv
    refine step v x H' Ry Rn (List.mem_of_getElem? hx) q k.same fun y H4 s4 d4 => ry y H4 (f x) (Same.kp s4) trivial d4 ?_
    show (xs.take i).map f ++ [f x] = (xs.take (i + 1)).map f
    rw [List.take_add_one, hx, List.map_append]
    rfl
  · rintro D ws zs H hD k _ hw hd rfl
    refine fin D ws H hD k.same hw ?_
    rw [Paired.length hp, List.take_length] at hd
    exact hd
end
/-- a walked list or tuple that stands since H -/
theorem iseq_base {K : PySem.W.Frag} {H H1 : Hp} {a : Addr} {xs : List V} {R : It → Hp → Prop} (h : SqA K H a xs) (s1 : Same H H1) (hR : ∀ (J : It) (G : Hp → Prop), Walk J xs.length G (YAt xs) → (∀ H', Same H H' → G H') → R J H1) :
    (∃ xs, SqL K H1 a xs) ∧ R (Itl K a) H1 ∨ (∃ xs, SqT K H1 a xs) ∧ R (Itt K a) H1 := by
  rcases h with h | h
  · exact .inl ⟨⟨xs, same_l s1 h⟩, hR _ _ walk_list fun H' e => same_l e h⟩
  · exact .inr ⟨⟨xs, same_t s1 h⟩, hR _ _ walk_tup fun H' e => same_t e h⟩
theorem iseq_kp {K : PySem.W.Frag} {M : Addr → Prop} {H H1 : Hp} {a : Addr} {xs : List V} {R : It → Hp → Prop} (z : NoSeq M H) (h : SqA K H a xs) (s1 : Kp M H H1) (hR : ∀ (J : It) (G : Hp → Prop), Walk J xs.length G (YAt xs) → (∀ H', Kp M H H' → G H') → R J H1) :
    (∃ xs, SqL K H1 a xs) ∧ R (Itl K a) H1 ∨ (∃ xs, SqT K H1 a xs) ∧ R (Itt K a) H1 := by
  rcases h with h | h
  · exact .inl ⟨⟨xs, kp_l z s1 h⟩, hR _ _ walk_list fun H' e => kp_l z e h⟩
  · exact .inr ⟨⟨xs, kp_t z s1 h⟩, hR _ _ walk_tup fun H' e => kp_t z e h⟩
/-- for .. in a list or a tuple that stands since H0 -/
theorem for_seq {K : PySem.W.Frag} {M : Addr → Prop} {H0 H : Hp} {a : Addr} {xs : List V} (z : NoSeq M H0) (h : SqA K H0 a xs) {g : TG} {tb : TS} {D : Ends} {σ : L2.St} (Pv : Nat → L2.St → Hp → Prop) (h0 : Pv 0 σ H) (hG : ∀ i σ H, i ≤ xs.length → Pv i σ H → Kp M H0 H)
    (hs : ∀ i x σ H, i < xs.length → Pv i σ H → xs[i]? = some x → g x σ H fun σ2 H2 => tb { D with nx := Pv (i + 1), ct := Pv (i + 1), bk := D.nx } σ2 H2) (hd : ∀ σ H, Pv xs.length σ H → D.nx σ H) :
    (∃ xs, SqL K H a xs) ∧ (∃ W : Nat → Nat → L2.St → Hp → Prop, (∃ m, W 0 m σ H) ∧ ∀ i m σ H, W i m σ H →
      ((Itl K a).stop i H ∧ D.nx σ H) ∨ ((Itl K a).go i H ∧ ∃ N : L2.St → Hp → Prop, (∀ σ' H', N σ' H' → ∃ m', m' < m ∧ W (i + 1) m' σ' H') ∧ ∀ x H', (Itl K a).yld i H x H' → g x σ H' fun σ2 H2 => tb { D with nx := N, ct := N, bk := D.nx } σ2 H2)) ∨
    (∃ xs, SqT K H a xs) ∧ (∃ W : Nat → Nat → L2.St → Hp → Prop, (∃ m, W 0 m σ H) ∧ ∀ i m σ H, W i m σ H →
      ((Itt K a).stop i H ∧ D.nx σ H) ∨ ((Itt K a).go i H ∧ ∃ N : L2.St → Hp → Prop, (∀ σ' H', N σ' H' → ∃ m', m' < m ∧ W (i + 1) m' σ' H') ∧ ∀ x H', (Itt K a).yld i H x H' → g x σ H' fun σ2 H2 => tb { D with nx := N, ct := N, bk := D.nx } σ2 H2)) := by
  have k := hG 0 σ H (Nat.zero_le _) h0
  rcases h with h | h
  · exact .inl ⟨⟨xs, kp_l z k h⟩, for_it walk_list Pv h0 (fun i σ H hi p => kp_l z (hG i σ H hi p) h) (fun i x σ H H' hi p y => by rw [y.1]; exact hs i x σ H hi p y.2) hd⟩
  · exact .inr ⟨⟨xs, kp_t z k h⟩, for_it walk_tup Pv h0 (fun i σ H hi p => kp_t z (hG i σ H hi p) h) (fun i x σ H H' hi p y => by rw [y.1]; exact hs i x σ H hi p y.2) hd⟩
/-- [.. for .. in a list or a tuple] -/
theorem lc_seq {K : PySem.W.Frag} {β : Type} {H0 H1 : Hp} {a : Addr} {us : List V} {α : Type} {xs : List α} {ev : Hp → V → α → Prop} {g : TG} {tt : TT} {te : TE} {vs : List Nat} {σ : L2.St} {Q : Addr → Hp → Prop} (h : SqA K H0 a us) (s1 : Same H0 H1) (hp : Paired (ev H1) us xs) (e : β → PyData) (hn : ∀ z, nol (e z) = true) (f : α → β) (hl : xs.length ≤ 100000)
    (step : ∀ v x H (Ry : V → Hp → Prop) (Rn : Hp → Prop), x ∈ xs → ev H1 v x → Same H1 H → (∀ y H4, Same H H4 → Dp K H4 y (e (f x)) → Ry y H4) →
      g v (wipe σ vs) H fun σ2 H2 => wipe σ2 vs = wipe σ vs ∧ tt σ2 H2 fun b H3 => if b = true then te σ2 H3 Ry else Rn H3)
    (fin : ∀ D ws H, H1 D = none → Same H1 H → H D = some (.lst ws) → DpL K H e ws (xs.map f) → Q D H) :
    (∃ xs, SqL K H1 a xs) ∧ (∀ D, H1 D = none → ∃ W : Nat → Nat → Hp → Prop, (∃ m, W 0 m (upd H1 D (.lst []))) ∧ ∀ i m H, W i m H →
      ((Itl K a).stop i H ∧ Q D H) ∨ ((Itl K a).go i H ∧ ∃ Nx : Hp → Prop, (∀ H', Nx H' → ∃ m', m' < m ∧ W (i + 1) m' H') ∧ ∀ x H', (Itl K a).yld i H x H' → g x (wipe σ vs) H' fun σ2 H2 => wipe σ2 vs = wipe σ vs ∧ tt σ2 H2 fun b H3 =>
        if b = true then te σ2 H3 fun y H4 => ∃ acc, H4 D = some (.lst acc) ∧ acc.length < sizeLine ∧ Nx (upd H4 D (.lst (acc ++ [y]))) else Nx H3)) ∨
    (∃ xs, SqT K H1 a xs) ∧ (∀ D, H1 D = none → ∃ W : Nat → Nat → Hp → Prop, (∃ m, W 0 m (upd H1 D (.lst []))) ∧ ∀ i m H, W i m H →
      ((Itt K a).stop i H ∧ Q D H) ∨ ((Itt K a).go i H ∧ ∃ Nx : Hp → Prop, (∀ H', Nx H' → ∃ m', m' < m ∧ W (i + 1) m' H') ∧ ∀ x H', (Itt K a).yld i H x H' → g x (wipe σ vs) H' fun σ2 H2 => wipe σ2 vs = wipe σ vs ∧ tt σ2 H2 fun b H3 =>
        if b = true then te σ2 H3 fun y H4 => ∃ acc, H4 D = some (.lst acc) ∧ acc.length < sizeLine ∧ Nx (upd H4 D (.lst (acc ++ [y]))) else Nx H3)) := by
  rcases h with h | h
  · exact .inl ⟨⟨us, same_l s1 h⟩, lc_map (K := K) walk_list (fun H' e => same_l (fun x u h => e x u (s1 x u h)) h) hp e hn f hl step fin⟩
  · exact .inr ⟨⟨us, same_t s1 h⟩, lc_map (K := K) walk_tup (fun H' e => same_t (fun x u h => e x u (s1 x u h)) h) hp e hn f hl step fin⟩
theorem nsN {H : Hp} : NoSeq NoM H := fun _ m => False.elim m
theorem same_trans {H H1 H2 : Hp} (a : Same H H1) (b : Same H1 H2) : Same H H2 := fun x u h => b x u (a x u h)
end K8
/-! K8Tab: dicts keyed by texts as tables; dict comprehensions over a sequence. -/
namespace K8
open PySem PySem.Spec PyProof.Rows L2
/-- a table whose keys are texts, as the layer's dict -/
def tK {β : Type} (f : β → V) (kvs : List (Str × β)) : List (Key × V) := kvs.map fun p => (Sum.inr p.1, f p.2)
theorem tK_len {β : Type} {f : β → V} {kvs : List (Str × β)} : (tK f kvs).length = kvs.length := List.length_map ..
theorem tK_val {β : Type} {f : β → V} (x : Str) : ∀ kvs : List (Str × β), valV (tK f kvs) (Sum.inr x) = (get? kvs x).map f
  | [] => rfl
  | p :: r => by
    show valV ((Sum.inr p.1, f p.2) :: tK f r) (Sum.inr x) = _
    by_cases e : p.1 = x
    · rw [valV_pos (by rw [e]), get?_pos e]
      rfl
    · rw [valV_neg (by intro z; exact e (Sum.inr.inj z)), get?_neg e]
      exact tK_val x r
theorem tK_any {β : Type} {f : β → V} (x : Str) (kvs : List (Str × β)) : ((tK f kvs).any fun kv => decide (kv.1 = Sum.inr x)) = (kvs.any fun kv => decide (kv.1 = x)) := by
  rw [valV_any, tK_val, any_key, ← get?_isSome]
  cases get? kvs x <;> rfl
theorem tK_put {β : Type} {f : β → V} (x : Str) (b : β) (kvs : List (Str × β)) : putK (tK f kvs) (Sum.inr x) (f b) = tK f (put kvs x b) := by
  unfold putK put
  rw [tK_any]
  by_cases a : (kvs.any fun kv => decide (kv.1 = x)) = true
  · rw [if_pos a, if_pos a]
    unfold tK
    rw [List.map_map, List.map_map]
    refine List.map_congr_left fun p _ => ?_
    show (if (Sum.inr p.1 : Key) = Sum.inr x then (Sum.inr p.1, f b) else (Sum.inr p.1, f p.2)) = (Sum.inr (if p.1 = x then (p.1, b) else p).1, f (if p.1 = x then (p.1, b) else p).2)
    by_cases e : p.1 = x
    · rw [if_pos (by rw [e]), if_pos e]
    · rw [if_neg (by intro z; exact e (Sum.inr.inj z)), if_neg e]
  · rw [if_neg a, if_neg a]
    unfold tK
    rw [List.map_append]
    rfl
def ofK (ps : List (Key × V)) : List (Key × V) := ps.foldl (fun acc p => putK acc p.1 p.2) []
theorem ofK_go {β : Type} {f : β → V} : ∀ (ps acc : List (Str × β)), (tK f ps).foldl (fun acc p => putK acc p.1 p.2) (tK f acc) = tK f (ps.foldl (fun acc p => put acc p.1 p.2) acc)
  | [], _ => rfl
  | p :: ps, acc => by
    show (tK f ps).foldl (fun acc p => putK acc p.1 p.2) (putK (tK f acc) (Sum.inr p.1) (f p.2)) = _
    rw [tK_put]
    exact ofK_go ps _
theorem ofK_tK {β : Type} {f : β → V} (ps : List (Str × β)) : ofK (tK f ps) = tK f (ofPairs ps) := ofK_go ps []
theorem isD_of {H : Hp} {d : Addr} {kvs : List (Key × V)} (h : H d = some (.dK kvs)) : IsD H d := .inl ⟨kvs, .inl h⟩
theorem putK_len (kvs : List (Key × V)) (k : Key) (v : V) : (putK kvs k v).length ≤ kvs.length + 1 := by
  unfold putK
  split
  · rw [List.length_map]
    omega
  · rw [List.length_append]
    exact Nat.le_refl _
theorem get?_getD_int (kvs : List (Str × Nat)) (x : Str) : ((valV (tK (fun n => V.int ((n : Nat) : Int)) kvs) (Sum.inr x)).getD (.int 0)) = .int (((get? kvs x).getD 0 : Nat) : Int) := by
  rw [tK_val]
  cases get? kvs x <;> rfl
abbrev natV : Nat → V := fun n => .int ((n : Nat) : Int)
/-- {.. for ..} -/
theorem dc_walk {J : It} {us : List V} {G : Hp → Prop} (wk : Walk J us.length G (YAt us)) {α : Type} {xs : List α} {ev : Hp → V → α → Prop} {g : TG} {tt : TT} {tk tv : TE} {vs : List Nat} {σ : L2.St} {H1 : Hp} {Q : Addr → Hp → Prop} (hG : ∀ H, Same H1 H → G H) (hp : Paired (ev H1) us xs) (kf : α → Key) (f : α → V) (hl : xs.length ≤ 100000)
    (step : ∀ v x H (Ry : V → V → Hp → Prop) (Rn : Hp → Prop), x ∈ xs → ev H1 v x → Same H1 H → (∀ H5, Same H H5 → Ry (kV (kf x)) (f x) H5) →
      g v (wipe σ vs) H fun σ2 H2 => wipe σ2 vs = wipe σ vs ∧ tt σ2 H2 fun b H3 => if b = true then tk σ2 H3 fun y H4 => tv σ2 H4 fun z H5 => Ry y z H5 else Rn H3)
    (fin : ∀ D H, H1 D = none → Same H1 H → H D = some (.dK (ofK (xs.map fun x => (kf x, f x)))) → Q D H) :
    ∀ D, H1 D = none → ∃ W : Nat → Nat → Hp → Prop, (∃ m, W 0 m (upd H1 D (.dK []))) ∧ ∀ i m H, W i m H →
      (J.stop i H ∧ Q D H) ∨ (J.go i H ∧ ∃ Nx : Hp → Prop, (∀ H', Nx H' → ∃ m', m' < m ∧ W (i + 1) m' H') ∧ ∀ x H', J.yld i H x H' → g x (wipe σ vs) H' fun σ2 H2 => wipe σ2 vs = wipe σ vs ∧ tt σ2 H2 fun b H3 =>
        if b = true then tk σ2 H3 fun y H4 => tv σ2 H4 fun z H5 => ∃ kvs k, y = kV k ∧ H5 D = some (.dK kvs) ∧ kvs.length < sizeLine ∧ Nx (upd H5 D (.dK (putK kvs k z))) else Nx H3) := by
  intro D hD
  have lx := Paired.length hp
  refine ⟨fun i m H => m = us.length - i ∧ i ≤ us.length ∧ Same H1 H ∧ (ofK ((xs.take i).map fun x => (kf x, f x))).length ≤ i ∧ H D = some (.dK (ofK ((xs.take i).map fun x => (kf x, f x)))), ⟨us.length, by simp, Nat.zero_le _, Same.new hD, Nat.le_refl _, upd_same⟩, ?_⟩
  rintro i m H ⟨rfl, hi, s1, hlen, hd⟩
  by_cases hlt : i < us.length
  · refine .inr ⟨wk.goes i H hlt (hG H s1), fun H' => Same H1 H' ∧ (ofK ((xs.take (i + 1)).map fun x => (kf x, f x))).length ≤ i + 1 ∧ H' D = some (.dK (ofK ((xs.take (i + 1)).map fun x => (kf x, f x)))), fun H' q => ⟨us.length - (i + 1), by omega, rfl, hlt, q⟩, fun v H' y => ?_⟩
    obtain ⟨rfl, hv⟩ := wk.yields i H v H' hlt (hG H s1) y
    obtain ⟨x, hx, q⟩ := paired_get hp hv
    refine step v x H' _ _ (List.mem_of_getElem? hx) q s1 fun H5 s5 => ⟨_, _, rfl, s5 _ _ hd, szl (by omega), ?_⟩
    have e : ofK ((xs.take (i + 1)).map fun x => (kf x, f x)) = putK (ofK ((xs.take i).map fun x => (kf x, f x))) (kf x) (f x) := by
      rw [List.take_add_one, hx, List.map_append]
      unfold ofK
      rw [List.foldl_append]
      rfl
    refine ⟨Same.mut (same_trans s1 s5) hD, ?_, ?_⟩
    · rw [e]
      have := putK_len (ofK ((xs.take i).map fun x => (kf x, f x))) (kf x) (f x)
      omega
    · rw [e]
      exact upd_same
  · have e : i = us.length := by omega
    subst e
    refine .inl ⟨wk.stops H (hG H s1), fin D H hD s1 ?_⟩
    rw [lx, List.take_length] at hd
    exact hd
theorem dc_seq {K : PySem.W.Frag} {H0 H1 : Hp} {a : Addr} {us : List V} {α : Type} {xs : List α} {ev : Hp → V → α → Prop} {g : TG} {tt : TT} {tk tv : TE} {vs : List Nat} {σ : L2.St} {Q : Addr → Hp → Prop} (h : SqA K H0 a us) (s1 : Same H0 H1) (hp : Paired (ev H1) us xs) (kf : α → Key) (f : α → V) (hl : xs.length ≤ 100000)
    (step : ∀ v x H (Ry : V → V → Hp → Prop) (Rn : Hp → Prop), x ∈ xs → ev H1 v x → Same H1 H → (∀ H5, Same H H5 → Ry (kV (kf x)) (f x) H5) →
      g v (wipe σ vs) H fun σ2 H2 => wipe σ2 vs = wipe σ vs ∧ tt σ2 H2 fun b H3 => if b = true then tk σ2 H3 fun y H4 => tv σ2 H4 fun z H5 => Ry y z H5 else Rn H3)
    (fin : ∀ D H, H1 D = none → Same H1 H → H D = some (.dK (ofK (xs.map fun x => (kf x, f x)))) → Q D H) :
    (∃ xs, SqL K H1 a xs) ∧ (∀ D, H1 D = none → ∃ W : Nat → Nat → Hp → Prop, (∃ m, W 0 m (upd H1 D (.dK []))) ∧ ∀ i m H, W i m H →
      ((Itl K a).stop i H ∧ Q D H) ∨ ((Itl K a).go i H ∧ ∃ Nx : Hp → Prop, (∀ H', Nx H' → ∃ m', m' < m ∧ W (i + 1) m' H') ∧ ∀ x H', (Itl K a).yld i H x H' → g x (wipe σ vs) H' fun σ2 H2 => wipe σ2 vs = wipe σ vs ∧ tt σ2 H2 fun b H3 =>
        if b = true then tk σ2 H3 fun y H4 => tv σ2 H4 fun z H5 => ∃ kvs k, y = kV k ∧ H5 D = some (.dK kvs) ∧ kvs.length < sizeLine ∧ Nx (upd H5 D (.dK (putK kvs k z))) else Nx H3)) ∨
    (∃ xs, SqT K H1 a xs) ∧ (∀ D, H1 D = none → ∃ W : Nat → Nat → Hp → Prop, (∃ m, W 0 m (upd H1 D (.dK []))) ∧ ∀ i m H, W i m H →
      ((Itt K a).stop i H ∧ Q D H) ∨ ((Itt K a).go i H ∧ ∃ Nx : Hp → Prop, (∀ H', Nx H' → ∃ m', m' < m ∧ W (i + 1) m' H') ∧ ∀ x H', (Itt K a).yld i H x H' → g x (wipe σ vs) H' fun σ2 H2 => wipe σ2 vs = wipe σ vs ∧ tt σ2 H2 fun b H3 =>
        if b = true then tk σ2 H3 fun y H4 => tv σ2 H4 fun z H5 => ∃ kvs k, y = kV k ∧ H5 D = some (.dK kvs) ∧ kvs.length < sizeLine ∧ Nx (upd H5 D (.dK (putK kvs k z))) else Nx H3)) := by
  rcases h with h | h
  · exact .inl ⟨⟨us, same_l s1 h⟩, dc_walk walk_list (fun H' e => same_l (same_trans s1 e) h) hp kf f hl step fin⟩
  · exact .inr ⟨⟨us, same_t s1 h⟩, dc_walk walk_tup (fun H' e => same_t (same_trans s1 e) h) hp kf f hl step fin⟩
section
variable {X : Cx}
/-- name = {.. for ..} on one line, the name a local -/
theorem ps_setDc {i : Nat} {y : Str} {py : Pos} {kx vx tg iter : Expr} {ifs : List Expr} {scope : Scope} {own : List (Str × Nat)} {pos spos : Pos} {wi : TI} {g : TG} {tt : TT} {tk tv : TE} (hc : X.calm = true) (hN : X.N.Nodup) (hy : X.N[i]? = some y) (hyl : X.env.scope.names.lookup y = some .local)
    (hsw : swapsWith (.DictComp kx vx [⟨tg, iter, ifs, 0⟩] scope pos) (some (.Name y py)) spos.line X.env = pure true) (hi : PI X tg iter wi) (ok : BlkOk X.N X.env.scope scope own)
    (hg : ∀ (s : Shared) (H : Hp) (C : Addr) (cl : List (Str × Addr)) (fp : List Addr), PG (X.blk s H scope (compEnvC scope cl C X.env) fp) tg g) (ht : ∀ (s : Shared) (H : Hp) (C : Addr) (cl : List (Str × Addr)) (fp : List Addr), PTs (X.blk s H scope (compEnvC scope cl C X.env) fp) ifs tt)
    (hk : ∀ (s : Shared) (H : Hp) (C : Addr) (cl : List (Str × Addr)) (fp : List Addr), PE (X.blk s H scope (compEnvC scope cl C X.env) fp) kx tk)
    (he : ∀ (s : Shared) (H : Hp) (C : Addr) (cl : List (Str × Addr)) (fp : List Addr), PE (X.blk s H scope (compEnvC scope cl C X.env) fp) vx tv) (hs : ∀ x, foldedSetIterable iter X.env x = pure x := by intro _; rfl) :
    PS X (.Assign [.Name y py] (.DictComp kx vx [⟨tg, iter, ifs, 0⟩] scope pos) spos) (tAsg (tDc wi g tt tk tv (own.map (·.2))) (gName i)) := by
  refine ⟨fun pins s σ H D I h => ?_⟩
  rw [exec_Assign_Name_used _ _ _ _ hsw]
  refine wpAny_bind (wpAny_standAt (wpAny_bind ?_))
  show wpAny _ X.A (do let _ ← comprehension (.DictComp kx vx [⟨tg, iter, ifs, 0⟩] scope pos) scope X.env (firstIterPos [⟨tg, iter, ifs, 0⟩] pos) newDict false (eval iter X.env) (some (assign (.Name y py) X.env))) _ _ s
  have h : tDc wi g tt tk tv (own.map (·.2)) σ H (fun x H1 => gName i x σ H1 D.nx) := h
  refine wpAny_bind (thn (dc_core (Qf := fun _ s' => SP X pins D .next s') hc hN I hi ok hg ht hk he hs h fun L C s' m H' I' q hn f => ?_) fun _ s' hq => wpAny_pure (wpAny_pure hq))
  show wpAny _ _ (assign (.Name y py) X.env (.ref L)) _ _ _
  refine wpAny_assign_Name (store_ok2 (v := V.ref L) I' hN hy (.inl hyl) rfl (fun s2 I2 ⟨a, sb, ha⟩ => ?_) (.inr hyl))
  obtain ⟨f0, f1, f2, f3, f4, f5⟩ := f
  have haC : C ≠ a := by
    rcases ha with z | z
    · rw [z]
      exact f1
    · exact fun e => f4 y a z e.symm
  refine ⟨m, hn.sameBut sb haC, fun h3 sb3 => ?_⟩
  exact ⟨_, H', I2.turned (t' := s2.toks) (fun b o hb e => (sb3.2 b hb).trans e) f0 f1 f3 f4 f5, q⟩
theorem sw_trueD {kx vx : Expr} {gs : List Comprehension} {scope : Scope} {pos py : Pos} {y : Str} {l : Nat} {env : Env} (hk : env.scope.kind = .function) (hy : env.scope.names.lookup y = some .local) (hl : (py.line == pos.line) = true)
    (ha : (scope.names.any fun (n, k) => n == y && (k == .local || k == .cell)) = false) : swapsWith (.DictComp kx vx gs scope pos) (some (.Name y py)) l env = pure true := by
  have ky : env.kindOf y = some .local := hy
  have hb : env.blockKind = .function := by unfold Env.blockKind; rw [hk]; rfl
  unfold swapsWith
  simp only [hb, ky, ha, Expr.pos, hl]
  rfl
end
/-- a + b of tuples, whichever object the answer is -/
def rCatU (K : PySem.W.Frag) : R2 := fun x y H Q => ∃ a b xs ys, x = .ref a ∧ y = .ref b ∧ SqT K H a xs ∧ SqT K H b ys ∧ xs.length + ys.length ≤ 100000 ∧ ∀ r H', Same H H' → SqT K H' r (xs ++ ys) → Q (.ref r) H'
theorem op_catU {X : Cx} : OpR X (binaryOp .Add) (rCatU X.K) := by
  intro pins s σ H x y v u Q I rx ry h
  obtain ⟨a, b, xs, ys, rfl, rfl, ha, hb, hz, q⟩ := h
  refine op_catA pins s σ H _ _ v u Q I rx ry ⟨a, b, xs, ys, rfl, rfl, ha, hb, szn hz, fun e => ?_, fun _ e => ?_, fun _ _ p hp => q p _ (Same.new hp) (.inl (.inl upd_same))⟩
  · subst e
    exact q b H Same.rfl' hb
  · subst e
    exact q a H Same.rfl' (by rw [List.append_nil]; exact ha)
/-- tuple(x) of a list or a tuple -/
def rTupU (K : PySem.W.Frag) : List V → Hp → VK → Prop := fun xs H Q => ∃ p ys, xs = [.ref p] ∧ SqA K H p ys ∧ ∀ r H', Same H H' → SqT K H' r ys → Q (.ref r) H'
theorem call_tuple_u {X : Cx} : CallR X (.type "tuple") (rTupU X.K) := by
  intro pins s σ H vs us Q I r h
  obtain ⟨p, ys, rfl, ha, q⟩ := h
  rcases ha with ha | ha
  · exact call_tuple_of pins s σ H _ us Q I r ⟨p, ys, rfl, .inl ⟨ha, fun l hl => q l _ (Same.new hl) (.inl (.inl upd_same))⟩⟩
  · exact call_tuple_of pins s σ H _ us Q I r ⟨p, ys, rfl, .inr ⟨ha, q p H Same.rfl' ha⟩⟩
theorem ofPairs_keys {β : Type} : ∀ (ps acc : List (Str × β)), (∀ k, k ∈ keys (ps.foldl (fun acc p => put acc p.1 p.2) acc) ↔ k ∈ keys ps ∨ k ∈ keys acc) ∧ ((keys acc).Nodup → (keys (ps.foldl (fun acc p => put acc p.1 p.2) acc)).Nodup)
  | [], acc => ⟨fun k => ⟨.inr, fun h => h.elim (fun z => by simp [keys] at z) id⟩, id⟩
  | p :: ps, acc => by
    obtain ⟨h1, h2⟩ := ofPairs_keys ps (put acc p.1 p.2)
    refine ⟨fun k => ?_, fun nd => h2 (nodup_put nd _ _)⟩
    show k ∈ keys (ps.foldl _ (put acc p.1 p.2)) ↔ _
    rw [h1, mem_keys_put]
    show _ ↔ k ∈ p.1 :: keys ps ∨ _
    rw [List.mem_cons]
    constructor
    · rintro (h | h | h)
      · exact .inl (.inr h)
      · exact .inl (.inl h)
      · exact .inr h
    · rintro ((h | h) | h)
      · exact .inr (.inl h)
      · exact .inl h
      · exact .inr (.inr h)
end K8
/-! K8F1: frozen. -/
namespace K8
open PySem PySem.Spec PyProof.Rows L2
section
variable {P : Program} {w : World} {K : PySem.W.Frag} {mg : Str → Option Value} {base : Heap}
abbrev n_d_frozen : List Str := ["p", "terms", "monomial", "coefficient", "token", "exponent"]
theorem sc_d_frozen : FnScope n_d_frozen ["p"] (defScope s_d_frozen) := ⟨rfl, rfl, rfl, by decide +kernel, rfl, by decide +kernel, by decide +kernel⟩

def spFrozen (K : PySem.W.Frag) : Sp := fun vs H Q _ => ∃ (v : V) (p : Poly), vs = [v] ∧ Fm K H v (ePoly p) ∧ p.length ≤ 1000 ∧ (∀ t ∈ p, t.1.length ≤ 1000) ∧ ∀ v' H', Same H H' → Dp K H' v' (ePoly p) → Q v' H'
theorem ok_frozen {f : Addr} {fd : FuncData} (B : Bl mg) (F : FnP K "frozen" s_d_frozen f fd) (hm : mg "frozen" = some (.ref f)) : Cal P w K mg base 1 "frozen" ["p"] (spFrozen K) := by
  refine cal_mk F (F.ok sc_d_frozen (fun vs H Q E h => ?_) (fun cdv A outer s H vs Q E hr h => ?_)) hm (fun _ _ _ _ _ _ us hl => match us, hl with | [_], _ => rfl) (fun _ _ _ _ _ _ us hl => match us, hl with | [_], _ => rfl)
  · obtain ⟨v, p, rfl, _⟩ := h
    rfl
  · obtain ⟨v, p, rfl, hp, hl, hml, q⟩ := h
    refine ⟨_, PSs.nox (pss_cons (ps_set (i := 1) sc_d_frozen.nd rfl (.inl rfl) (pe_lst pa_nil)) (pss_cons (ps_for PassesOwn.never rfl (pi_seq (pv 0)) (pg_seq rfl (pgs_cons (pg_name (i := 2) sc_d_frozen.nd rfl (.inl rfl)) (pgs_cons (pg_name (i := 3) sc_d_frozen.nd rfl (.inl rfl)) pgs_nil))) (pss_one (ps_expr (pe_bm PySem.F.plainAttrs_list PySem.F.slot_list_append PySem.F.type_list_append mt_append (pv 1) (pa_cons (pe_tup (pa_cons (pe_callTy call_tuple_of (by rfl) B.tuple (by decide +kernel) (pa_cons (pe_lc (own := [("token", 4), ("exponent", 5)]) (g := (gSeq K 2 _)) (tt := _) (te := _) rfl sc_d_frozen.nd (pi_seq (pv 2)) (blkOk_by (N := n_d_frozen) (sc := defScope s_d_frozen) (by decide +kernel)) (fun _ _ _ _ _ => (pg_seq rfl (pgs_cons (pg_name (i := 4) sc_d_frozen.nd rfl (.inl rfl) (by first | exact .inl rfl | exact .inr rfl)) (pgs_cons (pg_name (i := 5) sc_d_frozen.nd rfl (.inl rfl) (by first | exact .inl rfl | exact .inr rfl)) pgs_nil)))) (fun _ _ _ _ _ => pts_nil) (fun _ _ _ _ _ => (pe_tup (pa_cons (pv 4) (pa_cons (pv 5) pa_nil))))) pa_nil)) (pa_cons (pv 3) pa_nil))) pa_nil))))) (pss_one (ps_ret (pe_callTy call_tuple_of (by rfl) B.tuple (by decide +kernel) (pa_cons (pv 1) pa_nil)))))), ?_⟩
    obtain ⟨a, us, rfl, ha, hu⟩ := fm_tup hp
    refine ⟨Nat.zero_le _, fun o no => ?_⟩
    have s1 : Same H (upd H o (.lst [])) := Same.new no
    refine ⟨_, rfl, a, rfl, for_seq (M := NoM) nsN ha (fun i σ H' => ∃ y2 y3 y4 y5 ws, σ = [some (.ref a), some (.ref o), y2, y3, y4, y5] ∧ Same H H' ∧ H' o = some (.lst ws) ∧ DpL K H' eTerm ws (p.take i)) ⟨none, none, none, none, [], rfl, s1, upd_same, .nil⟩ ?_ ?_ ?_⟩
    · rintro i σ H' _ ⟨_, _, _, _, _, _, s2, _⟩
      exact Same.kp s2
    · rintro i x σ H' hi ⟨y2, y3, y4, y5, ws, rfl, s2, ho, hws⟩ hx
      obtain ⟨t, ht, hf⟩ := hu.get hx
      obtain ⟨b, x1, x2, rfl, hb, f1, f2⟩ := fm_pair hf
      obtain rfl := fm_int f2
      have tm := hml t (List.mem_of_getElem? ht)
      refine ⟨b, _, rfl, same_a s2 hb, rfl, _, _, rfl, _, _, rfl, rfl, ?_⟩
      obtain ⟨c, us1, rfl, hc, hu1⟩ := fm_tup f1
      refine ⟨_, rfl, .inl ⟨rfl, _, .inl (.inl ho)⟩, _, rfl, c, rfl, lc_seq (K := K) (xs := t.1) (ev := fun H v x => Fm K H v (ePair x)) hc s2 (hu1.same s2) ePair nol_pair id (by omega) ?_ ?_⟩
      · rintro v x H3 Ry Rn _ hv s3 ry
        obtain ⟨d, z1, z2, rfl, hd, g1, g2⟩ := fm_pair hv
        obtain rfl := fm_str g1
        obtain rfl := fm_int g2
        refine ⟨d, _, rfl, same_a s3 hd, rfl, _, _, rfl, _, _, rfl, rfl, rfl, _, rfl, _, rfl, sz2, fun p hp => ry _ _ (Same.new hp) ?_⟩
        exact dp_pair (.inl (.inl upd_same)) (.str _) (.int _)
      · rintro D ws1 H3 hD s3 hw3 hd3
        rw [List.map_id] at hd3
        refine ⟨D, ws1, rfl, .inl ⟨.inl (.inl hw3), fun T hT => ?_⟩⟩
        refine ⟨_, rfl, sz2, fun U hU => ?_⟩
        have sT : Same H3 (upd H3 T (.tup ws1)) := Same.new hT
        have sU := Same.new (o := .tup [.ref T, .int (t.2 : Int)]) hU
        have sA := same_trans s3 (same_trans sT sU)
        have hTd : Dp K (upd H3 T (.tup ws1)) (.ref T) (eMono t.1) := dp_tup (.inl (.inl upd_same)) (hd3.same sT)
        have hUd := dp_pair (K := K) (.inl (.inl (upd_same (H := upd H3 T (.tup ws1)) (a := U) (o := .tup [.ref T, .int (t.2 : Int)])))) (dp_same sU _ _ hTd) (.int _)
        have hoU := sA _ _ ho
        have no' : o ≠ U := ne_of_none (sT _ _ (s3 _ _ ho)) hU
        refine ⟨o, ws, _, rfl, rfl, hoU, ?_, ?_⟩
        · have := hws.len
          rw [List.length_take] at this
          exact szl (by omega)
        refine ⟨_, _, _, _, ws ++ [.ref U], rfl, Same.mut (same_trans s2 sA) no, upd_same, ?_⟩
        rw [List.take_add_one, ht]
        refine DpL.upd_lst hoU nol_term ?_
        exact (hws.same sA).snoc hUd
    · rintro σ H' ⟨y2, y3, y4, y5, ws, rfl, s2, ho, hws⟩
      rw [hu.len, List.take_length] at hws
      refine ⟨_, rfl, o, ws, rfl, .inl ⟨.inl (.inl ho), fun T hT => ?_⟩⟩
      exact q _ _ (same_trans s2 (Same.new hT)) (dp_tup (.inl (.inl upd_same)) (hws.same (Same.new hT)))
end
end K8
/-! K8F2: monomial_product, need_figures. -/
namespace K8
open PySem PySem.Spec PyProof.Rows L2
section
variable {P : Program} {w : World} {K : PySem.W.Frag} {mg : Str → Option Value} {base : Heap}
theorem depth_pair (p : Str × Nat) : (encPair.e p).depth ≤ 8 := by
  show (ePair p).depth ≤ 8
  unfold ePair
  simp [PyData.depth, PyData.depthAll]
theorem depthAll_le {α : Type} {e : α → PyData} {n : Nat} (h : ∀ x, (e x).depth ≤ n) : ∀ xs : List α, PyData.depthAll (xs.map e) ≤ n
  | [] => Nat.zero_le _
  | x :: xs => by
    have a := h x
    have b := depthAll_le h xs
    show PyData.depthAll (e x :: xs.map e) ≤ n
    simp only [PyData.depthAll]
    omega
theorem depth_pair1 (p : Str × Nat) : (ePair p).depth ≤ 1 := by
  unfold ePair
  simp [PyData.depth, PyData.depthAll]
theorem depth_mono (m : Mono) : (eMono m).depth ≤ 2 := by
  have h := depthAll_le depth_pair1 m
  show PyData.depth (.tuple (m.map ePair)) ≤ 2
  simp only [PyData.depth]
  omega
theorem depth_term (t : Mono × Nat) : (encTerm.e t).depth ≤ 8 := by
  have h := depth_mono t.1
  show PyData.depth (.tuple [eMono t.1, .int t.2]) ≤ 8
  simp only [PyData.depth, PyData.depthAll]
  omega
theorem items_dp {H : Hp} : ∀ {ts : List Addr} {kvs : List (Str × Nat)}, Paired (fun (t : Addr) (q : Key × V) => H t = some (.tup [kV q.1, q.2])) ts (tK natV kvs) → DpL K H encPair.e (ts.map V.ref) kvs
  | ts, [], h => by
    have h' : Paired (fun (t : Addr) (q : Key × V) => H t = some (.tup [kV q.1, q.2])) ts [] := h
    cases h'
    exact .nil
  | ts, p :: kvs, h => by
    have h' : Paired (fun (t : Addr) (q : Key × V) => H t = some (.tup [kV q.1, q.2])) ts ((Sum.inr p.1, natV p.2) :: tK natV kvs) := h
    cases h' with
    | cons h1 h2 => exact .cons (dp_pair (.inl (.inl h1)) (.str _) (.int _)) (items_dp h2)
theorem dp_mono_inv {H : Hp} {v : V} {m : Mono} (h : Dp K H v (eMono m)) : ∃ a us, v = .ref a ∧ SqT K H a us ∧ DpL K H ePair us m := dp_tup_inv h
theorem dp_poly_inv {H : Hp} {v : V} {p : Poly} (h : Dp K H v (ePoly p)) : ∃ a us, v = .ref a ∧ SqT K H a us ∧ DpL K H eTerm us p := dp_tup_inv h
theorem dp_pr_inv {H : Hp} {v : V} {p : Str × Nat} (h : Dp K H v (ePair p)) : ∃ a, v = .ref a ∧ SqT K H a [.str p.1, .int p.2] := by
  obtain ⟨a, x, y, rfl, h1, h2, h3⟩ := dp_pair_inv h
  obtain rfl := dp_str_inv h2
  obtain rfl := dp_int_inv h3
  exact ⟨a, rfl, h1⟩
theorem dp_term_inv {H : Hp} {v : V} {t : Mono × Nat} (h : Dp K H v (eTerm t)) : ∃ a x, v = .ref a ∧ SqT K H a [x, .int t.2] ∧ Dp K H x (eMono t.1) := by
  obtain ⟨a, x, y, rfl, h1, h2, h3⟩ := dp_pair_inv h
  obtain rfl := dp_int_inv h3
  exact ⟨a, x, rfl, h1, h2⟩
abbrev n_d_monomial_product : List Str := ["one", "other", "exponents", "token", "exponent"]
theorem sc_d_monomial_product : FnScope n_d_monomial_product ["one", "other"] (defScope s_d_monomial_product) := ⟨rfl, rfl, rfl, by decide +kernel, rfl, by decide +kernel, by decide +kernel⟩

def spMono (K : PySem.W.Frag) : Sp := fun vs H Q _ => ∃ (v u : V) (a b : Mono), vs = [v, u] ∧ Dp K H v (eMono a) ∧ Dp K H u (eMono b) ∧ (keys a).Nodup ∧ a.length ≤ 1000 ∧ b.length ≤ 1000 ∧ ∀ v' H', Same H H' → Dp K H' v' (eMono (mprod a b)) → Q v' H'
theorem ok_mono {f : Addr} {fd : FuncData} (B : Bl mg) (F : FnP K "monomial_product" s_d_monomial_product f fd) (hm : mg "monomial_product" = some (.ref f)) : Cal P w K mg base 1 "monomial_product" ["one", "other"] (spMono K) := by
  refine cal_mk F (F.ok sc_d_monomial_product (fun vs H Q E h => ?_) (fun cdv A outer s H vs Q E hr h => ?_)) hm (fun _ _ _ _ _ _ us hl => match us, hl with | [_, _], _ => rfl) (fun _ _ _ _ _ _ us hl => match us, hl with | [_, _], _ => rfl)
  · obtain ⟨v, u, a, b, rfl, _⟩ := h
    rfl
  · obtain ⟨v, u, a, b, rfl, ha, hb, nd, la, lb, q⟩ := h
    refine ⟨_, PSs.nox (pss_cons (ps_setDc (i := 2) (own := [("token", 3), ("exponent", 4)]) (g := (gSeq K 2 _)) (tk := _) (tv := _) rfl sc_d_monomial_product.nd rfl rfl (sw_trueD rfl rfl rfl (by decide +kernel)) (pi_seq (pv 0)) (blkOk_by (N := n_d_monomial_product) (sc := defScope s_d_monomial_product) (by decide +kernel)) (fun _ _ _ _ _ => (pg_seq rfl (pgs_cons (pg_name (i := 3) sc_d_monomial_product.nd rfl (.inl rfl) (by first | exact .inl rfl | exact .inr rfl)) (pgs_cons (pg_name (i := 4) sc_d_monomial_product.nd rfl (.inl rfl) (by first | exact .inl rfl | exact .inr rfl)) pgs_nil)))) (fun _ _ _ _ _ => pts_nil) (fun _ _ _ _ _ => (pv 3)) (fun _ _ _ _ _ => (pv 4))) (pss_cons (ps_for PassesOwn.never rfl (pi_seq (pv 1)) (pg_seq rfl (pgs_cons (pg_name (i := 3) sc_d_monomial_product.nd rfl (.inl rfl)) (pgs_cons (pg_name (i := 4) sc_d_monomial_product.nd rfl (.inl rfl)) pgs_nil))) (pss_one (ps_dput (hu1 hr) (pv 2) (pv 3) (pe_op op_add (pe_dget2 (hu1 hr) (pv 2) (pv 3) pe_int ⟨by rfl, by rfl, by rfl, by rfl⟩) (pv 4)) rfl))) (pss_one (ps_ret (pe_callTy call_tuple_of (by rfl) B.tuple (by decide +kernel) (pa_cons (pe_callB (cr_sortedD (hu2 hr)) (by rfl) B.sorted (by decide +kernel) (pa_cons (LiI.pe_listItems rfl (pv 2) (by rfl) B.list (by decide +kernel)) pa_nil)) pa_nil)))))), ?_⟩
    obtain ⟨x, us, rfl, hx, hus⟩ := dp_mono_inv ha
    obtain ⟨y, ws, rfl, hy, hws⟩ := dp_mono_inv hb
    refine ⟨_, rfl, x, rfl, dc_seq (K := K) (xs := a) (ev := fun H v p => Dp K H v (ePair p)) (.inr hx) Same.rfl' hus (fun p => Sum.inr p.1) (fun p => natV p.2) (by omega) ?_ ?_⟩
    · rintro v p H1 Ry Rn _ hv s1 ry
      obtain ⟨c, rfl, hc⟩ := dp_pr_inv hv
      exact ⟨c, _, rfl, .inr (same_t s1 hc), rfl, _, _, rfl, _, _, rfl, rfl, rfl, _, rfl, _, rfl, ry _ Same.rfl'⟩
    · rintro d H1 hd s1 hdd
      have e1 : ofK (a.map fun p => ((Sum.inr p.1 : Key), natV p.2)) = tK natV a := by
        show ofK (tK natV a) = _
        rw [ofK_tK, ofPairs_nodup nd]
      rw [e1] at hdd
      refine ⟨_, rfl, y, rfl, for_seq (M := NoM) nsN (.inr hy) (fun i σ H2 => ∃ y3 y4, σ = [some (.ref x), some (.ref y), some (.ref d), y3, y4] ∧ Same H H2 ∧ H2 d = some (.dK (tK natV (tally a (b.take i))))) ⟨none, none, rfl, s1, hdd⟩ ?_ ?_ ?_⟩
      · rintro i σ H2 _ ⟨_, _, _, s2, _⟩
        exact Same.kp s2
      · rintro i v σ H2 hi ⟨y3, y4, rfl, s2, h2⟩ hv
        obtain ⟨p, hp, hvp⟩ := hws.get hv
        obtain ⟨c, rfl, hc⟩ := dp_pr_inv hvp
        refine ⟨c, _, rfl, .inr (same_t s2 hc), rfl, _, _, rfl, _, _, rfl, rfl, ?_⟩
        refine ⟨_, rfl, d, rfl, isD_of h2, _, rfl, _, DGet.k (k := Sum.inr p.1) h2, _, rfl, _, _, get?_getD_int _ _, rfl, _, rfl, _, rfl, d, _, rfl, DPut.k (k := Sum.inr p.1) h2 ?_, _, _, rfl, Same.mut s2 hd, ?_⟩
        · rw [tK_len]
          have := tally_length (b.take i) a
          rw [List.length_take] at this
          exact szl (by omega)
        · rw [upd_same]
          have e2 : tally a (b.take (i + 1)) = put (tally a (b.take i)) p.1 ((get? (tally a (b.take i)) p.1).getD 0 + p.2) := by
            rw [List.take_add_one, hp]
            show tally a (b.take i ++ [p]) = _
            rw [tally_snoc]
            rfl
          rw [e2, ← tK_put]
          rfl
      · rintro σ H2 ⟨y3, y4, rfl, s2, h2⟩
        rw [hws.len, List.take_length] at h2
        refine ⟨_, rfl, d, _, rfl, h2, fun H3 l ts s3 hl hts hlts hlst hpair => ?_⟩
        have e3 : tally a b = tally [] (a ++ b) := by rw [tally_append, tally_self nd]
        have nd3 : (keys (tally [] (a ++ b))).Nodup := tally_nodup _ _ List.nodup_nil
        rw [e3] at hpair
        refine ⟨l, _, encPair, _, tally [] (a ++ b), rfl, .inl (.inl hlst), items_dp hpair, PySem.W.Sortable.tuples fun p => ⟨_, _, rfl⟩, fun p _ => depth_pair p, fun g gs hg hgs _ => ?_⟩
        have es : (tally [] (a ++ b)).mergeSort (PySem.W.dataLe false encPair.e) = mprod a b := sort_canon encStr nd3
        rw [es] at hgs
        have sg := Same.new (o := .lst gs) hg
        refine ⟨g, gs, rfl, .inl ⟨.inl (.inl upd_same), fun t ht => ?_⟩⟩
        refine q _ _ (same_trans s2 (same_trans s3 (same_trans sg (Same.new ht)))) (dp_tup (.inl (.inl upd_same)) ?_)
        exact hgs.same (same_trans sg (Same.new ht))
abbrev n_d_need_figures : List Str := ["p", "monomial", "coefficient", "_", "exponent"]
theorem sc_d_need_figures : FnScope n_d_need_figures ["p"] (defScope s_d_need_figures) := ⟨rfl, rfl, rfl, by decide +kernel, rfl, by decide +kernel, by decide +kernel⟩

def spNeed (K : PySem.W.Frag) : Sp := fun vs H Q _ => ∃ (v : V) (p : Poly), vs = [v] ∧ Dp K H v (ePoly p) ∧ (∀ t ∈ p, t.2 < 10 ^ 100 ∧ t.1.length ≤ 1000 ∧ ∀ e ∈ t.1, e.2 < 10 ^ 100) ∧ ∀ H', Same H H' → Q v H'
theorem ok_need {f : Addr} {fd : FuncData} {tk : Tok} (B : Bl mg) (g_FIRST_TOO_GREAT : mg "FIRST_TOO_GREAT" = some (.int (10 ^ 100) tk)) (F : FnP K "need_figures" s_d_need_figures f fd) (hm : mg "need_figures" = some (.ref f)) : Cal P w K mg base 1 "need_figures" ["p"] (spNeed K) := by
  have r_FIRST_TOO_GREAT : RelV (.int (10 ^ 100)) (.int (10 ^ 100) tk) := ⟨_, rfl⟩
  refine cal_mk F (F.ok sc_d_need_figures (fun vs H Q E h => ?_) (fun cdv A outer s H vs Q E hr h => ?_)) hm (fun _ _ _ _ _ _ us hl => match us, hl with | [_], _ => rfl) (fun _ _ _ _ _ _ us hl => match us, hl with | [_], _ => rfl)
  · obtain ⟨v, p, rfl, _⟩ := h
    rfl
  · obtain ⟨v, p, rfl, hp, hsm, q⟩ := h
    refine ⟨_, PSs.nox (pss_cons (ps_for PassesOwn.never rfl (pi_seq (pv 0)) (pg_seq rfl (pgs_cons (pg_name (i := 1) sc_d_need_figures.nd rfl (.inl rfl)) (pgs_cons (pg_name (i := 2) sc_d_need_figures.nd rfl (.inl rfl)) pgs_nil))) (pss_one (ps_if (PW.pt (pw_or (pt_cmpR op_ge (pv 2) (pe_glob rfl g_FIRST_TOO_GREAT r_FIRST_TOO_GREAT) (nomark _)) (pw_or1 (pt_val (pe_callB (cr_any rfl) (by rfl) B.any (by decide +kernel) (pa_cons (pe_lc (own := [("_", 3), ("exponent", 4)]) (g := (gSeq K 2 _)) (tt := _) (te := _) rfl sc_d_need_figures.nd (pi_seq (pv 1)) (blkOk_by (N := n_d_need_figures) (sc := defScope s_d_need_figures) (by decide +kernel)) (fun _ _ _ _ _ => (pg_seq rfl (pgs_cons (pg_name (i := 3) sc_d_need_figures.nd rfl (.inl rfl) (by first | exact .inl rfl | exact .inr rfl)) (pgs_cons (pg_name (i := 4) sc_d_need_figures.nd rfl (.inl rfl) (by first | exact .inl rfl | exact .inr rfl)) pgs_nil)))) (fun _ _ _ _ _ => pts_nil) (fun _ _ _ _ _ => (pe_cmpR op_ge (pv 4) (pe_glob rfl g_FIRST_TOO_GREAT r_FIRST_TOO_GREAT) (nomark _)))) pa_nil)))))) (pss_one ps_never) pss_nil))) (pss_one (ps_ret (pv 0)))), ?_⟩
    obtain ⟨x, us, rfl, hx, hus⟩ := dp_poly_inv hp
    refine ⟨_, rfl, x, rfl, for_seq (M := NoM) nsN (.inr hx) (fun i σ H2 => ∃ y1 y2 y3 y4, σ = [some (.ref x), y1, y2, y3, y4] ∧ Same H H2) ⟨none, none, none, none, rfl, Same.rfl'⟩ ?_ ?_ ?_⟩
    · rintro i σ H2 _ ⟨_, _, _, _, _, s2⟩
      exact Same.kp s2
    · rintro i v σ H2 hi ⟨y1, y2, y3, y4, rfl, s2⟩ hv
      obtain ⟨t, ht, hvt⟩ := hus.get hv
      obtain ⟨c, z, rfl, hc, hz⟩ := dp_term_inv hvt
      obtain ⟨t1, t2, t3⟩ := hsm t (List.mem_of_getElem? ht)
      refine ⟨c, _, rfl, .inr (same_t s2 hc), rfl, _, _, rfl, _, _, rfl, rfl, ?_⟩
      obtain ⟨b, bs, rfl, hb, hbs⟩ := dp_mono_inv hz
      refine ⟨_, rfl, _, _, rfl, rfl, _, rfl, ?_⟩
      have n1 : decide ((10 ^ 100 : Int) ≤ (t.2 : Int)) = false := decide_eq_false (by
        have : ((t.2 : Nat) : Int) < ((10 ^ 100 : Nat) : Int) := Int.ofNat_lt.mpr t1
        omega)
      rw [n1]
      refine iteF ?_
      refine ⟨_, rfl, b, rfl, lc_seq (K := K) (xs := t.1) (ev := fun H v p => Dp K H v (ePair p)) (.inr hb) s2 (hbs.same s2) PyData.bool (fun _ => rfl) (fun _ => false) (by omega) ?_ ?_⟩
      · rintro v e H3 Ry Rn he hv s3 ry
        obtain ⟨c, rfl, hc⟩ := dp_pr_inv hv
        refine ⟨c, _, rfl, .inr (same_t s3 hc), rfl, _, _, rfl, _, _, rfl, rfl, rfl, _, rfl, _, _, rfl, rfl, ?_⟩
        have n2 : decide ((10 ^ 100 : Int) ≤ (e.2 : Int)) = false := decide_eq_false (by
          have := t3 e he
          have : ((e.2 : Nat) : Int) < ((10 ^ 100 : Nat) : Int) := Int.ofNat_lt.mpr this
          omega)
        show Ry (V.bl (decide ((10 ^ 100 : Int) ≤ (e.2 : Int)))) H3
        rw [n2]
        exact ry _ _ Same.rfl' (.bl _)
      · rintro D ws1 H3 hD s3 hw3 hd3
        have ew : ∀ {ws : List V} {m : Mono}, DpL K H3 PyData.bool ws (m.map fun _ => false) → ws = (m.map fun _ => false).map V.bl := by
          intro ws m h
          induction m generalizing ws with
          | nil =>
            cases h
            rfl
          | cons e m ih =>
            cases h with
            | cons h1 h2 =>
              cases h1
              rw [ih h2]
              rfl
        have eany : ∀ m : Mono, ((m.map fun _ => false).any id) = false := fun m => by
          induction m with
          | nil => rfl
          | cons e m ih => exact ih
        rw [ew hd3] at hw3
        refine ⟨D, _, rfl, .inl (.inl hw3), _, rfl, ?_⟩
        rw [eany]
        refine iteF ?_
        exact ⟨_, _, _, _, rfl, same_trans s2 s3⟩
    · rintro σ H2 ⟨y1, y2, y3, y4, rfl, s2⟩
      exact ⟨_, rfl, q H2 s2⟩
end
end K8
/-! K8F3: checked. -/
namespace K8
open PySem PySem.Spec PyProof.Rows L2
section
variable {P : Program} {w : World} {K : PySem.W.Frag} {mg : Str → Option Value} {base : Heap}
theorem walk_keysD {P : Program} {w : World} {d : Addr} {o : Obj} {as : List Addr} {kvs : List (Mono × Nat)} (hl : as.length = kvs.length) : Walk (Itm P w d o as kvs) (as.map V.ref).length (fun H => H d = some (.frz o (MO P w d as kvs))) (YAt (as.map V.ref)) := by
  have h := walk_keysMo (P := P) (w := w) (d := d) (o := o) (as := as) (kvs := kvs)
  rw [← hl] at h
  rw [List.length_map]
  refine h.mono (fun H q => q) fun i H x H' _ _ y => ⟨y.1, ?_⟩
  obtain ⟨a, h1, h2⟩ := y.2
  rw [List.getElem?_map, h1, h2]
  rfl
theorem paired_map {α β γ : Type} {F : α → β → Prop} {g : γ → β} : ∀ {as : List α} {cs : List γ}, Paired F as (cs.map g) → Paired (fun a c => F a (g c)) as cs
  | as, [], h => by
    have h' : Paired F as [] := h
    cases h'
    exact .nil
  | as, c :: cs, h => by
    have h' : Paired F as (g c :: cs.map g) := h
    cases h' with
    | cons h1 h2 => exact .cons h1 (paired_map h2)
theorem rd_mo_ext {P : Program} {w : World} {H : Hp} {d : Addr} {as : List Addr} {kvs : List (Mono × Nat)} (h : Rd H d (MO P w d as kvs)) : NoSeq (atA d) H := ns_ext h
abbrev n_d_checked : List Str := ["counts", "monomial"]
theorem sc_d_checked : FnScope n_d_checked ["counts"] (defScope s_d_checked) := ⟨rfl, rfl, rfl, by decide +kernel, rfl, by decide +kernel, by decide +kernel⟩

def spChecked (P : Program) (w : World) (K : PySem.W.Frag) : Sp := fun vs H Q _ => ∃ (d : Addr) (as : List Addr) (kvs : Poly), vs = [.ref d] ∧ H d = some (MO P w d as kvs) ∧ DpL K H eMono (as.map V.ref) (keys kvs) ∧ (keys kvs).Nodup ∧ kvs.length ≤ 400 ∧ (∀ t ∈ kvs, t.2 < 10 ^ 100) ∧ ∀ v' H', Same H H' → Dp K H' v' (ePoly (canon encMono kvs)) → Q v' H'
theorem ok_checked {f : Addr} {fd : FuncData} {tk tk2 : Tok} (B : Bl mg) (g_FIRST_TOO_GREAT : mg "FIRST_TOO_GREAT" = some (.int (10 ^ 100) tk)) (g_MOST_TERMS : mg "MOST_TERMS" = some (.int 400 tk2)) (F : FnP K "checked" s_d_checked f fd) (hm : mg "checked" = some (.ref f)) : Cal P w K mg base 1 "checked" ["counts"] (spChecked P w K) := by
  have r_FIRST_TOO_GREAT : RelV (.int (10 ^ 100)) (.int (10 ^ 100) tk) := ⟨_, rfl⟩
  have r_MOST_TERMS : RelV (.int 400) (.int 400 tk2) := ⟨_, rfl⟩
  refine cal_mk F (F.ok sc_d_checked (fun vs H Q E h => ?_) (fun cdv A outer s H vs Q E hr h => ?_)) hm (fun _ _ _ _ _ _ us hl => match us, hl with | [_], _ => rfl) (fun _ _ _ _ _ _ us hl => match us, hl with | [_], _ => rfl)
  · obtain ⟨d, as, kvs, rfl, _⟩ := h
    rfl
  · obtain ⟨d, as, kvs, rfl, hd, hks, nd, hl, hsm, q⟩ := h
    refine ⟨_, PSs.nox (pss_cons (ps_if (pt_cmpR op_gt (pe_callB call_len_m (by rfl) B.len (by decide +kernel) (pa_cons (pv 0) pa_nil)) (pe_glob rfl g_MOST_TERMS r_MOST_TERMS) (nomark _)) (pss_one ps_never) pss_nil) (pss_one (ps_ret (pe_callTy call_tuple_of (by rfl) B.tuple (by decide +kernel) (pa_cons (pe_callB (cr_sortedD (hu2 hr)) (by rfl) B.sorted (by decide +kernel) (pa_cons (pe_lock (pe_lc (own := [("monomial", 1)]) (g := _) (tt := _) (te := (tTup (tCons _ (tCons (tCB _ (tCons (tMGet P w K _ _) _)) _)))) rfl sc_d_checked.nd (pi_keysMo (pv 0)) (blkOk_by (N := n_d_checked) (sc := defScope s_d_checked) (by decide +kernel)) (fun _ _ _ _ _ => (pg_name (i := 1) sc_d_checked.nd rfl (.inl rfl) (by first | exact .inl rfl | exact .inr rfl))) (fun _ _ _ _ _ => pts_nil) (fun _ _ _ _ _ => (pe_tup (pa_cons (pv 1) (pa_cons (pe_callB (call_min2 rfl) (by rfl) B.min (by decide +kernel) (pa_cons (pe_mget (hu2 hr) (pv 0) (pv 1) (fun _ _ => rfl)) (pa_cons (pe_glob rfl g_FIRST_TOO_GREAT r_FIRST_TOO_GREAT) pa_nil))) pa_nil)))))) pa_nil)) pa_nil))))), ?_⟩
    have n1 : decide ((400 : Int) < ((kvs.length : Nat) : Int)) = false := decide_eq_false (by omega)
    refine ⟨_, rfl, d, as, kvs, rfl, ⟨.inl hd, hks⟩, _, _, rfl, rfl, _, rfl, ?_⟩
    rw [n1]
    refine iteF ?_
    refine ⟨d, _, hd, trivial, fun od => ?_⟩
    have lk : as.length = kvs.length := by
      have := hks.len
      rw [List.length_map] at this
      unfold keys at this
      rwa [List.length_map] at this
    have zH : NoSeq (atA d) H := rd_mo_ext (.inl hd)
    have hks' : DpL K (upd H d (.frz od (MO P w d as kvs))) eMono (as.map V.ref) (keys kvs) := hks.kp zH kp_upd
    have hks2 : Paired (fun v (t : Mono × Nat) => Dp K (upd H d (.frz od (MO P w d as kvs))) v (eMono t.1)) (as.map V.ref) kvs := paired_map (F := fun v m => Dp K (upd H d (.frz od (MO P w d as kvs))) v (eMono m)) (g := fun t : Mono × Nat => t.1) hks'
    refine ⟨_, rfl, d, od, as, kvs, rfl, upd_same, lc_map (K := K) (xs := kvs) (ev := fun H v (t : Mono × Nat) => Dp K H v (eMono t.1)) (walk_keysD lk) (fun H' e => e d _ upd_same) hks2 eTerm nol_term id (by omega) ?_ ?_⟩
    · rintro v t H2 Ry Rn ht hv s2 ry
      have hv2 := dp_same s2 _ _ hv
      obtain ⟨a, us, rfl, ha, hus⟩ := dp_mono_inv hv2
      have hfr := s2 d _ upd_same
      have n2 : ¬ ((10 ^ 100 : Int) < ((t.2 : Nat) : Int)) := by
        have : ((t.2 : Nat) : Int) < ((10 ^ 100 : Nat) : Int) := Int.ofNat_lt.mpr (hsm t ht)
        omega
      refine ⟨rfl, _, rfl, _, rfl, _, rfl, d, as, kvs, a, t.1, t.2, rfl, rfl, ⟨.inr ⟨od, hfr⟩, hks'.same s2⟩, hv2, get?_of_mem nd ht, _, _, rfl, sz2, fun p hp => ry _ _ (Same.new hp) ?_⟩
      rw [if_neg (by omega)]
      exact dp_pair (.inl (.inl upd_same)) (dp_same (Same.new hp) _ _ hv2) (.int _)
    · rintro D ws H2 hD s2 hw2 hd2
      rw [List.map_id] at hd2
      have hfr := s2 d _ upd_same
      have nDd : D ≠ d := fun e => by
        rw [e, upd_same] at hD
        cases hD
      have sU : Same H (upd H2 d (MO P w d as kvs)) := fun a u h => by
        by_cases e : a = d
        · subst e
          rw [upd_same]
          exact hd ▸ h
        · rw [upd_ne e]
          exact s2 a u (by rw [upd_ne e]; exact h)
      have hd3 : DpL K (upd H2 d (MO P w d as kvs)) eTerm ws kvs := hd2.kp (rd_mo_ext (P := P) (w := w) (as := as) (kvs := kvs) (.inr ⟨od, hfr⟩)) kp_upd
      have hw3 : (upd H2 d (MO P w d as kvs)) D = some (.lst ws) := by
        rw [upd_ne nDd]
        exact hw2
      refine ⟨hfr, D, _, encTerm, _, kvs, rfl, .inl (.inl hw3), hd3, PySem.W.Sortable.tuples fun p => ⟨_, _, rfl⟩, fun p _ => depth_term p, fun g gs hg hgs _ => ?_⟩
      have es : kvs.mergeSort (PySem.W.dataLe false encTerm.e) = canon encMono kvs := sort_canon encMono nd
      rw [es] at hgs
      have sg := Same.new (o := .lst gs) hg
      refine ⟨g, gs, rfl, .inl ⟨.inl (.inl upd_same), fun t ht => ?_⟩⟩
      exact q _ _ (same_trans sU (same_trans sg (Same.new ht))) (dp_tup (.inl (.inl upd_same)) (hgs.same (same_trans sg (Same.new ht))))
end
end K8
/-! K8F4: added, multiplied, plus, times. -/
namespace K8
open PySem PySem.Spec PyProof.Rows L2
section
variable {P : Program} {w : World} {K : PySem.W.Frag} {mg : Str → Option Value} {base : Heap}
/-- within what the program lets -/
abbrev Fit (p : Poly) : Prop := Small (fun _ => True) 400 (10 ^ 9) 100 p
theorem len_csum {κ : Type} : ∀ {m : List (κ × Nat)}, PosN m → m.length ≤ csum m
  | [], _ => Nat.zero_le _
  | t :: m, h => by
    have a := h t List.mem_cons_self
    have b := len_csum (m := m) fun x hx => h x (List.mem_cons_of_mem _ hx)
    rw [List.length_cons, csum_cons]
    omega
theorem Small.fit {T : Str → Prop} {n c d : Nat} {p : Poly} (h : Small T n c d p) (hn : n ≤ 400) (hc : c ≤ 10 ^ 9) (hd : d ≤ 100) : Fit p :=
  ⟨h.ok, Nat.le_trans h.len hn, Nat.le_trans h.sum hc, fun t m => Nat.le_trans (h.deg t m) hd, fun _ _ _ _ => trivial⟩
theorem fit_mono_len {p : Poly} (h : Fit p) : ∀ t ∈ p, t.1.length ≤ 1000 := fun t m => by
  have a := len_csum (h.ok.monos t m).pos
  have b := h.deg t m
  omega
theorem fit_coef {p : Poly} (h : Fit p) : ∀ t ∈ p, t.2 ≤ 10 ^ 9 := fun t m => Nat.le_trans (le_csum m) h.sum
theorem small100 {n : Nat} (h : n ≤ 10 ^ 18) : n < 10 ^ 100 := Nat.lt_of_le_of_lt h (Nat.pow_lt_pow_right (by decide) (by decide))
theorem fit_need {p : Poly} (h : Fit p) : ∀ t ∈ p, t.2 < 10 ^ 100 ∧ t.1.length ≤ 1000 ∧ ∀ e ∈ t.1, e.2 < 10 ^ 100 := fun t m =>
  ⟨small100 (Nat.le_trans (fit_coef h t m) (by decide)), fit_mono_len h t m, fun e he => small100 (Nat.le_trans (Nat.le_trans (le_csum he) (h.deg t m)) (by decide))⟩
theorem mono_nodup {m : Mono} (h : MonoOk m) : (keys m).Nodup := rising_nodup h.up
/-- the table behind a store -/
theorem mtab_put {H H' : Hp} {d a : Addr} {as : List Addr} {kvs : Poly} {m : Mono} (n : Nat) (hd : Rd H d (MO P w d as kvs)) (hk : Kp (atA d) H H') (hks : DpL K H eMono (as.map V.ref) (keys kvs)) (hm : Dp K H (.ref a) (eMono m)) :
    DpL K H' eMono ((putA as kvs m a).map V.ref) (keys (put kvs m n)) := by
  have zH := rd_mo_ext hd
  have h1 := hks.kp zH hk
  have h2 := dp_kp zH hk _ _ hm
  rw [keys_put]
  unfold putA
  by_cases e : m ∈ keys kvs
  · rw [if_pos e, if_pos e]
    exact h1
  · rw [if_neg e, if_neg e, List.map_append]
    exact h1.snoc h2
theorem kp_atA_mut {H0 H H' : Hp} {d : Addr} (s : Same H0 H) (hd : H0 d = none) (k : Kp (atA d) H H') : Same H0 H' := fun a u h => k a u (fun e => by
  have e' : a = d := e
  subst e'
  rw [hd] at h
  cases h) (s a u h)
theorem bump_len (kvs ts : Poly) (i : Nat) (h : kvs.length + ts.length ≤ 100000) : (tally kvs (ts.take i)).length < sizeLine := by
  have a := tally_length (ts.take i) kvs
  rw [List.length_take] at a
  exact szl (by omega)
abbrev n_d_added : List Str := ["p", "q", "counts", "monomial", "coefficient"]
theorem sc_d_added : FnScope n_d_added ["p", "q"] (defScope s_d_added) := ⟨rfl, rfl, rfl, by decide +kernel, rfl, by decide +kernel, by decide +kernel⟩

def spAdded (K : PySem.W.Frag) : Sp := fun vs H Q _ => ∃ (v u : V) (p q : Poly), vs = [v, u] ∧ Fm K H v (ePoly p) ∧ Fm K H u (ePoly q) ∧ Fit p ∧ Fit q ∧ p.length + q.length ≤ 400 ∧ ∀ v' H', Same H H' → Dp K H' v' (ePoly (pplus p q)) → Q v' H'
theorem tally_small {ts : Poly} (hp : PosN ts) (h : csum ts ≤ 10 ^ 18) : ∀ t ∈ tally [] ts, t.2 < 10 ^ 100 := fun t m => by
  have nd : (keys (tally [] ts)).Nodup := tally_nodup _ [] List.nodup_nil
  have a := le_csum ((canon_mem encMono nd).mpr m)
  rw [csum_canon encMono hp] at a
  exact small100 (Nat.le_trans a h)
theorem ok_added {f : Addr} {fd : FuncData} (B : Bl mg) (c_d_frozen : Cal P w K mg base 1 "frozen" ["p"] (spFrozen K)) (c_d_checked : Cal P w K mg base 1 "checked" ["counts"] (spChecked P w K)) (F : FnP K "added" s_d_added f fd) (hm : mg "added" = some (.ref f)) : Cal P w K mg base 2 "added" ["p", "q"] (spAdded K) := by
  refine cal_mk F (F.ok sc_d_added (fun vs H Q E h => ?_) (fun cdv A outer s H vs Q E hr h => ?_)) hm (fun _ _ _ _ _ _ us hl => match us, hl with | [_, _], _ => rfl) (fun _ _ _ _ _ _ us hl => match us, hl with | [_, _], _ => rfl)
  · obtain ⟨v, u, p, q, rfl, _⟩ := h
    rfl
  · obtain ⟨v, u, p, q, rfl, hp, hq, fp, fq, hl, k⟩ := h
    refine ⟨_, PSs.nox (pss_cons (ps_set (i := 2) sc_d_added.nd rfl (.inl rfl) pe_mnew) (pss_cons (ps_for PassesOwn.never rfl (pi_seq (pe_op op_catU (pe_u c_d_frozen hr (by decide) (by rfl) (pa_cons (pv 0) pa_nil)) (pe_u c_d_frozen hr (by decide) (by rfl) (pa_cons (pv 1) pa_nil)))) (pg_seq rfl (pgs_cons (pg_name (i := 3) sc_d_added.nd rfl (.inl rfl)) (pgs_cons (pg_name (i := 4) sc_d_added.nd rfl (.inl rfl)) pgs_nil))) (pss_one (ps_mput (hu2 hr) (pv 2) (pv 3) (pe_op op_add (pe_mget2 (hu2 hr) (pv 2) (pv 3) pe_int ⟨by rfl, by rfl, by rfl, by rfl⟩) (pv 4)) (by rfl)))) (pss_one (ps_ret (pe_u c_d_checked hr (by decide) (by rfl) (pa_cons (pv 2) pa_nil)))))), ?_⟩
    refine fun d hd => ?_
    have s1 : Same H (upd H d (MO P w d [] [])) := Same.new hd
    refine ⟨_, rfl, v, p, rfl, hp.same s1, by have := fp.len; omega, fit_mono_len fp, fun v1 H1 s2 d1 => ?_⟩
    refine ⟨_, rfl, u, q, rfl, hq.same (same_trans s1 s2), by have := fq.len; omega, fit_mono_len fq, fun v2 H2 s3 d2 => ?_⟩
    obtain ⟨x, us, rfl, hx, hus⟩ := dp_poly_inv (dp_same s3 _ _ d1)
    obtain ⟨y, ws, rfl, hy, hws⟩ := dp_poly_inv d2
    have sA := same_trans s1 (same_trans s2 s3)
    have hd2 := s3 _ _ (s2 d _ (upd_same (H := H) (a := d) (o := MO P w d [] [])))
    refine ⟨x, y, us, ws, rfl, rfl, hx, hy, by rw [hus.len, hws.len]; omega, fun z H3 s4 hz => ?_⟩
    have hall : DpL K H3 eTerm (us ++ ws) (p ++ q) := (hus.append hws).same s4
    have sB := same_trans sA s4
    have hlen : (p ++ q).length ≤ 400 := by rw [List.length_append]; exact hl
    have posA : PosN (p ++ q) := fun t m => (List.mem_append.mp m).elim (fp.ok.pos t) (fq.ok.pos t)
    have csA : csum (p ++ q) ≤ 10 ^ 18 := by
      rw [csum_append]
      have a := fp.sum
      have b := fq.sum
      omega
    refine ⟨z, rfl, for_seq (M := atA d) (rd_mo_ext (.inl (s4 _ _ hd2))) (.inr hz) (fun i σ H4 => ∃ y1 y2 as, σ = [some v, some u, some (.ref d), y1, y2] ∧ Kp (atA d) H3 H4 ∧ H4 d = some (MO P w d as (tally [] ((p ++ q).take i))) ∧ DpL K H4 eMono (as.map V.ref) (keys (tally [] ((p ++ q).take i)))) ⟨none, none, [], rfl, Kp.refl, s4 _ _ hd2, .nil⟩ ?_ ?_ ?_⟩
    · rintro i σ H4 _ ⟨_, _, _, _, s5, _⟩
      exact s5
    · rintro i e σ H4 hi ⟨y1, y2, as, rfl, s5, h4, hks⟩ he
      obtain ⟨t, ht, hvt⟩ := hall.get he
      have hvt4 := dp_kp (rd_mo_ext (.inl (s4 _ _ hd2))) s5 _ _ hvt
      obtain ⟨c, m, rfl, hc, hm⟩ := dp_term_inv hvt4
      obtain ⟨a, ms, rfl, ha, hms⟩ := dp_mono_inv hm
      refine ⟨c, _, rfl, .inr hc, rfl, _, _, rfl, _, _, rfl, rfl, ?_⟩
      have e2 : tally [] ((p ++ q).take (i + 1)) = put (tally [] ((p ++ q).take i)) t.1 ((get? (tally [] ((p ++ q).take i)) t.1).getD 0 + t.2) := by
        rw [List.take_add_one, ht]
        show tally [] ((p ++ q).take i ++ [t]) = _
        rw [tally_snoc]
        rfl
      have e3 : (match get? (tally [] ((p ++ q).take i)) t.1 with | some n => ((n : Nat) : Int) | none => 0) + ((t.2 : Nat) : Int) = (((get? (tally [] ((p ++ q).take i)) t.1).getD 0 + t.2 : Nat) : Int) := by
        cases get? (tally [] ((p ++ q).take i)) t.1 with
        | none =>
          show (0 : Int) + _ = ((0 + t.2 : Nat) : Int)
          rw [Nat.zero_add]
          omega
        | some n =>
          show ((n : Nat) : Int) + _ = ((n + t.2 : Nat) : Int)
          omega
      refine ⟨_, rfl, d, as, _, rfl, ⟨.inl h4, hks⟩, _, rfl, a, t.1, 0, rfl, rfl, ⟨.inl h4, hks⟩, hm, _, rfl, _, _, rfl, rfl, ?_⟩
      refine ⟨_, rfl, _, rfl, d, as, _, a, t.1, _, congrArg V.int e3, rfl, rfl, h4, hks, hm, bump_len [] (p ++ q) i (by show 0 + _ ≤ _; omega), ?_⟩
      rw [e2]
      exact ⟨_, _, _, rfl, s5.trans kp_upd, upd_same, mtab_put _ (.inl h4) kp_upd hks hm⟩
    · rintro σ H4 ⟨y1, y2, as, rfl, s5, h4, hks⟩
      have ez : (us ++ ws).length = (p ++ q).length := by
        rw [List.length_append, List.length_append, hus.len, hws.len]
      rw [ez, List.take_length] at h4 hks
      have tl := tally_length (p ++ q) ([] : Poly)
      refine ⟨_, rfl, d, as, _, rfl, h4, hks, tally_nodup _ [] List.nodup_nil, by simp only [List.length_nil, Nat.zero_add] at tl; omega, tally_small posA csA, fun v' H' s6 d6 => ?_⟩
      exact k v' H' (same_trans (kp_atA_mut sB hd s5) s6) d6
end
end K8
/-! K8F5: multiplied, plus, times. -/
namespace K8
open PySem PySem.Spec PyProof.Rows L2
section
variable {P : Program} {w : World} {K : PySem.W.Frag} {mg : Str → Option Value} {base : Heap}
theorem csum_take {κ : Type} [DecidableEq κ] (p : List (κ × Nat)) (i : Nat) : csum (p.take i) ≤ csum p := by
  have h := csum_append (p.take i) (p.drop i)
  rw [List.take_append_drop] at h
  omega
theorem pterms_snoc (p q : Poly) (t : Mono × Nat) : pterms (p ++ [t]) q = pterms p q ++ tline t q := by
  unfold pterms
  rw [List.flatMap_append, List.flatMap_cons, List.flatMap_nil, List.append_nil]
theorem tline_snoc (t : Mono × Nat) (q : Poly) (u : Mono × Nat) : tline t (q ++ [u]) = tline t q ++ [(mprod t.1 u.1, t.2 * u.2)] := by
  unfold tline
  rw [List.map_append]
  rfl
theorem getD_add (o : Option Nat) (n : Nat) : (match o with | some n => ((n : Nat) : Int) | none => 0) + ((n : Nat) : Int) = ((o.getD 0 + n : Nat) : Int) := by
  cases o with
  | none =>
    show (0 : Int) + _ = ((0 + n : Nat) : Int)
    rw [Nat.zero_add]
    omega
  | some k =>
    show ((k : Nat) : Int) + _ = ((k + n : Nat) : Int)
    omega
abbrev n_d_multiplied : List Str := ["p", "q", "counts", "others", "monomial", "coefficient", "other", "factor", "made"]
theorem sc_d_multiplied : FnScope n_d_multiplied ["p", "q"] (defScope s_d_multiplied) := ⟨rfl, rfl, rfl, by decide +kernel, rfl, by decide +kernel, by decide +kernel⟩

structure FitX (a b : Poly) : Prop where
  p : Fit a
  q : Fit b
  l : a.length * b.length ≤ 400
def spMultiplied (K : PySem.W.Frag) : Sp := fun vs H Q _ => ∃ (v u : V) (p q : Poly), vs = [v, u] ∧ Fm K H v (ePoly p) ∧ Fm K H u (ePoly q) ∧ FitX p q ∧ ∀ v' H', Same H H' → Dp K H' v' (ePoly (ptimes p q)) → Q v' H'
theorem pterms_len_take {p q : Poly} (h : FitX p q) (i : Nat) : (pterms (p.take i) q).length ≤ 400 := by
  rw [length_pterms]
  refine Nat.le_trans (Nat.mul_le_mul_right _ ?_) h.l
  rw [List.length_take]
  exact Nat.min_le_right _ _
theorem pterms_small {p q : Poly} (h : FitX p q) (i : Nat) : ∀ t ∈ tally [] (pterms (p.take i) q), t.2 < 10 ^ 100 := by
  refine tally_small (pos_pterms (fun t m => h.p.ok.pos t (List.mem_of_mem_take m)) h.q.ok.pos) ?_
  rw [csum_pterms]
  exact Nat.le_trans (Nat.mul_le_mul (Nat.le_trans (csum_take p i) h.p.sum) h.q.sum) (by decide)
theorem ok_multiplied {f : Addr} {fd : FuncData} (B : Bl mg) (c_d_frozen : Cal P w K mg base 1 "frozen" ["p"] (spFrozen K)) (c_d_checked : Cal P w K mg base 1 "checked" ["counts"] (spChecked P w K)) (c_d_monomial_product : Cal P w K mg base 1 "monomial_product" ["one", "other"] (spMono K)) (F : FnP K "multiplied" s_d_multiplied f fd) (hm : mg "multiplied" = some (.ref f)) : Cal P w K mg base 2 "multiplied" ["p", "q"] (spMultiplied K) := by
  refine cal_mk F (F.ok sc_d_multiplied (fun vs H Q E h => ?_) (fun cdv A outer s H vs Q E hr h => ?_)) hm (fun _ _ _ _ _ _ us hl => match us, hl with | [_, _], _ => rfl) (fun _ _ _ _ _ _ us hl => match us, hl with | [_, _], _ => rfl)
  · obtain ⟨v, u, p, q, rfl, _⟩ := h
    rfl
  · obtain ⟨v, u, p, q, rfl, hp, hq, fx, k⟩ := h
    have fp := fx.p
    have fq := fx.q
    refine ⟨_, PSs.nox (pss_cons (ps_set (i := 2) sc_d_multiplied.nd rfl (.inl rfl) pe_mnew) (pss_cons (ps_set (i := 3) sc_d_multiplied.nd rfl (.inl rfl) (pe_u c_d_frozen hr (by decide) (by rfl) (pa_cons (pv 1) pa_nil))) (pss_cons (ps_for PassesOwn.never rfl (pi_seq (pe_u c_d_frozen hr (by decide) (by rfl) (pa_cons (pv 0) pa_nil))) (pg_seq rfl (pgs_cons (pg_name (i := 4) sc_d_multiplied.nd rfl (.inl rfl)) (pgs_cons (pg_name (i := 5) sc_d_multiplied.nd rfl (.inl rfl)) pgs_nil))) (pss_cons (ps_for PassesOwn.never rfl (pi_seq (pv 3)) (pg_seq rfl (pgs_cons (pg_name (i := 6) sc_d_multiplied.nd rfl (.inl rfl)) (pgs_cons (pg_name (i := 7) sc_d_multiplied.nd rfl (.inl rfl)) pgs_nil))) (pss_cons (ps_set (i := 8) sc_d_multiplied.nd rfl (.inl rfl) (pe_u c_d_monomial_product hr (by decide) (by rfl) (pa_cons (pv 4) (pa_cons (pv 6) pa_nil)))) (pss_one (ps_mput (hu2 hr) (pv 2) (pv 8) (pe_op op_add (pe_mget2 (hu2 hr) (pv 2) (pv 8) pe_int ⟨by rfl, by rfl, by rfl, by rfl⟩) (pe_op op_mul (pv 5) (pv 7))) (by rfl))))) (pss_one (ps_expr (pe_u c_d_checked hr (by decide) (by rfl) (pa_cons (pv 2) pa_nil)))))) (pss_one (ps_ret (pe_u c_d_checked hr (by decide) (by rfl) (pa_cons (pv 2) pa_nil))))))), ?_⟩
    refine fun d hd => ?_
    have s1 : Same H (upd H d (MO P w d [] [])) := Same.new hd
    refine ⟨_, rfl, u, q, rfl, hq.same s1, by have := fq.len; omega, fit_mono_len fq, fun v1 H1 s2 d1 => ?_⟩
    refine ⟨_, rfl, v, p, rfl, hp.same (same_trans s1 s2), by have := fp.len; omega, fit_mono_len fp, fun v2 H2 s3 d2 => ?_⟩
    obtain ⟨y, ws, rfl, hy, hws⟩ := dp_poly_inv (dp_same s3 _ _ d1)
    obtain ⟨x, us, rfl, hx, hus⟩ := dp_poly_inv d2
    have sB := same_trans s1 (same_trans s2 s3)
    have hd2 := s3 _ _ (s2 d _ (upd_same (H := H) (a := d) (o := MO P w d [] [])))
    have z2 : NoSeq (atA d) H2 := rd_mo_ext (.inl hd2)
    refine ⟨x, rfl, for_seq (M := atA d) z2 (.inr hx) (fun i σ H4 => ∃ y4 y5 y6 y7 y8 as, σ = [some v, some u, some (.ref d), some (.ref y), y4, y5, y6, y7, y8] ∧ Kp (atA d) H2 H4 ∧ H4 d = some (MO P w d as (tally [] (pterms (p.take i) q))) ∧ DpL K H4 eMono (as.map V.ref) (keys (tally [] (pterms (p.take i) q)))) ⟨none, none, none, none, none, [], rfl, Kp.refl, hd2, .nil⟩ ?_ ?_ ?_⟩
    · rintro i σ H4 _ ⟨_, _, _, _, _, _, _, s5, _⟩
      exact s5
    · rintro i e σ H4 hi ⟨y4, y5, y6, y7, y8, as, rfl, s5, h4, hks⟩ he
      obtain ⟨t, ht, hvt⟩ := hus.get he
      have tm := List.mem_of_getElem? ht
      obtain ⟨c, m, rfl, hc, hm0⟩ := dp_term_inv hvt
      have hc4 : SqT K H4 c _ := kp_t z2 s5 hc
      refine ⟨c, _, rfl, .inr hc4, rfl, _, _, rfl, _, _, rfl, rfl, ?_⟩
      refine ⟨_, rfl, y, rfl, for_seq (M := atA d) z2 (.inr hy) (fun j σ H5 => ∃ y6 y7 y8 as, σ = [some v, some u, some (.ref d), some (.ref y), some m, some (.int t.2), y6, y7, y8] ∧ Kp (atA d) H2 H5 ∧ H5 d = some (MO P w d as (tally (tally [] (pterms (p.take i) q)) (tline t (q.take j)))) ∧ DpL K H5 eMono (as.map V.ref) (keys (tally (tally [] (pterms (p.take i) q)) (tline t (q.take j))))) ⟨_, _, _, as, rfl, s5, h4, hks⟩ ?_ ?_ ?_⟩
      · rintro j σ H5 _ ⟨_, _, _, _, _, s6, _⟩
        exact s6
      · rintro j e2 σ H5 hj ⟨y6, y7, y8, as5, rfl, s6, h5, hks5⟩ he2
        obtain ⟨r, hrr, hvr⟩ := hws.get he2
        have rm := List.mem_of_getElem? hrr
        obtain ⟨c2, m2, rfl, hc2, hm2⟩ := dp_term_inv hvr
        refine ⟨c2, _, rfl, .inr (kp_t z2 s6 hc2), rfl, _, _, rfl, _, _, rfl, rfl, ?_⟩
        refine ⟨_, rfl, _, rfl, m, m2, t.1, r.1, rfl, dp_kp z2 s6 _ _ hm0, dp_kp z2 s6 _ _ hm2, mono_nodup (fp.ok.monos t tm), fit_mono_len fp t tm, fit_mono_len fq r rm, fun v6 H6 s7 d6 => ?_⟩
        obtain ⟨a, ms, rfl, ha, hms⟩ := dp_mono_inv d6
        have h6 := s7 _ _ h5
        have hks6 := hks5.same s7
        have e4 : tline t (q.take (j + 1)) = tline t (q.take j) ++ [(mprod t.1 r.1, t.2 * r.2)] := by
          rw [List.take_add_one, hrr]
          exact tline_snoc _ _ _
        have e5 : tally (tally [] (pterms (p.take i) q)) (tline t (q.take (j + 1))) = put (tally (tally [] (pterms (p.take i) q)) (tline t (q.take j))) (mprod t.1 r.1) ((get? (tally (tally [] (pterms (p.take i) q)) (tline t (q.take j))) (mprod t.1 r.1)).getD 0 + t.2 * r.2) := by
          rw [e4, tally_snoc]
          rfl
        have ct := fit_coef fp t tm
        refine ⟨_, rfl, d, as5, _, rfl, ⟨.inl h6, hks6⟩, _, rfl, a, mprod t.1 r.1, 0, rfl, rfl, ⟨.inl h6, hks6⟩, d6, _, rfl, _, rfl, _, _, rfl, rfl, .inl ⟨by omega, by omega⟩, _, _, rfl, rfl, ?_⟩
        have e6 : (match get? (tally (tally [] (pterms (p.take i) q)) (tline t (q.take j))) (mprod t.1 r.1) with | some n => ((n : Nat) : Int) | none => 0) + ((t.2 : Nat) : Int) * ((r.2 : Nat) : Int) = (((get? (tally (tally [] (pterms (p.take i) q)) (tline t (q.take j))) (mprod t.1 r.1)).getD 0 + t.2 * r.2 : Nat) : Int) := by
          rw [← Int.natCast_mul]
          exact getD_add _ _
        have hz : (tally (tally [] (pterms (p.take i) q)) (tline t (q.take j))).length < sizeLine := by
          have a1 := tally_length (tline t (q.take j)) (tally [] (pterms (p.take i) q))
          have a2 := tally_length (pterms (p.take i) q) []
          have a3 := pterms_len_take fx i
          have a4 := fq.len
          have a5 : (tline t (q.take j)).length ≤ q.length := by
            unfold tline
            rw [List.length_map, List.length_take]
            exact Nat.min_le_right _ _
          simp only [List.length_nil, Nat.zero_add] at a2
          exact szl (by omega)
        refine ⟨_, rfl, _, rfl, d, as5, _, a, mprod t.1 r.1, _, congrArg V.int e6, rfl, rfl, h6, hks6, d6, hz, ?_⟩
        rw [e5]
        exact ⟨_, _, _, _, rfl, (s6.trans (Same.kp s7)).trans kp_upd, upd_same, mtab_put _ (.inl h6) kp_upd hks6 d6⟩
      · rintro σ H5 ⟨y6, y7, y8, as5, rfl, s6, h5, hks5⟩
        have e4 : tally (tally [] (pterms (p.take i) q)) (tline t (q.take ws.length)) = tally [] (pterms (p.take (i + 1)) q) := by
          rw [hws.len, List.take_length, List.take_add_one, ht]
          show _ = tally [] (pterms (p.take i ++ [t]) q)
          rw [pterms_snoc, tally_append]
        rw [e4] at h5 hks5
        have a2 := tally_length (pterms (p.take (i + 1)) q) ([] : Poly)
        have a3 := pterms_len_take fx (i + 1)
        refine ⟨_, rfl, d, as5, _, rfl, h5, hks5, tally_nodup _ [] List.nodup_nil, by simp only [List.length_nil, Nat.zero_add] at a2; omega, pterms_small fx (i + 1), fun v' H' s8 _ => ?_⟩
        exact ⟨_, _, _, _, _, as5, rfl, s6.trans (Same.kp s8), s8 _ _ h5, hks5.same s8⟩
    · rintro σ H4 ⟨y4, y5, y6, y7, y8, as, rfl, s5, h4, hks⟩
      have a2 := tally_length (pterms (p.take us.length) q) ([] : Poly)
      have a3 := pterms_len_take fx us.length
      refine ⟨_, rfl, d, as, _, rfl, h4, hks, tally_nodup _ [] List.nodup_nil, by simp only [List.length_nil, Nat.zero_add] at a2; omega, pterms_small fx us.length, fun v' H' s6 d6 => ?_⟩
      rw [hus.len, List.take_length] at d6
      exact k v' H' (same_trans (kp_atA_mut sB hd s5) s6) d6
abbrev n_d_plus : List Str := ["p", "q"]
theorem sc_d_plus : FnScope n_d_plus ["p", "q"] (defScope s_d_plus) := ⟨rfl, rfl, rfl, by decide +kernel, rfl, by decide +kernel, by decide +kernel⟩

def spPlus (K : PySem.W.Frag) : Sp := fun vs H Q _ => ∃ (v u : V) (p q : Poly), vs = [v, u] ∧ Fm K H v (ePoly p) ∧ Fm K H u (ePoly q) ∧ Fit p ∧ Fit q ∧ p.length + q.length ≤ 400 ∧ Fit (pplus p q) ∧ ∀ v' H', Same H H' → Dp K H' v' (ePoly (pplus p q)) → Q v' H'
theorem ok_plus {f : Addr} {fd : FuncData} (B : Bl mg) (c_d_added : Cal P w K mg base 2 "added" ["p", "q"] (spAdded K)) (c_d_need_figures : Cal P w K mg base 1 "need_figures" ["p"] (spNeed K)) (F : FnP K "plus" s_d_plus f fd) (hm : mg "plus" = some (.ref f)) : Cal P w K mg base 3 "plus" ["p", "q"] (spPlus K) := by
  refine cal_mk F (F.ok sc_d_plus (fun vs H Q E h => ?_) (fun cdv A outer s H vs Q E hr h => ?_)) hm (fun _ _ _ _ _ _ us hl => match us, hl with | [_, _], _ => rfl) (fun _ _ _ _ _ _ us hl => match us, hl with | [_, _], _ => rfl)
  · obtain ⟨v, u, p, q, rfl, _⟩ := h
    rfl
  · obtain ⟨v, u, p, q, rfl, hp, hq, fp, fq, hl, fr, k⟩ := h
    refine ⟨_, PSs.nox (pss_one (ps_ret (pe_u c_d_need_figures hr (by decide) (by rfl) (pa_cons (pe_u c_d_added hr (by decide) (by rfl) (pa_cons (pv 0) (pa_cons (pv 1) pa_nil))) pa_nil)))), ?_⟩
    exact ⟨_, rfl, _, rfl, v, u, p, q, rfl, hp, hq, fp, fq, hl, fun v' H' s1 d1 => ⟨v', _, rfl, d1, fit_need fr, fun H2 s2 => k _ _ (same_trans s1 s2) (dp_same s2 _ _ d1)⟩⟩
abbrev n_d_times : List Str := ["p", "q"]
theorem sc_d_times : FnScope n_d_times ["p", "q"] (defScope s_d_times) := ⟨rfl, rfl, rfl, by decide +kernel, rfl, by decide +kernel, by decide +kernel⟩

def spTimes (K : PySem.W.Frag) : Sp := fun vs H Q _ => ∃ (v u : V) (p q : Poly), vs = [v, u] ∧ Fm K H v (ePoly p) ∧ Fm K H u (ePoly q) ∧ FitX p q ∧ Fit (ptimes p q) ∧ ∀ v' H', Same H H' → Dp K H' v' (ePoly (ptimes p q)) → Q v' H'
theorem ok_times {f : Addr} {fd : FuncData} (B : Bl mg) (c_d_multiplied : Cal P w K mg base 2 "multiplied" ["p", "q"] (spMultiplied K)) (c_d_need_figures : Cal P w K mg base 1 "need_figures" ["p"] (spNeed K)) (F : FnP K "times" s_d_times f fd) (hm : mg "times" = some (.ref f)) : Cal P w K mg base 3 "times" ["p", "q"] (spTimes K) := by
  refine cal_mk F (F.ok sc_d_times (fun vs H Q E h => ?_) (fun cdv A outer s H vs Q E hr h => ?_)) hm (fun _ _ _ _ _ _ us hl => match us, hl with | [_, _], _ => rfl) (fun _ _ _ _ _ _ us hl => match us, hl with | [_, _], _ => rfl)
  · obtain ⟨v, u, p, q, rfl, _⟩ := h
    rfl
  · obtain ⟨v, u, p, q, rfl, hp, hq, fx, fr, k⟩ := h
    refine ⟨_, PSs.nox (pss_one (ps_ret (pe_u c_d_need_figures hr (by decide) (by rfl) (pa_cons (pe_u c_d_multiplied hr (by decide) (by rfl) (pa_cons (pv 0) (pa_cons (pv 1) pa_nil))) pa_nil)))), ?_⟩
    exact ⟨_, rfl, _, rfl, v, u, p, q, rfl, hp, hq, fx, fun v' H' s1 d1 => ⟨v', _, rfl, d1, fit_need fr, fun H2 s2 => k _ _ (same_trans s1 s2) (dp_same s2 _ _ d1)⟩⟩
end
end K8
/-! K8L1: the law's own sorting. -/
namespace K8
open PySem PySem.Spec PyProof.Rows L2
section
variable {P : Program} {w : World} {K : PySem.W.Frag} {mg : Str → Option Value} {base : Heap}
theorem cut_to (xs : List V) (k : Nat) (h : k ≤ xs.length) : cutV xs none (some (k : Int)) = xs.take k := by
  unfold cutV
  rw [HT.sIx_nat, HT.sIx_none, Nat.min_eq_left h, Nat.sub_zero, List.drop_zero]
theorem cut_from (xs : List V) (k : Nat) (h : k ≤ xs.length) : cutV xs (some (k : Int)) none = xs.drop k := by
  unfold cutV
  rw [HT.sIx_nat, HT.sIx_none, Nat.min_eq_left h]
  exact List.take_of_length_le (by rw [List.length_drop]; exact Nat.le_refl _)
theorem dpl_take {H : Hp} {α : Type} {e : α → PyData} : ∀ {vs : List V} {xs : List α} (k : Nat), DpL K H e vs xs → DpL K H e (vs.take k) (xs.take k)
  | _, _, 0, _ => by
    rw [List.take_zero, List.take_zero]
    exact .nil
  | _, _, _ + 1, .nil => .nil
  | _, _, k + 1, .cons h t => .cons h (dpl_take k t)
theorem dpl_drop {H : Hp} {α : Type} {e : α → PyData} : ∀ {vs : List V} {xs : List α} (k : Nat), DpL K H e vs xs → DpL K H e (vs.drop k) (xs.drop k)
  | _, _, 0, h => h
  | _, _, _ + 1, .nil => .nil
  | _, _, k + 1, .cons _ t => dpl_drop k t
/-- what is sorted here -/
structure EncOk {α : Type} (E : Enc α) (xs : List α) : Prop where
  sh : ∀ x ∈ xs, SeqAt.shaped (E.e x) = true
  nn : ∀ x, E.e x ≠ .none
  dp : ∀ x, (E.e x).depth ≤ 8
abbrev n_q_sorted : List Str := ["_law_rows", "_law_found", "_law_row", "_law_at", "_law_one_here"]
theorem sc_q_sorted : FnScope n_q_sorted ["_law_rows"] (defScope s_q_sorted) := ⟨rfl, rfl, rfl, by decide +kernel, rfl, by decide +kernel, by decide +kernel⟩

def spSorted (K : PySem.W.Frag) : Sp := fun vs H Q _ => ∃ (a : Addr) (α : Type) (_ : DecidableEq α) (E : Enc α) (us : List V) (xs : List α), vs = [.ref a] ∧ SqL K H a us ∧ DpL K H E.e us xs ∧ EncOk E xs ∧ xs.length ≤ 1000 ∧ ∀ l ws H', Same H H' → H' l = some (.lst ws) → DpL K H' E.e ws (lsort E xs) → Q (.ref l) H'
theorem ok_sorted {f : Addr} {fd : FuncData} (B : Bl mg) (F : FnP K "_law_sorted" s_q_sorted f fd) (hm : mg "_law_sorted" = some (.ref f)) : Cal P w K mg base 1 "_law_sorted" ["_law_rows"] (spSorted K) := by
  refine cal_mk F (F.ok sc_q_sorted (fun vs H Q E h => ?_) (fun cdv A outer s H vs Q E hr h => ?_)) hm (fun _ _ _ _ _ _ us hl => match us, hl with | [_], _ => rfl) (fun _ _ _ _ _ _ us hl => match us, hl with | [_], _ => rfl)
  · obtain ⟨a, α, _, E, us, xs, rfl, _⟩ := h
    rfl
  · obtain ⟨a, α, dec, E', us, xs, rfl, ha, hus, ek, hl, q⟩ := h
    refine ⟨_, PSs.nox (pss_cons (ps_set (i := 1) sc_q_sorted.nd rfl (.inl rfl) (pe_lst pa_nil)) (pss_cons (ps_for PassesOwn.never rfl (pi_seq (pv 0)) (pg_name (i := 2) sc_q_sorted.nd rfl (.inr rfl)) (pss_cons (ps_set (i := 3) sc_q_sorted.nd rfl (.inl rfl) (pe_callB call_len_seq (by rfl) B.len (by decide +kernel) (pa_cons (pe_lc (own := [("_law_one_here", 4)]) (g := _) (tt := (tTest (tOp (rLtD K) _ _))) (te := _) rfl sc_q_sorted.nd (pi_seq (pv 1)) (blkOk_by (N := n_q_sorted) (sc := defScope s_q_sorted) (by decide +kernel)) (fun _ _ _ _ _ => (pg_name (i := 4) sc_q_sorted.nd rfl (.inl rfl) (by first | exact .inl rfl | exact .inr rfl))) (fun _ _ _ _ _ => (pts_one (pt_cmpR (op_ltD (hu2 hr)) (pv 4) (pv 2) (nomark _)))) (fun _ _ _ _ _ => (pv 4))) pa_nil))) (pss_one (ps_if (PW.pt (pw_or (pt_cmpR op_eq (pv 3) (pe_callB call_len_seq (by rfl) B.len (by decide +kernel) (pa_cons (pv 1) pa_nil)) (nomark _)) (pw_or1 (pt_cmpR (op_neD (hu2 hr)) (pe_ix ix_list (pv 1) (pv 3) (fun _ _ => rfl)) (pv 2) (nomark _))))) (pss_one (ps_set (i := 1) sc_q_sorted.nd rfl (.inl rfl) (pe_op op_cat (pe_op op_cat (pe_slice sl_list (pv 1) po_none (po_some (pv 3))) (pe_lst (pa_cons (pv 2) pa_nil))) (pe_slice sl_list (pv 1) (po_some (pv 3)) po_none)))) pss_nil)))) (pss_one (ps_ret (pv 1))))), ?_⟩
    refine ⟨Nat.zero_le _, fun l hl0 => ?_⟩
    have s1 := Same.new (o := .lst []) hl0
    refine ⟨_, rfl, a, rfl, for_seq (M := NoM) nsN (.inl ha) (fun i σ H2 => ∃ l y2 y3 y4 fs, σ = [some (.ref a), some (.ref l), y2, y3, y4] ∧ Same H H2 ∧ H2 l = some (.lst fs) ∧ DpL K H2 E'.e fs (lsort E' (xs.take i))) ⟨l, none, none, none, [], rfl, s1, upd_same, .nil⟩ ?_ ?_ ?_⟩
    · rintro i σ H2 _ ⟨_, _, _, _, _, _, s2, _⟩
      exact Same.kp s2
    · rintro i v σ H2 hi ⟨l, y2, y3, y4, fs, rfl, s2, h2, hfs⟩ hv
      obtain ⟨x, hx, hxv⟩ := hus.get hv
      have hxv2 := dp_same s2 _ _ hxv
      have hfl : (lsort E' (xs.take i)).length ≤ 1000 := by
        have h := lsort_length (E := E') (xs.take i) []
        rw [List.length_take] at h
        simp only [List.length_nil, Nat.zero_add] at h
        exact Nat.le_trans h (by omega)
      refine ⟨_, rfl, l, rfl, .inl ⟨⟨fs, .inl (.inl h2)⟩, ?_⟩⟩
      refine lc_gen (J := Itl K l) (n := fs.length) (G := fun H => SqL K H l fs) (Y := YAt fs) walk_list env0 (H0 := H2) (β := Unit) trivial (fun H' k _ => .inl (.inl (k.same l _ h2))) (fun _ _ _ _ => True) (fun _ _ _ _ _ _ _ _ => trivial) (fun _ _ _ _ _ _ _ _ _ => trivial) (fun j zs => zs.length = (((lsort E' (xs.take i)).take j).filter fun y => E'.lt y x).length) rfl (by rw [hfs.len]; omega) ?_ ?_
      · rintro D j u H3 _ zs ws Ry Rn _ hj iv _ _ k3 _ ⟨rfl, hu⟩ ry rn
        obtain ⟨y, hy, hyv⟩ := hfs.get hu
        have e1 : ((lsort E' (xs.take i)).take (j + 1)).filter (fun y => E'.lt y x) = ((lsort E' (xs.take i)).take j).filter (fun y => E'.lt y x) ++ if E'.lt y x = true then [y] else [] := by
          rw [List.take_add_one, hy, List.filter_append]
          congr 1
          show List.filter _ [y] = _
          rw [List.filter_cons, List.filter_nil]
        refine ⟨rfl, _, rfl, _, rfl, E'.e y, E'.e x, dp_same k3.same _ _ hyv, dp_same k3.same _ _ hxv2, E'.al y x, ek.nn y, ek.dp y, _, rfl, ?_⟩
        show if E'.lt y x = true then _ else _
        cases hlt : E'.lt y x with
        | true =>
          refine iteT ⟨_, rfl, ry _ _ () Kp.refl trivial trivial ?_⟩
          rw [e1, if_pos hlt, List.length_append, List.length_append, iv]
          rfl
        | false =>
          refine iteF (rn _ Kp.refl trivial ?_)
          rw [e1, hlt, if_neg Bool.false_ne_true, List.append_nil, iv]
      · rintro D ws zs H3 hD k3 _ hw hpz iv
        have s3 := k3.same
        have lw : ws.length = ((lsort E' (xs.take i)).filter fun y => E'.lt y x).length := by
          rw [Paired.length hpz, iv, hfs.len, List.take_length]
        have h3 := s3 _ _ h2
        have hfs3 := hfs.same s3
        have hxv3 := dp_same s3 _ _ hxv2
        have at_le : ws.length ≤ (lsort E' (xs.take i)).length := by
          rw [lw]
          exact List.length_filter_le ..
        have es : lsort E' (xs.take (i + 1)) = ins E' (lsort E' (xs.take i)) x := by
          rw [List.take_add_one, hx]
          show List.foldl _ _ (xs.take i ++ [x]) = _
          rw [List.foldl_append]
          rfl
        have add : ∀ (k : ws.length = (lsort E' (xs.take i)).length ∨ (lsort E' (xs.take i))[ws.length]? ≠ some x), lsort E' (xs.take (i + 1)) = (lsort E' (xs.take i)).take ws.length ++ [x] ++ (lsort E' (xs.take i)).drop ws.length := fun k => by
          rw [es]
          unfold ins
          rw [← lw]
          exact if_pos k
        refine ⟨D, ws, rfl, .inl (.inl (.inl hw)), ?_⟩
        refine ⟨_, rfl, _, rfl, l, fs, rfl, .inl (.inl (.inl h3)), rfl, _, rfl, ?_⟩
        refine ite2 (fun e => ?_) (fun e => ?_)
        · have k : ws.length = (lsort E' (xs.take i)).length ∨ (lsort E' (xs.take i))[ws.length]? ≠ some x := .inl (by
            have e1 := V.int.inj (of_decide_eq_true e)
            rw [hfs.len] at e1
            omega)
          refine iteT ?_
          refine ⟨_, rfl, _, rfl, _, rfl, l, fs, rfl, .inl (.inl h3), fun p1 hp1 => ?_⟩
          rw [cut_to fs ws.length (by rw [hfs.len]; exact at_le)]
          have t1 := Same.new (o := .lst (fs.take ws.length)) hp1
          refine ⟨_, rfl, sz1, fun p2 hp2 => ?_⟩
          have t2 := Same.new (o := .lst [v]) hp2
          have q1 := t2 _ _ (upd_same (H := H3) (a := p1) (o := .lst (fs.take ws.length)))
          refine ⟨p1, p2, _, _, rfl, rfl, q1, upd_same, ?_, fun p3 hp3 => ?_⟩
          · rw [List.length_take]
            exact szn (by show min ws.length fs.length + 1 ≤ 100000; rw [hfs.len]; omega)
          have t3 := Same.new (o := .lst (fs.take ws.length ++ [v])) hp3
          have h6 := t3 _ _ (t2 _ _ (t1 _ _ h3))
          refine ⟨_, rfl, _, rfl, _, rfl, l, fs, rfl, .inl (.inl h6), fun p4 hp4 => ?_⟩
          rw [cut_from fs ws.length (by rw [hfs.len]; exact at_le)]
          have t4 := Same.new (o := .lst (fs.drop ws.length)) hp4
          have q3 := t4 _ _ (upd_same (H := upd (upd H3 p1 (.lst (fs.take ws.length))) p2 (.lst [v])) (a := p3) (o := .lst (fs.take ws.length ++ [v])))
          refine ⟨p3, p4, _, _, rfl, rfl, q3, upd_same, ?_, fun p5 hp5 => ?_⟩
          · rw [List.length_append, List.length_take, List.length_drop]
            exact szn (by show min ws.length fs.length + 1 + (fs.length - ws.length) ≤ 100000; rw [hfs.len]; omega)
          have t5 := Same.new (o := .lst (fs.take ws.length ++ [v] ++ fs.drop ws.length)) hp5
          have tA := same_trans t1 (same_trans t2 (same_trans t3 (same_trans t4 t5)))
          refine ⟨p5, _, _, _, _, rfl, same_trans s2 (same_trans s3 tA), upd_same, ?_⟩
          rw [add k]
          exact (((dpl_take ws.length hfs3).snoc hxv3).append (dpl_drop ws.length hfs3)).same tA
        · have lt : ws.length < (lsort E' (xs.take i)).length := by
            refine Nat.lt_of_le_of_ne at_le fun z => e (decide_eq_true ?_)
            show V.int (ws.length : Int) = V.int (fs.length : Int)
            rw [z, hfs.len]
          obtain ⟨y, hy⟩ : ∃ y, (lsort E' (xs.take i))[ws.length]? = some y := ⟨_, List.getElem?_eq_getElem lt⟩
          obtain ⟨u, hu, hyu⟩ := hfs3.getr hy
          have ym : y ∈ xs := List.mem_of_mem_take (lsort_mem.mp (List.mem_of_getElem? hy))
          refine ⟨_, rfl, _, rfl, l, fs, _, u, rfl, rfl, .inl (.inl h3), atI_nat hu, _, rfl, E'.e y, E'.e x, hyu, hxv3, ek.sh y ym, ek.sh x (List.mem_of_getElem? hx), _, rfl, ?_⟩
          rw [E'.eqv]
          by_cases hyx : y = x
          · rw [decide_eq_true hyx]
            refine iteF ?_
            refine ⟨l, _, _, _, fs, rfl, same_trans s2 s3, h3, ?_⟩
            have e5 : lsort E' (xs.take (i + 1)) = lsort E' (xs.take i) := by
              rw [es]
              unfold ins
              rw [← lw]
              refine if_neg fun z => ?_
              rcases z with z | z
              · omega
              · exact z (by rw [hy, hyx])
            rw [e5]
            exact hfs3
          · rw [decide_eq_false hyx]
            have k : ws.length = (lsort E' (xs.take i)).length ∨ (lsort E' (xs.take i))[ws.length]? ≠ some x := .inr (by
              rw [hy]
              exact fun z => hyx (Option.some.inj z))
            refine iteT ?_
            refine ⟨_, rfl, _, rfl, _, rfl, l, fs, rfl, .inl (.inl h3), fun p1 hp1 => ?_⟩
            rw [cut_to fs ws.length (by rw [hfs.len]; exact at_le)]
            have t1 := Same.new (o := .lst (fs.take ws.length)) hp1
            refine ⟨_, rfl, sz1, fun p2 hp2 => ?_⟩
            have t2 := Same.new (o := .lst [v]) hp2
            have q1 := t2 _ _ (upd_same (H := H3) (a := p1) (o := .lst (fs.take ws.length)))
            refine ⟨p1, p2, _, _, rfl, rfl, q1, upd_same, ?_, fun p3 hp3 => ?_⟩
            · rw [List.length_take]
              exact szn (by show min ws.length fs.length + 1 ≤ 100000; rw [hfs.len]; omega)
            have t3 := Same.new (o := .lst (fs.take ws.length ++ [v])) hp3
            have h6 := t3 _ _ (t2 _ _ (t1 _ _ h3))
            refine ⟨_, rfl, _, rfl, _, rfl, l, fs, rfl, .inl (.inl h6), fun p4 hp4 => ?_⟩
            rw [cut_from fs ws.length (by rw [hfs.len]; exact at_le)]
            have t4 := Same.new (o := .lst (fs.drop ws.length)) hp4
            have q3 := t4 _ _ (upd_same (H := upd (upd H3 p1 (.lst (fs.take ws.length))) p2 (.lst [v])) (a := p3) (o := .lst (fs.take ws.length ++ [v])))
            refine ⟨p3, p4, _, _, rfl, rfl, q3, upd_same, ?_, fun p5 hp5 => ?_⟩
            · rw [List.length_append, List.length_take, List.length_drop]
              exact szn (by show min ws.length fs.length + 1 + (fs.length - ws.length) ≤ 100000; rw [hfs.len]; omega)
            have t5 := Same.new (o := .lst (fs.take ws.length ++ [v] ++ fs.drop ws.length)) hp5
            have tA := same_trans t1 (same_trans t2 (same_trans t3 (same_trans t4 t5)))
            refine ⟨p5, _, _, _, _, rfl, same_trans s2 (same_trans s3 tA), upd_same, ?_⟩
            rw [add k]
            exact (((dpl_take ws.length hfs3).snoc hxv3).append (dpl_drop ws.length hfs3)).same tA
    · rintro σ H2 ⟨l, y2, y3, y4, fs, rfl, s2, h2, hfs⟩
      rw [hus.len, List.take_length] at hfs
      exact ⟨_, rfl, q l fs H2 s2 h2 hfs⟩
end
end K8
/-! K8L2: the law's own product and polynomial. -/
namespace K8
open PySem PySem.Spec PyProof.Rows L2
section
variable {P : Program} {w : World} {K : PySem.W.Frag} {mg : Str → Option Value} {base : Heap}
/-- a text that can stand in data -/
def SOk (x : Str) : Prop := SeqAt.shaped (.str x) = true
theorem SOk.lay {x : Str} (h : SOk x) : PyData.canLay0 (.str x) = true := SeqAt.canLay_of_shaped h
theorem shaped_of {d : PyData} (h : d.canLay0 = true) (hd : d.depth ≤ 64) : SeqAt.shaped d = true := by
  unfold SeqAt.shaped
  rw [h, decide_eq_true hd]
  rfl
theorem lay_all {α : Type} {e : α → PyData} : ∀ {xs : List α}, (∀ x ∈ xs, (e x).canLay0 = true) → PyData.canLayAll0 (xs.map e) = true
  | [], _ => rfl
  | x :: xs, h => by
    show (PyData.canLay0 (e x) && PyData.canLayAll0 (xs.map e)) = true
    rw [h x List.mem_cons_self, lay_all fun y hy => h y (List.mem_cons_of_mem _ hy)]
    rfl
theorem lay_pair {p : Str × Nat} (h : SOk p.1) : (ePair p).canLay0 = true := by
  show (PyData.canLay0 (.str p.1) && (PyData.canLay0 (.int p.2) && true)) = true
  rw [h.lay]
  rfl
theorem lay_mono {m : Mono} (h : ∀ k ∈ keys m, SOk k) : (eMono m).canLay0 = true := lay_all fun p hp => lay_pair (h p.1 (List.mem_map.mpr ⟨p, hp, rfl⟩))
theorem encOk_str {xs : List Str} (h : ∀ x ∈ xs, SOk x) : EncOk encStr xs := ⟨h, fun _ z => (by cases z), fun _ => Nat.zero_le _⟩
theorem encOk_mono {ms : List Mono} (h : ∀ m ∈ ms, ∀ k ∈ keys m, SOk k) : EncOk encMono ms := ⟨fun m hm => shaped_of (lay_mono (h m hm)) (Nat.le_trans (depth_mono m) (by decide)), fun _ z => (by cases z), fun m => Nat.le_trans (depth_mono m) (by decide)⟩
theorem walk_keysS {d : Addr} {o : Obj} {kvs : List (Str × Nat)} : Walk (Itk d o (tK natV kvs)) ((keys kvs).map V.str).length (fun H => H d = some (.frz o (.dK (tK natV kvs)))) (YAt ((keys kvs).map V.str)) := by
  have h := walk_keys (d := d) (o := o) (kvs := tK natV kvs)
  have e : ((keys kvs).map V.str).length = (tK natV kvs).length := by
    rw [tK_len]
    unfold keys
    rw [List.length_map, List.length_map]
  rw [e]
  refine h.mono (fun H q => q) fun i H x H' _ _ y => ⟨y.1, ?_⟩
  obtain ⟨k, v, h1, h2⟩ := y.2
  unfold tK at h1
  rw [List.getElem?_map] at h1
  unfold keys
  rw [List.getElem?_map, List.getElem?_map]
  cases hk : kvs[i]? with
  | none =>
    rw [hk] at h1
    cases h1
  | some p =>
    rw [hk] at h1
    have e1 := Option.some.inj h1
    have e2 : k = Sum.inr p.1 := (congrArg Prod.fst e1).symm
    rw [h2, e2]
    rfl
theorem keys_append {κ β : Type} (a b : List (κ × β)) : keys (a ++ b) = keys a ++ keys b := by
  unfold keys
  rw [List.map_append]
theorem keys_len {κ β : Type} (a : List (κ × β)) : (keys a).length = a.length := by
  unfold keys
  rw [List.length_map]
theorem dp_strs {H : Hp} : ∀ xs : List Str, DpL K H encStr.e (xs.map V.str) xs
  | [] => .nil
  | x :: xs => .cons (.str x) (dp_strs xs)
theorem dpl_strs_inv {H : Hp} : ∀ {vs : List V} {xs : List Str}, DpL K H PyData.str vs xs → vs = xs.map V.str
  | _, _, .nil => rfl
  | _, _, .cons h t => by
    rw [dp_str_inv h, dpl_strs_inv t]
    rfl
theorem tally_keys0 (ts : List (Str × Nat)) (k : Str) (h : k ∈ keys (tally [] ts)) : k ∈ keys ts := by
  rcases (tally_keys ts [] k).mp h with q | q
  · exact absurd q (by simp [keys])
  · exact q
theorem getD_of_key {κ : Type} [DecidableEq κ] {kvs : List (κ × Nat)} {k : κ} (h : k ∈ keys kvs) : get? kvs k = some ((get? kvs k).getD 0) := by
  cases e : get? kvs k with
  | none => exact absurd h (get?_none.mp e)
  | some n => rfl
abbrev n_q_product : List Str := ["_law_one_here", "_law_other", "_law_powers", "_law_token", "_law_number", "_law_key"]
theorem sc_q_product : FnScope n_q_product ["_law_one_here", "_law_other"] (defScope s_q_product) := ⟨rfl, rfl, rfl, by decide +kernel, rfl, by decide +kernel, by decide +kernel⟩

def spProd (K : PySem.W.Frag) : Sp := fun vs H Q _ => ∃ (v u : V) (a b : Mono), vs = [v, u] ∧ Dp K H v (eMono a) ∧ Dp K H u (eMono b) ∧ (∀ k ∈ keys (a ++ b), SOk k) ∧ (a ++ b).length ≤ 1000 ∧ ∀ v' H', Same H H' → Dp K H' v' (eMono (mprod a b)) → Q v' H'
theorem ok_prod {f : Addr} {fd : FuncData} (B : Bl mg) (c_q_sorted : Cal P w K mg base 1 "_law_sorted" ["_law_rows"] (spSorted K)) (F : FnP K "_law_product" s_q_product f fd) (hm : mg "_law_product" = some (.ref f)) : Cal P w K mg base 2 "_law_product" ["_law_one_here", "_law_other"] (spProd K) := by
  refine cal_mk F (F.ok sc_q_product (fun vs H Q E h => ?_) (fun cdv A outer s H vs Q E hr h => ?_)) hm (fun _ _ _ _ _ _ us hl => match us, hl with | [_, _], _ => rfl) (fun _ _ _ _ _ _ us hl => match us, hl with | [_, _], _ => rfl)
  · obtain ⟨v, u, a, b, rfl, _⟩ := h
    rfl
  · obtain ⟨v, u, a, b, rfl, ha, hb, hk, hl, q⟩ := h
    refine ⟨_, PSs.nox (pss_cons (ps_set (i := 2) sc_q_product.nd rfl (.inr rfl) pe_dnewK) (pss_cons (ps_for PassesOwn.never rfl (pi_seq (pe_op op_catU (pv 0) (pv 1))) (pg_seq rfl (pgs_cons (pg_name (i := 3) sc_q_product.nd rfl (.inl rfl)) (pgs_cons (pg_name (i := 4) sc_q_product.nd rfl (.inl rfl)) pgs_nil))) (pss_one (ps_dput (hu1 hr) (pv 2) (pv 3) (pe_op op_add (pe_dget2 (hu1 hr) (pv 2) (pv 3) pe_int ⟨by rfl, by rfl, by rfl, by rfl⟩) (pv 4)) rfl))) (pss_one (ps_ret (pe_callTy call_tuple_of (by rfl) B.tuple (by decide +kernel) (pa_cons (pe_lc (own := [("_law_token", 3)]) (g := _) (tt := _) (te := _) rfl sc_q_product.nd (pi_seq (pe_u c_q_sorted hr (by decide) (by rfl) (pa_cons (pe_lock (pe_lc (own := [("_law_key", 5)]) (g := _) (tt := _) (te := _) rfl sc_q_product.nd (pi_keys (pv 2)) (blkOk_by (N := n_q_product) (sc := defScope s_q_product) (by decide +kernel)) (fun _ _ _ _ _ => (pg_name (i := 5) sc_q_product.nd rfl (.inl rfl) (by first | exact .inl rfl | exact .inr rfl))) (fun _ _ _ _ _ => pts_nil) (fun _ _ _ _ _ => (pv 5)))) pa_nil))) (blkOk_by (N := n_q_product) (sc := defScope s_q_product) (by decide +kernel)) (fun _ _ _ _ _ => (pg_name (i := 3) sc_q_product.nd rfl (.inl rfl) (by first | exact .inl rfl | exact .inr rfl))) (fun _ _ _ _ _ => pts_nil) (fun _ _ _ _ _ => (pe_tup (pa_cons (pv 3) (pa_cons (pe_dget (hu1 hr) (pv 2) (pv 3) (fun _ _ => rfl)) pa_nil))))) pa_nil)))))), ?_⟩
    obtain ⟨x, us, rfl, hx, hus⟩ := dp_mono_inv ha
    obtain ⟨y, ws, rfl, hy, hws⟩ := dp_mono_inv hb
    refine fun d hd => ?_
    have s1 := Same.new (o := .dK []) hd
    refine ⟨_, rfl, _, rfl, x, y, us, ws, rfl, rfl, same_t s1 hx, same_t s1 hy, by rw [hus.len, hws.len, ← List.length_append]; omega, fun z H1 s2 hz => ?_⟩
    have sA := same_trans s1 s2
    have hd1 := s2 _ _ (upd_same (H := H) (a := d) (o := .dK []))
    have hall : DpL K H1 ePair (us ++ ws) (a ++ b) := (hus.append hws).same sA
    have z1 : NoSeq (atA d) H1 := ns_dK (.inl hd1)
    refine ⟨z, rfl, for_seq (M := atA d) z1 (.inr hz) (fun i σ H2 => ∃ y3 y4 y5, σ = [some (.ref x), some (.ref y), some (.ref d), y3, y4, y5] ∧ Kp (atA d) H1 H2 ∧ H2 d = some (.dK (tK natV (tally [] ((a ++ b).take i))))) ⟨none, none, none, rfl, Kp.refl, hd1⟩ ?_ ?_ ?_⟩
    · rintro i σ H2 _ ⟨_, _, _, _, s3, _⟩
      exact s3
    · rintro i v σ H2 hi ⟨y3, y4, y5, rfl, s3, h2⟩ hv
      obtain ⟨p, hp, hvp⟩ := hall.get hv
      obtain ⟨c, rfl, hc⟩ := dp_pr_inv hvp
      refine ⟨c, _, rfl, .inr (kp_t z1 s3 hc), rfl, _, _, rfl, _, _, rfl, rfl, ?_⟩
      refine ⟨_, rfl, d, rfl, isD_of h2, _, rfl, _, DGet.k (k := Sum.inr p.1) h2, _, rfl, _, _, get?_getD_int _ _, rfl, _, rfl, _, rfl, d, _, rfl, DPut.k (k := Sum.inr p.1) h2 ?_, _, _, _, rfl, s3.trans kp_upd, ?_⟩
      · rw [tK_len]
        have := tally_length ((a ++ b).take i) []
        rw [List.length_take] at this
        simp only [List.length_nil, Nat.zero_add] at this
        exact szl (by omega)
      · rw [upd_same]
        have e2 : tally [] ((a ++ b).take (i + 1)) = put (tally [] ((a ++ b).take i)) p.1 ((get? (tally [] ((a ++ b).take i)) p.1).getD 0 + p.2) := by
          rw [List.take_add_one, hp]
          show tally [] ((a ++ b).take i ++ [p]) = _
          rw [tally_snoc]
          rfl
        rw [e2, ← tK_put]
        rfl
    · rintro σ H2 ⟨y3, y4, y5, rfl, s3, h2⟩
      have ez : (us ++ ws).length = (a ++ b).length := by
        rw [List.length_append, List.length_append, hus.len, hws.len]
      rw [ez, List.take_length] at h2
      have sB : Same H H2 := kp_atA_mut sA hd s3
      generalize hkv : tally [] (a ++ b) = kvs at h2
      have nd : (keys kvs).Nodup := by
        rw [← hkv]
        exact tally_nodup _ _ List.nodup_nil
      have lk : kvs.length ≤ 1000 := by
        have := tally_length (a ++ b) []
        rw [hkv] at this
        simp only [List.length_nil, Nat.zero_add] at this
        omega
      refine ⟨d, _, h2, trivial, fun od => ?_⟩
      refine ⟨_, rfl, d, od, rfl, .inl ⟨_, upd_same, lc_map (K := K) (us := (keys kvs).map V.str) (xs := keys kvs) (ev := fun _ v x => v = V.str x) walk_keysS (fun H' e => e d _ upd_same) (paired_self (keys kvs)) PyData.str (fun _ => rfl) id (by rw [keys_len]; omega) ?_ ?_⟩⟩
      · rintro v k H3 Ry Rn hkm rfl s4 ry
        exact ⟨rfl, _, rfl, ry _ _ Same.rfl' (.str _)⟩
      · rintro D ls H3 hD s4 hw3 hd3
        rw [List.map_id] at hd3
        have el := dpl_strs_inv hd3
        subst el
        have hfr := s4 d _ upd_same
        have nDd : D ≠ d := fun e => by
          rw [e, upd_same] at hD
          cases hD
        have sU : Same H2 (upd H3 d (.dK (tK natV kvs))) := fun a u h => by
          by_cases e : a = d
          · subst e
            rw [upd_same]
            exact h2 ▸ h
          · rw [upd_ne e]
            exact s4 a u (by rw [upd_ne e]; exact h)
        have hw4 : (upd H3 d (.dK (tK natV kvs))) D = some (.lst ((keys kvs).map V.str)) := by
          rw [upd_ne nDd]
          exact hw3
        have hd4 : (upd H3 d (.dK (tK natV kvs))) d = some (.dK (tK natV kvs)) := upd_same
        have ok : EncOk encStr (keys kvs) := encOk_str fun k hkm => hk k (tally_keys0 _ _ (by rw [hkv]; exact hkm))
        refine ⟨hfr, D, Str, inferInstance, encStr, _, keys kvs, rfl, .inl (.inl hw4), dp_strs _, ok, by rw [keys_len]; omega, fun l ms H5 s5 hl5 hms => ?_⟩
        have ll : (lsort encStr (keys kvs)).length ≤ 1000 := by
          have := lsort_length (E := encStr) (keys kvs) []
          simp only [List.length_nil, Nat.zero_add] at this
          rw [keys_len] at this
          exact Nat.le_trans this lk
        refine ⟨l, rfl, lc_seq (K := K) (xs := lsort encStr (keys kvs)) (ev := fun H v k => Dp K H v (.str k)) (.inl (.inl (.inl hl5))) Same.rfl' hms ePair nol_pair (fun k => (k, (get? kvs k).getD 0)) (by omega) ?_ ?_⟩
        · rintro v k H6 Ry Rn hkm hv s6 ry
          obtain rfl := dp_str_inv hv
          have hg := getD_of_key (lsort_mem.mp hkm)
          have h6 := s6 _ _ (s5 _ _ hd4)
          have hget : DGet H6 d (.str k) (some (natV ((get? kvs k).getD 0))) := by
            have := DGet.k (k := Sum.inr k) h6
            rw [tK_val, hg] at this
            exact this
          refine ⟨rfl, _, rfl, _, rfl, _, rfl, d, _, rfl, hget, sz2, fun p hp => ry _ _ (Same.new hp) ?_⟩
          exact dp_pair (.inl (.inl upd_same)) (.str _) (.int _)
        · rintro g gs H6 hg s6 hg6 hgs
          refine ⟨g, gs, rfl, .inl ⟨.inl (.inl hg6), fun t ht => ?_⟩⟩
          refine q _ _ (same_trans sB (same_trans sU (same_trans s5 (same_trans s6 (Same.new ht))))) (dp_tup (.inl (.inl upd_same)) ?_)
          have e : mprod a b = (lsort encStr (keys kvs)).map fun k => (k, (get? kvs k).getD 0) := by
            rw [← hkv]
            rfl
          rw [e]
          exact hgs.same (Same.new ht)
end
end K8
/-! K8L3: the law's own polynomial, plus and times. -/
namespace K8
open PySem PySem.Spec PyProof.Rows L2
section
variable {P : Program} {w : World} {K : PySem.W.Frag} {mg : Str → Option Value} {base : Heap}
theorem tally_keysM (ts : Poly) (k : Mono) (h : k ∈ keys (tally [] ts)) : k ∈ keys ts := by
  rcases (tally_keys ts [] k).mp h with q | q
  · exact absurd q (by simp [keys])
  · exact q
abbrev n_q_poly : List Str := ["_law_terms", "_law_many", "_law_monomial", "_law_number", "_law_key"]
theorem sc_q_poly : FnScope n_q_poly ["_law_terms"] (defScope s_q_poly) := ⟨rfl, rfl, rfl, by decide +kernel, rfl, by decide +kernel, by decide +kernel⟩

def spPoly (K : PySem.W.Frag) : Sp := fun vs H Q _ => ∃ (a : Addr) (us : List V) (ts : Poly), vs = [.ref a] ∧ SqL K H a us ∧ DpL K H eTerm us ts ∧ ts.length ≤ 1000 ∧ (∀ t ∈ ts, ∀ k ∈ keys t.1, SOk k) ∧ ∀ v' H', Same H H' → Dp K H' v' (ePoly (canon encMono (tally [] ts))) → Q v' H'
theorem ok_poly {f : Addr} {fd : FuncData} (B : Bl mg) (c_q_sorted : Cal P w K mg base 1 "_law_sorted" ["_law_rows"] (spSorted K)) (F : FnP K "_law_poly" s_q_poly f fd) (hm : mg "_law_poly" = some (.ref f)) : Cal P w K mg base 2 "_law_poly" ["_law_terms"] (spPoly K) := by
  refine cal_mk F (F.ok sc_q_poly (fun vs H Q E h => ?_) (fun cdv A outer s H vs Q E hr h => ?_)) hm (fun _ _ _ _ _ _ us hl => match us, hl with | [_], _ => rfl) (fun _ _ _ _ _ _ us hl => match us, hl with | [_], _ => rfl)
  · obtain ⟨a, us, ts, rfl, _⟩ := h
    rfl
  · obtain ⟨x, us, ts, rfl, hx, hus, hl, hk, q⟩ := h
    refine ⟨_, PSs.nox (pss_cons (ps_set (i := 1) sc_q_poly.nd rfl (.inr rfl) pe_mnew) (pss_cons (ps_for PassesOwn.never rfl (pi_seq (pv 0)) (pg_seq rfl (pgs_cons (pg_name (i := 2) sc_q_poly.nd rfl (.inl rfl)) (pgs_cons (pg_name (i := 3) sc_q_poly.nd rfl (.inl rfl)) pgs_nil))) (pss_one (ps_mput (hu2 hr) (pv 1) (pv 2) (pe_op op_add (pe_mget2 (hu2 hr) (pv 1) (pv 2) pe_int ⟨by rfl, by rfl, by rfl, by rfl⟩) (pv 3)) (by rfl)))) (pss_one (ps_ret (pe_callTy call_tuple_of (by rfl) B.tuple (by decide +kernel) (pa_cons (pe_lc (own := [("_law_monomial", 2)]) (g := _) (tt := _) (te := (tTup (tCons _ (tCons (tMGet P w K _ _) _)))) rfl sc_q_poly.nd (pi_seq (pe_u c_q_sorted hr (by decide) (by rfl) (pa_cons (pe_lock (pe_lc (own := [("_law_key", 4)]) (g := _) (tt := _) (te := _) rfl sc_q_poly.nd (pi_keysMo (pv 1)) (blkOk_by (N := n_q_poly) (sc := defScope s_q_poly) (by decide +kernel)) (fun _ _ _ _ _ => (pg_name (i := 4) sc_q_poly.nd rfl (.inl rfl) (by first | exact .inl rfl | exact .inr rfl))) (fun _ _ _ _ _ => pts_nil) (fun _ _ _ _ _ => (pv 4)))) pa_nil))) (blkOk_by (N := n_q_poly) (sc := defScope s_q_poly) (by decide +kernel)) (fun _ _ _ _ _ => (pg_name (i := 2) sc_q_poly.nd rfl (.inl rfl) (by first | exact .inl rfl | exact .inr rfl))) (fun _ _ _ _ _ => pts_nil) (fun _ _ _ _ _ => (pe_tup (pa_cons (pv 2) (pa_cons (pe_mget (hu2 hr) (pv 1) (pv 2) (fun _ _ => rfl)) pa_nil))))) pa_nil)))))), ?_⟩
    refine fun d hd => ?_
    have s1 : Same H (upd H d (MO P w d [] [])) := Same.new hd
    have hd1 : (upd H d (MO P w d [] [])) d = some (MO P w d [] []) := upd_same
    have z1 : NoSeq (atA d) (upd H d (MO P w d [] [])) := rd_mo_ext (.inl hd1)
    have hus1 := hus.same s1
    refine ⟨_, rfl, x, rfl, for_seq (M := atA d) z1 (.inl (same_l s1 hx)) (fun i σ H4 => ∃ y2 y3 y4 as, σ = [some (.ref x), some (.ref d), y2, y3, y4] ∧ Kp (atA d) (upd H d (MO P w d [] [])) H4 ∧ H4 d = some (MO P w d as (tally [] (ts.take i))) ∧ DpL K H4 eMono (as.map V.ref) (keys (tally [] (ts.take i)))) ⟨none, none, none, [], rfl, Kp.refl, hd1, .nil⟩ ?_ ?_ ?_⟩
    · rintro i σ H4 _ ⟨_, _, _, _, _, s5, _⟩
      exact s5
    · rintro i e σ H4 hi ⟨y2, y3, y4, as, rfl, s5, h4, hks⟩ he
      obtain ⟨t, ht, hvt⟩ := hus1.get he
      obtain ⟨c, m, rfl, hc, hm⟩ := dp_term_inv (dp_kp z1 s5 _ _ hvt)
      obtain ⟨a, ms, rfl, ha, hms⟩ := dp_mono_inv hm
      refine ⟨c, _, rfl, .inr hc, rfl, _, _, rfl, _, _, rfl, rfl, ?_⟩
      have e2 : tally [] (ts.take (i + 1)) = put (tally [] (ts.take i)) t.1 ((get? (tally [] (ts.take i)) t.1).getD 0 + t.2) := by
        rw [List.take_add_one, ht]
        show tally [] (ts.take i ++ [t]) = _
        rw [tally_snoc]
        rfl
      refine ⟨_, rfl, d, as, _, rfl, ⟨.inl h4, hks⟩, _, rfl, a, t.1, 0, rfl, rfl, ⟨.inl h4, hks⟩, hm, _, rfl, _, _, rfl, rfl, ?_⟩
      refine ⟨_, rfl, _, rfl, d, as, _, a, t.1, _, congrArg V.int (getD_add _ _), rfl, rfl, h4, hks, hm, bump_len [] ts i (by show 0 + _ ≤ _; omega), ?_⟩
      rw [e2]
      exact ⟨_, _, _, _, rfl, s5.trans kp_upd, upd_same, mtab_put _ (.inl h4) kp_upd hks hm⟩
    · rintro σ H2 ⟨y2, y3, y4, as, rfl, s3, h2, hks⟩
      rw [hus.len, List.take_length] at h2 hks
      have sB : Same H H2 := kp_atA_mut s1 hd s3
      generalize hkv : tally [] ts = kvs at h2 hks
      have nd : (keys kvs).Nodup := by
        rw [← hkv]
        exact tally_nodup _ _ List.nodup_nil
      have lk : kvs.length ≤ 1000 := by
        have := tally_length ts []
        rw [hkv] at this
        simp only [List.length_nil, Nat.zero_add] at this
        omega
      have las : as.length = kvs.length := by
        have := hks.len
        rw [List.length_map, keys_len] at this
        exact this
      have z2 : NoSeq (atA d) H2 := rd_mo_ext (.inl h2)
      refine ⟨d, _, h2, trivial, fun od => ?_⟩
      have hks2 : DpL K (upd H2 d (.frz od (MO P w d as kvs))) eMono (as.map V.ref) (keys kvs) := hks.kp z2 kp_upd
      refine ⟨_, rfl, d, od, as, kvs, rfl, upd_same, lc_map (K := K) (us := as.map V.ref) (xs := keys kvs) (ev := fun H v m => Dp K H v (eMono m)) (walk_keysD las) (fun H' e => e d _ upd_same) hks2 eMono nol_mono id (by rw [keys_len]; omega) ?_ ?_⟩
      · rintro v m H3 Ry Rn hkm hv s4 ry
        exact ⟨rfl, _, rfl, ry _ _ Same.rfl' (dp_same s4 _ _ hv)⟩
      · rintro D ls H3 hD s4 hw3 hd3
        rw [List.map_id] at hd3
        have hfr := s4 d _ upd_same
        have nDd : D ≠ d := fun e => by
          rw [e, upd_same] at hD
          cases hD
        have sU : Same H2 (upd H3 d (MO P w d as kvs)) := fun a u h => by
          by_cases e : a = d
          · subst e
            rw [upd_same]
            exact h2 ▸ h
          · rw [upd_ne e]
            exact s4 a u (by rw [upd_ne e]; exact h)
        have hw4 : (upd H3 d (MO P w d as kvs)) D = some (.lst ls) := by
          rw [upd_ne nDd]
          exact hw3
        have hd4 : (upd H3 d (MO P w d as kvs)) d = some (MO P w d as kvs) := upd_same
        have hls4 : DpL K (upd H3 d (MO P w d as kvs)) eMono ls (keys kvs) := hd3.kp (rd_mo_ext (P := P) (w := w) (as := as) (kvs := kvs) (.inr ⟨od, hfr⟩)) kp_upd
        have ok : EncOk encMono (keys kvs) := encOk_mono fun m hkm => by
          rw [← hkv] at hkm
          obtain ⟨t, ht, e⟩ := List.mem_map.mp (tally_keysM _ _ hkm)
          rw [← e]
          exact hk t ht
        refine ⟨hfr, D, Mono, inferInstance, encMono, _, keys kvs, rfl, .inl (.inl hw4), hls4, ok, by rw [keys_len]; omega, fun l ms H5 s5 hl5 hms => ?_⟩
        have ll : (lsort encMono (keys kvs)).length ≤ 1000 := by
          have := lsort_length (E := encMono) (keys kvs) []
          simp only [List.length_nil, Nat.zero_add] at this
          rw [keys_len] at this
          exact Nat.le_trans this lk
        refine ⟨l, rfl, lc_seq (K := K) (xs := lsort encMono (keys kvs)) (ev := fun H v m => Dp K H v (eMono m)) (.inl (.inl (.inl hl5))) Same.rfl' hms eTerm nol_term (fun m => (m, (get? kvs m).getD 0)) (by omega) ?_ ?_⟩
        · rintro v m H6 Ry Rn hkm hv s6 ry
          have hv6 := dp_same s6 _ _ hv
          obtain ⟨a, ys, rfl, ha, hys⟩ := dp_mono_inv hv6
          have hg := getD_of_key (lsort_mem.mp hkm)
          have h6 := s6 _ _ (s5 _ _ hd4)
          have hks6 : DpL K H6 eMono (as.map V.ref) (keys kvs) := (hks.same (same_trans sU (same_trans s5 s6)))
          refine ⟨rfl, _, rfl, _, rfl, _, rfl, d, as, kvs, a, m, _, rfl, rfl, ⟨.inl h6, hks6⟩, hv6, hg, sz2, fun p hp => ry _ _ (Same.new hp) ?_⟩
          exact dp_pair (.inl (.inl upd_same)) (dp_same (Same.new hp) _ _ hv6) (.int _)
        · rintro g gs H6 hg s6 hg6 hgs
          refine ⟨g, gs, rfl, .inl ⟨.inl (.inl hg6), fun t ht => ?_⟩⟩
          refine q _ _ (same_trans sB (same_trans sU (same_trans s5 (same_trans s6 (Same.new ht))))) (dp_tup (.inl (.inl upd_same)) ?_)
          have e : canon encMono kvs = (lsort encMono (keys kvs)).map fun m => (m, (get? kvs m).getD 0) := rfl
          rw [hkv, e]
          exact hgs.same (Same.new ht)
def PSok (p : Poly) : Prop := ∀ t ∈ p, ∀ k ∈ keys t.1, SOk k
abbrev n_q_plus : List Str := ["_law_p", "_law_q"]
theorem sc_q_plus : FnScope n_q_plus ["_law_p", "_law_q"] (defScope s_q_plus) := ⟨rfl, rfl, rfl, by decide +kernel, rfl, by decide +kernel, by decide +kernel⟩

def spLPlus (K : PySem.W.Frag) : Sp := fun vs H Q _ => ∃ (v u : V) (p q : Poly), vs = [v, u] ∧ Dp K H v (ePoly p) ∧ Dp K H u (ePoly q) ∧ p.length + q.length ≤ 1000 ∧ PSok p ∧ PSok q ∧ ∀ v' H', Same H H' → Dp K H' v' (ePoly (pplus p q)) → Q v' H'
theorem ok_lplus {f : Addr} {fd : FuncData} (B : Bl mg) (c_q_poly : Cal P w K mg base 2 "_law_poly" ["_law_terms"] (spPoly K)) (F : FnP K "_law_plus" s_q_plus f fd) (hm : mg "_law_plus" = some (.ref f)) : Cal P w K mg base 3 "_law_plus" ["_law_p", "_law_q"] (spLPlus K) := by
  refine cal_mk F (F.ok sc_q_plus (fun vs H Q E h => ?_) (fun cdv A outer s H vs Q E hr h => ?_)) hm (fun _ _ _ _ _ _ us hl => match us, hl with | [_, _], _ => rfl) (fun _ _ _ _ _ _ us hl => match us, hl with | [_, _], _ => rfl)
  · obtain ⟨v, u, p, q, rfl, _⟩ := h
    rfl
  · obtain ⟨v, u, p, q, rfl, hp, hq, hl, kp, kq, k⟩ := h
    refine ⟨_, PSs.nox (pss_one (ps_ret (pe_u c_q_poly hr (by decide) (by rfl) (pa_cons (pe_op op_cat (pe_callTy call_list_of (by rfl) B.list (by decide +kernel) (pa_cons (pv 0) pa_nil)) (pe_callTy call_list_of (by rfl) B.list (by decide +kernel) (pa_cons (pv 1) pa_nil))) pa_nil)))), ?_⟩
    obtain ⟨x, us, rfl, hx, hus⟩ := dp_poly_inv hp
    obtain ⟨y, ws, rfl, hy, hws⟩ := dp_poly_inv hq
    refine ⟨_, rfl, x, us, rfl, .inr hx, fun l1 h1 => ?_⟩
    have s1 := Same.new (o := .lst us) h1
    refine ⟨_, rfl, y, ws, rfl, .inr (same_t s1 hy), fun l2 h2 => ?_⟩
    have s2 := Same.new (o := .lst ws) h2
    refine ⟨l1, l2, us, ws, rfl, rfl, s2 _ _ upd_same, upd_same, ?_, fun l3 h3 => ?_⟩
    · have a := hus.len
      have b := hws.len
      exact szn (by omega)
    have s3 := Same.new (o := .lst (us ++ ws)) h3
    have sA := same_trans s1 (same_trans s2 s3)
    refine ⟨l3, us ++ ws, p ++ q, rfl, .inl (.inl upd_same), (hus.append hws).same sA, ?_, ?_, fun v' H' s4 d4 => k v' H' (same_trans sA s4) d4⟩
    · rw [List.length_append]
      exact hl
    · intro t m
      exact (List.mem_append.mp m).elim (kp t) (kq t)
abbrev n_q_times : List Str := ["_law_p", "_law_q", "_law_terms", "_law_one_here", "_law_number", "_law_other", "_law_more"]
theorem sc_q_times : FnScope n_q_times ["_law_p", "_law_q"] (defScope s_q_times) := ⟨rfl, rfl, rfl, by decide +kernel, rfl, by decide +kernel, by decide +kernel⟩

def spLTimes (K : PySem.W.Frag) : Sp := fun vs H Q _ => ∃ (v u : V) (p q : Poly), vs = [v, u] ∧ Dp K H v (ePoly p) ∧ Dp K H u (ePoly q) ∧ FitX p q ∧ PSok p ∧ PSok q ∧ ∀ v' H', Same H H' → Dp K H' v' (ePoly (ptimes p q)) → Q v' H'
theorem ok_ltimes {f : Addr} {fd : FuncData} (B : Bl mg) (c_q_poly : Cal P w K mg base 2 "_law_poly" ["_law_terms"] (spPoly K)) (c_q_product : Cal P w K mg base 2 "_law_product" ["_law_one_here", "_law_other"] (spProd K)) (F : FnP K "_law_times" s_q_times f fd) (hm : mg "_law_times" = some (.ref f)) : Cal P w K mg base 3 "_law_times" ["_law_p", "_law_q"] (spLTimes K) := by
  refine cal_mk F (F.ok sc_q_times (fun vs H Q E h => ?_) (fun cdv A outer s H vs Q E hr h => ?_)) hm (fun _ _ _ _ _ _ us hl => match us, hl with | [_, _], _ => rfl) (fun _ _ _ _ _ _ us hl => match us, hl with | [_, _], _ => rfl)
  · obtain ⟨v, u, p, q, rfl, _⟩ := h
    rfl
  · obtain ⟨v, u, p, q, rfl, hp, hq, fx, kp, kq, k⟩ := h
    have fp := fx.p
    have fq := fx.q
    refine ⟨_, PSs.nox (pss_cons (ps_set (i := 2) sc_q_times.nd rfl (.inl rfl) (pe_lst pa_nil)) (pss_cons (ps_for PassesOwn.never rfl (pi_seq (pv 0)) (pg_seq rfl (pgs_cons (pg_name (i := 3) sc_q_times.nd rfl (.inr rfl)) (pgs_cons (pg_name (i := 4) sc_q_times.nd rfl (.inr rfl)) pgs_nil))) (pss_one (ps_set (i := 2) sc_q_times.nd rfl (.inl rfl) (pe_op op_cat (pv 2) (pe_lc (own := [("_law_other", 5), ("_law_more", 6)]) (g := (gSeq K 2 _)) (tt := _) (te := _) rfl sc_q_times.nd (pi_seq (pv 1)) (blkOk_by (N := n_q_times) (sc := defScope s_q_times) (by decide +kernel)) (fun _ _ _ _ _ => (pg_seq rfl (pgs_cons (pg_name (i := 5) sc_q_times.nd rfl (.inl rfl) (by first | exact .inl rfl | exact .inr rfl)) (pgs_cons (pg_name (i := 6) sc_q_times.nd rfl (.inl rfl) (by first | exact .inl rfl | exact .inr rfl)) pgs_nil)))) (fun _ _ _ _ _ => pts_nil) (fun _ _ _ _ _ => (pe_tup (pa_cons (pe_u c_q_product hr (by decide) (by rfl) (pa_cons (pv 3) (pa_cons (pv 5) pa_nil))) (pa_cons (pe_op op_mul (pv 4) (pv 6)) pa_nil))))))))) (pss_one (ps_ret (pe_u c_q_poly hr (by decide) (by rfl) (pa_cons (pv 2) pa_nil)))))), ?_⟩
    obtain ⟨x, us, rfl, hx, hus⟩ := dp_poly_inv hp
    obtain ⟨y, ws, rfl, hy, hws⟩ := dp_poly_inv hq
    refine ⟨Nat.zero_le _, fun l0 hl0 => ?_⟩
    have s0 := Same.new (o := .lst []) hl0
    refine ⟨_, rfl, x, rfl, for_seq (M := NoM) nsN (.inr hx) (fun i σ H2 => ∃ l y3 y4 y5 y6 fs, σ = [some (.ref x), some (.ref y), some (.ref l), y3, y4, y5, y6] ∧ Same H H2 ∧ H2 l = some (.lst fs) ∧ DpL K H2 eTerm fs (pterms (p.take i) q)) ⟨l0, none, none, none, none, [], rfl, s0, upd_same, .nil⟩ ?_ ?_ ?_⟩
    · rintro i σ H2 _ ⟨_, _, _, _, _, _, _, s2, _⟩
      exact Same.kp s2
    · rintro i e σ H2 hi ⟨l, y3, y4, y5, y6, fs, rfl, s2, h2, hfs⟩ he
      obtain ⟨t, ht, hvt⟩ := hus.get he
      have tm := List.mem_of_getElem? ht
      obtain ⟨c, m, rfl, hc, hm⟩ := dp_term_inv (dp_same s2 _ _ hvt)
      refine ⟨c, _, rfl, .inr hc, rfl, _, _, rfl, _, _, rfl, rfl, ?_⟩
      refine ⟨_, rfl, _, rfl, y, rfl, lc_seq (K := K) (xs := q) (ev := fun H v r => Dp K H v (eTerm r)) (.inr hy) s2 (hws.same s2) eTerm nol_term (fun r => (mprod t.1 r.1, t.2 * r.2)) (by have := fq.len; omega) ?_ ?_⟩
      · rintro v r H3 Ry Rn rm hv s3 ry
        obtain ⟨c2, m2, rfl, hc2, hm2⟩ := dp_term_inv (dp_same s3 _ _ hv)
        have hm3 := dp_same s3 _ _ hm
        refine ⟨c2, _, rfl, .inr hc2, rfl, _, _, rfl, _, _, rfl, rfl, rfl, ?_⟩
        have ct := fit_coef fp t tm
        refine ⟨_, rfl, _, rfl, m, m2, t.1, r.1, rfl, hm3, hm2, ?_, ?_, fun v4 H4 s4 d4 => ?_⟩
        · intro k' hk'
          rw [keys_append] at hk'
          exact (List.mem_append.mp hk').elim (kp t tm k') (kq r rm k')
        · rw [List.length_append]
          have a1 := len_csum (fp.ok.monos t tm).pos
          have a2 := fp.deg t tm
          have b1 := len_csum (fq.ok.monos r rm).pos
          have b2 := fq.deg r rm
          omega
        refine ⟨_, rfl, _, rfl, _, _, rfl, rfl, .inl ⟨by omega, by omega⟩, sz2, fun p4 hp4 => ry _ _ (same_trans s4 (Same.new hp4)) ?_⟩
        have dd := dp_pair (K := K) (.inl (.inl (upd_same (H := H4) (a := p4) (o := .tup [v4, .int (((t.2 : Nat) : Int) * ((r.2 : Nat) : Int))])))) (dp_same (Same.new hp4) _ _ d4) (.int _)
        exact dd
      · rintro D gs H3 hD s3 hw3 hgs
        have h3 := s3 _ _ h2
        refine ⟨l, D, fs, gs, rfl, rfl, h3, hw3, ?_, fun l2 hl2 => ?_⟩
        · have a1 := hfs.len
          have a2 := hgs.len
          have a3 := pterms_len_take fx i
          have a4 := fq.len
          rw [List.length_map] at a2
          exact szn (by omega)
        have s4 := Same.new (o := .lst (fs ++ gs)) hl2
        refine ⟨l2, _, _, _, _, _, rfl, same_trans s2 (same_trans s3 s4), upd_same, ?_⟩
        have e4 : pterms (p.take (i + 1)) q = pterms (p.take i) q ++ tline t q := by
          rw [List.take_add_one, ht]
          show pterms (p.take i ++ [t]) q = _
          rw [pterms_snoc]
        rw [e4]
        exact ((hfs.same s3).append hgs).same s4
    · rintro σ H2 ⟨l, y3, y4, y5, y6, fs, rfl, s2, h2, hfs⟩
      rw [hus.len, List.take_length] at hfs
      refine ⟨_, rfl, l, fs, pterms p q, rfl, .inl (.inl h2), hfs, ?_, ?_, fun v' H' s4 d4 => k v' H' (same_trans s2 s4) d4⟩
      · rw [length_pterms]
        exact Nat.le_trans fx.l (by decide)
      · intro t m k' hk'
        obtain ⟨a, ha, hb⟩ := List.mem_flatMap.mp m
        obtain ⟨b, hb, e⟩ := List.mem_map.mp hb
        rw [← e] at hk'
        exact (keys_mprod.mp hk').elim (kp a ha k') (kq b hb k')
end
end K8
/-! K8F6: tokens_of, raised_within. -/
namespace K8
open PySem PySem.Spec PyProof.Rows L2
section
variable {P : Program} {w : World} {K : PySem.W.Frag} {mg : Str → Option Value} {base : Heap}
abbrev tKU (ks : List (Str × Unit)) : List (Key × V) := tK (fun _ : Unit => V.bl true) ks
/-- the tokens of a polynomial, gathered -/
theorem dc2_tok {J : It} {us : List V} {p : Poly} {H1 : Hp} {G : Hp → Prop} {v : V} {Q : Addr → Hp → Prop} (wk : Walk J us.length G (YAt us)) (hG : ∀ H, Same H1 H → G H) (hp : FmL K H1 eTerm us p) (hl : p.length ≤ 400) (hm : ∀ t ∈ p, t.1.length ≤ 100)
    (fin : ∀ D H ks, H1 D = none → Same H1 H → H D = some (.dK (tKU ks)) → (keys ks).Nodup → (∀ k ∈ keys ks, ∃ t ∈ p, k ∈ keys t.1) → ks.length ≤ 40000 → Q D H) :
    ∀ D, H1 D = none → ∃ W : Nat → Nat → Hp → Prop, (∃ m, W 0 m (upd H1 D (.dK []))) ∧ ∀ i m H, W i m H →
      (J.stop i H ∧ Q D H) ∨ (J.go i H ∧ ∃ Nx : Hp → Prop, (∀ H', Nx H' → ∃ m', m' < m ∧ W (i + 1) m' H') ∧ ∀ x H', J.yld i H x H' → gSeq K 2 (gCons (gName 1) (gCons (gName 2) gNil)) x (wipe [some v, none, none, none] [1, 2, 3]) H' fun σ2 H2 => wipe σ2 [1, 2, 3] = wipe [some v, none, none, none] [1, 2, 3] ∧
        iSeq K (tVar 1) σ2 H2 fun J1 H4 => ∃ W1 : Nat → Nat → Hp → Prop, (∃ m, W1 0 m H4) ∧ ∀ j k H, W1 j k H →
          (J1.stop j H ∧ Nx H) ∨ (J1.go j H ∧ ∃ Nx1 : Hp → Prop, (∀ H', Nx1 H' → ∃ k', k' < k ∧ W1 (j + 1) k' H') ∧ ∀ x H', J1.yld j H x H' → gSeq K 2 (gCons (gName 3) (gCons (gName 2) gNil)) x (wipe σ2 [3, 2]) H' fun σ3 H5 => wipe σ3 [3, 2] = wipe σ2 [3, 2] ∧
            tVar 3 σ3 H5 fun y H6 => tC (.bl true) σ3 H6 fun z H7 => ∃ kvs k, y = kV k ∧ H7 D = some (.dK kvs) ∧ kvs.length < sizeLine ∧ Nx1 (upd H7 D (.dK (putK kvs k z))))) := by
  intro D hD
  have lx := hp.len
  let Inv : Nat → Hp → Prop := fun n H => Same H1 H ∧ ∃ ks, H D = some (.dK (tKU ks)) ∧ (keys ks).Nodup ∧ (∀ k ∈ keys ks, ∃ t ∈ p, k ∈ keys t.1) ∧ ks.length ≤ n
  refine ⟨fun i m H => m = us.length - i ∧ i ≤ us.length ∧ Inv (100 * i) H, ⟨us.length, by simp, Nat.zero_le _, Same.new hD, [], upd_same, List.nodup_nil, fun k h => by simp [keys] at h, Nat.le_refl _⟩, ?_⟩
  rintro i m H ⟨rfl, hi, s1, ks, hd, nd, hks, hlen⟩
  by_cases hlt : i < us.length
  · refine .inr ⟨wk.goes i H hlt (hG H s1), Inv (100 * (i + 1)), fun H' q => ⟨us.length - (i + 1), by omega, rfl, hlt, q⟩, fun x H' y => ?_⟩
    obtain ⟨rfl, hv⟩ := wk.yields i H x H' hlt (hG H s1) y
    obtain ⟨t, ht, hf⟩ := hp.get hv
    have tm := List.mem_of_getElem? ht
    obtain ⟨b, x1, x2, rfl, hb, f1, f2⟩ := fm_pair hf
    obtain rfl := fm_int f2
    obtain ⟨c, us1, rfl, hc, hu1⟩ := fm_tup f1
    refine ⟨b, _, rfl, same_a s1 hb, rfl, _, _, rfl, _, _, rfl, rfl, rfl, _, rfl, c, rfl, ?_⟩
    have inner : ∀ {J1 : It} {G1 : Hp → Prop}, Walk J1 us1.length G1 (YAt us1) → (∀ H, Same H1 H → G1 H) → ∃ W1 : Nat → Nat → Hp → Prop, (∃ m, W1 0 m H') ∧ ∀ j k H, W1 j k H →
          (J1.stop j H ∧ Inv (100 * (i + 1)) H) ∨ (J1.go j H ∧ ∃ Nx1 : Hp → Prop, (∀ H', Nx1 H' → ∃ k', k' < k ∧ W1 (j + 1) k' H') ∧ ∀ x H', J1.yld j H x H' → gSeq K 2 (gCons (gName 3) (gCons (gName 2) gNil)) x (wipe [some v, some (.ref c), some (.int (t.2 : Int)), none] [3, 2]) H' fun σ3 H5 => wipe σ3 [3, 2] = wipe [some v, some (.ref c), some (.int (t.2 : Int)), none] [3, 2] ∧
            tVar 3 σ3 H5 fun y H6 => tC (.bl true) σ3 H6 fun z H7 => ∃ kvs k, y = kV k ∧ H7 D = some (.dK kvs) ∧ kvs.length < sizeLine ∧ Nx1 (upd H7 D (.dK (putK kvs k z)))) := by
      intro J1 G1 wk1 hG1
      have lm := hm t tm
      have l1 := hu1.len
      refine ⟨fun j k H => k = us1.length - j ∧ j ≤ us1.length ∧ Inv (100 * i + j) H, ⟨us1.length, by simp, Nat.zero_le _, s1, ks, hd, nd, hks, hlen⟩, ?_⟩
      rintro j k H2 ⟨rfl, hj, s2, ks2, hd2, nd2, hks2, hlen2⟩
      by_cases hjt : j < us1.length
      · refine .inr ⟨wk1.goes j H2 hjt (hG1 H2 s2), Inv (100 * i + (j + 1)), fun H' q => ⟨us1.length - (j + 1), by omega, rfl, hjt, q⟩, fun x H' y => ?_⟩
        obtain ⟨rfl, hv1⟩ := wk1.yields j H2 x H' hjt (hG1 H2 s2) y
        obtain ⟨e, he, hf1⟩ := hu1.get hv1
        obtain ⟨d, z1, z2, rfl, hd3, g1, g2⟩ := fm_pair hf1
        obtain rfl := fm_str g1
        obtain rfl := fm_int g2
        refine ⟨d, _, rfl, same_a s2 hd3, rfl, _, _, rfl, _, _, rfl, rfl, rfl, _, rfl, _, Sum.inr e.1, rfl, hd2, ?_, Same.mut s2 hD, put ks2 e.1 (), ?_, nodup_put nd2 _ _, ?_, ?_⟩
        · rw [tK_len]
          exact szl (by omega)
        · rw [upd_same]
          exact congrArg (fun z => some (HO.dK z)) (tK_put (f := fun _ : Unit => V.bl true) e.1 () ks2)
        · intro k hk
          rcases mem_keys_put.mp hk with h | h
          · exact ⟨t, tm, by rw [h]; exact List.mem_map.mpr ⟨e, List.mem_of_getElem? he, rfl⟩⟩
          · exact hks2 k h
        · have := length_put ks2 e.1 ()
          omega
      · have ej : j = us1.length := by omega
        subst ej
        exact .inl ⟨wk1.stops H2 (hG1 H2 s2), s2, ks2, hd2, nd2, hks2, by omega⟩
    rcases hc with hc | hc
    · exact .inl ⟨⟨us1, same_l s1 hc⟩, inner walk_list fun H e => same_l e hc⟩
    · exact .inr ⟨⟨us1, same_t s1 hc⟩, inner walk_tup fun H e => same_t e hc⟩
  · have e : i = us.length := by omega
    subst e
    exact .inl ⟨wk.stops H (hG H s1), fin D H ks hD s1 hd nd hks (by omega)⟩
theorem tKU_keys (ks : List (Str × Unit)) : (tKU ks).map (fun kv => kV kv.1) = (keys ks).map V.str := by
  unfold tKU tK keys
  rw [List.map_map, List.map_map]
  rfl
theorem fm_mono_len {p : Poly} (h : Fit p) : ∀ t ∈ p, t.1.length ≤ 100 := fun t m => by
  have a := len_csum (h.ok.monos t m).pos
  have b := h.deg t m
  omega
theorem dp_strs0 {H : Hp} : ∀ xs : List Str, DpL K H encStr.e (xs.map V.str) xs
  | [] => .nil
  | x :: xs => .cons (.str x) (dp_strs0 xs)
abbrev n_d_tokens_of : List Str := ["p", "monomial", "_", "token"]
theorem sc_d_tokens_of : FnScope n_d_tokens_of ["p"] (defScope s_d_tokens_of) := ⟨rfl, rfl, rfl, by decide +kernel, rfl, by decide +kernel, by decide +kernel⟩

def spTokens (K : PySem.W.Frag) : Sp := fun vs H Q _ => ∃ (v : V) (p : Poly), vs = [v] ∧ Fm K H v (ePoly p) ∧ Fit p ∧ ∀ v' H' (ks : List Str), (∀ k ∈ ks, ∃ t ∈ p, k ∈ keys t.1) → Same H H' → ks.length ≤ 40000 → Dp K H' v' (.tuple (ks.map encStr.e)) → Q v' H'
theorem ok_tokens_of {f : Addr} {fd : FuncData} (B : Bl mg) (F : FnP K "tokens_of" s_d_tokens_of f fd) (hm : mg "tokens_of" = some (.ref f)) : Cal P w K mg base 1 "tokens_of" ["p"] (spTokens K) := by
  refine cal_mk F (F.ok sc_d_tokens_of (fun vs H Q E h => ?_) (fun cdv A outer s H vs Q E hr h => ?_)) hm (fun _ _ _ _ _ _ us hl => match us, hl with | [_], _ => rfl) (fun _ _ _ _ _ _ us hl => match us, hl with | [_], _ => rfl)
  · obtain ⟨v, p, rfl, _⟩ := h
    rfl
  · obtain ⟨v, p, rfl, hp, fp, q⟩ := h
    refine ⟨_, PSs.nox (pss_one (ps_ret (pe_callTy call_tuple_of (by rfl) B.tuple (by decide +kernel) (pa_cons (pe_callB (cr_sortedD (hu2 hr)) (by rfl) B.sorted (by decide +kernel) (pa_cons (pe_callTy (call_list_dK rfl) (by rfl) B.list (by decide +kernel) (pa_cons (pe_dc2 (own := [("monomial", 1), ("_", 2), ("token", 3)]) (vs1 := [3, 2]) (g := (gSeq K 2 _)) (g1 := (gSeq K 2 _)) (wi1 := iSeq K _) rfl sc_d_tokens_of.nd (pi_seq (pv 0)) (blkOk_by (N := n_d_tokens_of) (sc := defScope s_d_tokens_of) (by decide +kernel)) (fun _ _ _ _ _ => (pg_seq rfl (pgs_cons (pg_name (i := 1) sc_d_tokens_of.nd rfl (.inl rfl) (by first | exact .inl rfl | exact .inr rfl)) (pgs_cons (pg_name (i := 2) sc_d_tokens_of.nd rfl (.inl rfl) (by first | exact .inl rfl | exact .inr rfl)) pgs_nil)))) (fun _ _ _ _ _ => (pi_seq (pv 1))) (fun _ _ _ _ _ => (pg_seq rfl (pgs_cons (pg_name (i := 3) sc_d_tokens_of.nd rfl (.inl rfl) (by first | exact .inl rfl | exact .inr rfl)) (pgs_cons (pg_name (i := 2) sc_d_tokens_of.nd rfl (.inl rfl) (by first | exact .inl rfl | exact .inr rfl)) pgs_nil)))) (fun _ _ _ _ _ => (pv 3)) (fun _ _ _ _ _ => pe_bl)) pa_nil)) pa_nil)) pa_nil)))), ?_⟩
    obtain ⟨x, us, rfl, hx, hus⟩ := fm_tup hp
    have tail : ∀ D H' ks, H D = none → Same H H' → H' D = some (.dK (tKU ks)) → (keys ks).Nodup → (∀ k ∈ keys ks, ∃ t ∈ p, k ∈ keys t.1) → ks.length ≤ 40000 → tNil [some (.ref x), none, none, none] H' fun xs H1 => rListD (V.ref D :: xs) H1 fun y H2 => tNil [some (.ref x), none, none, none] H2 fun ys H3 => rSortedD K (y :: ys) H3 fun z H4 => tNil [some (.ref x), none, none, none] H4 fun zs H5 => (fun xs H Q => ∃ p ys, xs = [.ref p] ∧ ((SqL K H p ys ∧ ∀ l, H l = none → Q (.ref l) (upd H l (.tup ys))) ∨ (SqT K H p ys ∧ Q (.ref p) H))) (z :: zs) H5 Q := by
      intro D H' ks hD s1 hd nd hks hlen
      refine ⟨D, _, rfl, hd, fun l hl => ?_⟩
      rw [tKU_keys]
      have s2 := Same.new (o := .lst ((keys ks).map V.str)) hl
      refine ⟨l, Str, encStr, _, keys ks, rfl, .inl (.inl upd_same), dp_strs0 _, PySem.W.Sortable.others fun b => ⟨fun z => (by cases z), fun _ z => (by cases z)⟩, fun _ _ => Nat.zero_le _, fun g gs hg hgs _ => ?_⟩
      have s3 := Same.new (o := .lst gs) hg
      refine ⟨g, gs, rfl, .inl ⟨.inl (.inl upd_same), fun t ht => ?_⟩⟩
      have s4 := Same.new (o := .tup gs) ht
      refine q _ _ _ (fun k hk => hks k (List.mem_mergeSort.mp hk)) (same_trans s1 (same_trans s2 (same_trans s3 s4))) ?_ (dp_tup (.inl (.inl upd_same)) (hgs.same (same_trans s3 s4)))
      rw [List.length_mergeSort, show (keys ks).length = ks.length from List.length_map ..]
      exact hlen
    rcases hx with hx | hx
    · exact ⟨_, rfl, x, rfl, .inl ⟨⟨us, hx⟩, dc2_tok walk_list (fun H' e => same_l e hx) hus fp.len (fm_mono_len fp) tail⟩⟩
    · exact ⟨_, rfl, x, rfl, .inr ⟨⟨us, hx⟩, dc2_tok walk_tup (fun H' e => same_t e hx) hus fp.len (fm_mono_len fp) tail⟩⟩
theorem bit0 (e : Nat) : Builtin.bitAnd ((e : Nat) : Int) 1 = ((e % 2 : Nat) : Int) := by
  have h := Bits.bitAnd_mask (x := (e : Int)) 1 (by omega)
  have h2 : ((2 : Int) ^ 1 - 1) = 1 := by decide
  rw [h2] at h
  rw [h]
  show ((e : Int) % 2 ^ 1) = _
  omega
theorem min_id {i j : Int} (h : i ≤ j) : (if j < i then j else i) = i := if_neg (by omega)
abbrev n_d_raised_within : List Str := ["number", "exponent", "bound", "made"]
theorem sc_d_raised_within : FnScope n_d_raised_within ["number", "exponent", "bound"] (defScope s_d_raised_within) := ⟨rfl, rfl, rfl, by decide +kernel, rfl, by decide +kernel, by decide +kernel⟩

/-- a number within what one may raise -/
structure RaiseOk (n e b : Nat) : Prop where
  le : n ≤ b
  big : b < 2 ^ 14000
  pow : (max n 1) ^ (2 * e) ≤ b
theorem RaiseOk.at {n e b k : Nat} (h : RaiseOk n e b) (hk : k ≤ 2 * e) : n ^ k ≤ b := by
  have h1 : n ^ k ≤ (max n 1) ^ k := Nat.pow_le_pow_left (Nat.le_max_left _ _) k
  have h2 : (max n 1) ^ k ≤ (max n 1) ^ (2 * e) := Nat.pow_le_pow_right (Nat.le_max_right _ _) hk
  exact Nat.le_trans h1 (Nat.le_trans h2 h.pow)
def spRaised : Sp := fun vs H Q _ => ∃ n e b : Nat, vs = [.int (n : Int), .int (e : Int), .int (b : Int)] ∧ RaiseOk n e b ∧ Q (.int ((n ^ e : Nat) : Int)) H
theorem ok_raised {f : Addr} {fd : FuncData} (B : Bl mg) (F : FnP K "raised_within" s_d_raised_within f fd) (hm : mg "raised_within" = some (.ref f)) : Cal P w K mg base 1 "raised_within" ["number", "exponent", "bound"] spRaised := by
  refine cal_mk F (F.ok sc_d_raised_within (fun vs H Q E h => ?_) (fun cdv A outer s H vs Q E hr h => ?_)) hm (fun _ _ _ _ _ _ us hl => match us, hl with | [_, _, _], _ => rfl) (fun _ _ _ _ _ _ us hl => match us, hl with | [_, _, _], _ => rfl)
  · obtain ⟨n, e, b, rfl, _⟩ := h
    rfl
  · obtain ⟨n, E', b, rfl, ro, q⟩ := h
    refine ⟨_, PSs.nox (pss_cons (ps_set (i := 3) sc_d_raised_within.nd rfl (.inl rfl) pe_int) (pss_cons (ps_set (i := 0) sc_d_raised_within.nd rfl (.inl rfl) (pe_callB (call_min2 rfl) (by rfl) B.min (by decide +kernel) (pa_cons (pv 0) (pa_cons (pv 2) pa_nil)))) (pss_cons (ps_while PassesOwn.never (pt_cmpR op_gt (pv 1) pe_int (nomark _)) (pss_cons (ps_if (pt_cmpR op_eq (pe_op op_and (pv 1) pe_int) pe_int (nomark _)) (pss_one (ps_set (i := 3) sc_d_raised_within.nd rfl (.inl rfl) (pe_callB (call_min2 rfl) (by rfl) B.min (by decide +kernel) (pa_cons (pe_op op_mulW (pv 3) (pv 0)) (pa_cons (pv 2) pa_nil))))) pss_nil) (pss_cons (ps_set (i := 0) sc_d_raised_within.nd rfl (.inl rfl) (pe_callB (call_min2 rfl) (by rfl) B.min (by decide +kernel) (pa_cons (pe_op op_mulW (pv 0) (pv 0)) (pa_cons (pv 2) pa_nil)))) (pss_one (ps_set (i := 1) sc_d_raised_within.nd rfl (.inl rfl) (pe_op op_fdiv (pv 1) pe_int)))))) (pss_one (ps_ret (pv 3)))))), ?_⟩
    have bits : ∀ {k : Nat}, k ≤ b → ((k : Nat) : Int).natAbs < 2 ^ 14000 := fun h => Nat.lt_of_le_of_lt (by rw [Int.natAbs_natCast]; exact h) ro.big
    refine ⟨_, rfl, _, rfl, _, _, rfl, ?_⟩
    rw [min_id (Int.ofNat_le.mpr ro.le)]
    refine ⟨fun m σ H' => H' = H ∧ ∃ k j, σ = [some (.int ((n ^ (2 ^ k) : Nat) : Int)), some (.int (m : Int)), some (.int (b : Int)), some (.int ((n ^ j : Nat) : Int))] ∧ j + 2 ^ k * m = E', ⟨E', rfl, 0, 0, by rw [Nat.pow_zero, Nat.pow_one, Nat.pow_zero]; rfl, by omega⟩, ?_⟩
    rintro m σ H' ⟨rfl, k, j, rfl, ej⟩
    refine ⟨_, rfl, _, _, rfl, rfl, _, rfl, ?_⟩
    refine ite2 (fun hm => ?_) (fun hm => ?_)
    · have m0 : 0 < m := by
        have := of_decide_eq_true hm
        omega
      have k1 : 2 ^ k ≤ E' := by
        have : 2 ^ k * 1 ≤ 2 ^ k * m := Nat.mul_le_mul_left _ m0
        omega
      have k2 : 2 ^ (k + 1) ≤ 2 * E' := by
        rw [Nat.pow_succ]
        omega
      have b1 : n ^ (2 ^ k) ≤ b := ro.at (by omega)
      have b2 : n ^ (2 ^ (k + 1)) ≤ b := ro.at k2
      have b3 : n ^ j ≤ b := ro.at (by omega)
      have em : m = m / 2 * 2 + m % 2 := by omega
      have e2 : 2 ^ k * m = 2 ^ (k + 1) * (m / 2) + 2 ^ k * (m % 2) := by
        rw [Nat.pow_succ, Nat.mul_assoc, ← Nat.mul_add]
        congr 1
        omega
      have sq : ((n ^ (2 ^ k) : Nat) : Int) * ((n ^ (2 ^ k) : Nat) : Int) = ((n ^ (2 ^ (k + 1)) : Nat) : Int) := by
        rw [← Int.natCast_mul, ← Nat.pow_add, Nat.pow_succ, Nat.mul_two]
      refine ⟨fun σ' H2 => H2 = H' ∧ ∃ k' j', σ' = [some (.int ((n ^ (2 ^ k') : Nat) : Int)), some (.int ((m / 2 : Nat) : Int)), some (.int (b : Int)), some (.int ((n ^ j' : Nat) : Int))] ∧ j' + 2 ^ k' * (m / 2) = E', fun σ' H2 ⟨e1, k', j', e2, e3⟩ => ⟨m / 2, by omega, e1, k', j', e2, e3⟩, ?_⟩
      refine ⟨_, rfl, _, _, rfl, rfl, rfl, _, rfl, ?_⟩
      refine ite2 (fun ho => ?_) (fun ho => ?_)
      · have o1 : m % 2 = 1 := by
          have ho2 : V.int (Builtin.bitAnd ((m : Nat) : Int) 1) = V.int 1 := of_decide_eq_true ho
          rw [bit0] at ho2
          have := V.int.inj ho2
          omega
        rw [o1, Nat.mul_one] at e2
        have b4 : n ^ (j + 2 ^ k) ≤ b := ro.at (by omega)
        have pr : ((n ^ j : Nat) : Int) * ((n ^ (2 ^ k) : Nat) : Int) = ((n ^ (j + 2 ^ k) : Nat) : Int) := by
          rw [← Int.natCast_mul, ← Nat.pow_add]
        refine ⟨_, rfl, _, rfl, _, _, rfl, rfl, wide_mul (bits b3) (bits b1) (by decide) (by decide) (by decide), _, rfl, _, _, rfl, ?_⟩
        rw [pr, min_id (Int.ofNat_le.mpr b4)]
        refine ⟨_, rfl, _, rfl, _, _, rfl, rfl, wide_mul (bits b1) (bits b1) (by decide) (by decide) (by decide), _, rfl, _, _, rfl, ?_⟩
        rw [sq, min_id (Int.ofNat_le.mpr b2)]
        refine ⟨_, rfl, _, _, rfl, rfl, ⟨by decide, by decide⟩, rfl, k + 1, j + 2 ^ k, ?_, by omega⟩
        rfl
      · have o1 : m % 2 = 0 := by
          have h0 : ¬ (((m % 2 : Nat) : Int) = 1) := fun z => ho (decide_eq_true (by
            show V.int (Builtin.bitAnd ((m : Nat) : Int) 1) = V.int 1
            rw [bit0, z]))
          omega
        rw [o1, Nat.mul_zero] at e2
        refine ⟨_, rfl, _, rfl, _, _, rfl, rfl, wide_mul (bits b1) (bits b1) (by decide) (by decide) (by decide), _, rfl, _, _, rfl, ?_⟩
        rw [sq, min_id (Int.ofNat_le.mpr b2)]
        refine ⟨_, rfl, _, _, rfl, rfl, ⟨by decide, by decide⟩, rfl, k + 1, j, ?_, by omega⟩
        rfl
    · have m0 : m = 0 := by
        have : ¬ (0 : Int) < (m : Int) := fun z => hm (decide_eq_true z)
        omega
      subst m0
      have ee : j = E' := by omega
      subst ee
      exact ⟨_, rfl, q⟩
end
end K8
/-! K8M0: the five measures, as data. -/
namespace K8
open PySem PySem.Spec PyProof.Rows L2
theorem ifF {c : Bool} {A B : Prop} (h : c = false) (b : B) : if c = true then A else B := by
  rw [h]
  exact iteF b
theorem ifT {c : Bool} {A B : Prop} (h : c = true) (a : A) : if c = true then A else B := by
  rw [h]
  exact iteT a
inductive Ms
  | count | cost | trust | there | seen
def Ms.nm : Ms → Str
  | .count => "count"
  | .cost => "cost"
  | .trust => "trust"
  | .there => "there"
  | .seen => "seen"
def Ms.car : Ms → Type
  | .count => Nat
  | .cost => Option Nat
  | .trust => Pct
  | .there => Bool
  | .seen => Str → Bool
def Ms.alg : (m : Ms) → Alg m.car
  | .count => gCount
  | .cost => gCost
  | .trust => gTrust
  | .there => gThere
  | .seen => gSeen
def eOpt : Option Nat → PyData
  | none => .none
  | some n => .int n
def eNat (n : Nat) : PyData := .int (n : Int)
def eSub (N : List Str) (f : Str → Bool) : PyData := .tuple ((N.filter f).map encStr.e)
def Ms.enc (N : List Str) : (m : Ms) → m.car → PyData
  | .count, n => eNat n
  | .cost, o => eOpt o
  | .trust, p => eNat (Subtype.val (p := fun n => n ≤ 100) p)
  | .there, b => .bool b
  | .seen, f => eSub N f
/-- a count stays small -/
def cOk (n : Nat) : Prop := n < 2 ^ 6000
def Ms.ok : (m : Ms) → m.car → Prop
  | .count, n => cOk n
  | .cost, _ => True
  | .trust, _ => True
  | .there, _ => True
  | .seen, _ => True
/-- the persons -/
structure Pers (N : List Str) : Prop where
  up : Rising encStr N
  ok : ∀ x ∈ N, SOk x
  len : N.length ≤ 100
theorem filter_true (N : List Str) : N.filter (fun _ => true) = N := List.filter_eq_self.mpr fun _ _ => rfl
theorem filter_false (N : List Str) : N.filter (fun _ => false) = [] := List.filter_eq_nil_iff.mpr fun _ _ h => by cases h
theorem rising_filter {N : List Str} (h : Rising encStr N) (f : Str → Bool) : Rising encStr (N.filter f) := List.Pairwise.filter f h
theorem union_sort {N rows : List Str} (h : Rising encStr N) (f g : Str → Bool) (hr : ∀ x, x ∈ rows ↔ x ∈ N.filter f ++ N.filter g) : lsort encStr rows = N.filter (fun x => f x || g x) := by
  refine lsort_of (rising_filter h _) fun x => ?_
  rw [hr, List.mem_append, List.mem_filter, List.mem_filter, List.mem_filter]
  constructor
  · rintro ⟨h1, h2⟩
    rcases Bool.or_eq_true_iff.mp h2 with h2 | h2
    · exact .inl ⟨h1, h2⟩
    · exact .inr ⟨h1, h2⟩
  · rintro (⟨h1, h2⟩ | ⟨h1, h2⟩)
    · exact ⟨h1, Bool.or_eq_true_iff.mpr (.inl h2)⟩
    · exact ⟨h1, Bool.or_eq_true_iff.mpr (.inr h2)⟩
theorem flat_strs (xs : List Str) : (xs.map V.str).all flatV = true := by
  rw [List.all_map]
  exact List.all_eq_true.mpr fun _ _ => rfl
theorem inV_strs (x : Str) (xs : List Str) : inV (.str x) (xs.map V.str) = decide (x ∈ xs) := by
  unfold inV
  rw [List.any_map]
  induction xs with
  | nil => rfl
  | cons y ys ih =>
    rw [List.any_cons, ih]
    have e1 : ((fun y => eqV y (V.str x)) ∘ V.str) y = decide (y = x) := by
      show eqV (V.str y) (V.str x) = _
      unfold eqV
      first | rfl | simp [Bool.beq_eq_decide_eq]
    rw [e1]
    by_cases h : y = x
    · rw [decide_eq_true h, Bool.true_or, decide_eq_true (by rw [h]; exact List.mem_cons_self)]
    · rw [decide_eq_false h, Bool.false_or]
      by_cases h2 : x ∈ ys
      · rw [decide_eq_true h2, decide_eq_true (List.mem_cons_of_mem _ h2)]
      · rw [decide_eq_false h2, decide_eq_false fun z => by
          rcases List.mem_cons.mp z with z | z
          · exact h z.symm
          · exact h2 z]
theorem inter_filter {N : List Str} (f g : Str → Bool) : (N.filter f).filter (fun x => decide (x ∈ N.filter g)) = N.filter (fun x => f x && g x) := by
  rw [List.filter_filter]
  refine List.filter_congr fun x hx => ?_
  by_cases h : g x = true
  · rw [decide_eq_true (List.mem_filter.mpr ⟨hx, h⟩), h, Bool.and_true, Bool.true_and]
  · have h' : g x = false := by simpa using h
    rw [decide_eq_false fun z => h (List.mem_filter.mp z).2, h']
    simp
end K8
/-! K8M1: measured_zero, measured_one, measured_plus, measured_times, measured_power. -/
namespace K8
open PySem PySem.Spec PyProof.Rows L2
section
variable {P : Program} {w : World} {K : PySem.W.Frag} {mg : Str → Option Value} {base : Heap}
def vOpt : Option Nat → V
  | none => .non
  | some n => .int (n : Int)
theorem dp_opt {H : Hp} (o : Option Nat) : Dp K H (vOpt o) (eOpt o) := by
  cases o with
  | none => exact .non
  | some n => exact .int _
theorem dp_opt_inv {H : Hp} {v : V} {o : Option Nat} (h : Dp K H v (eOpt o)) : v = vOpt o := by
  cases o with
  | none =>
    have h' : Dp K H v .none := h
    cases h'
    rfl
  | some n => exact dp_int_inv h
theorem fm_opt {H : Hp} {v : V} {o : Option Nat} (h : Fm K H v (eOpt o)) : v = vOpt o := by
  rcases h with h | h
  · exact dp_opt_inv h
  · cases o with
    | none =>
      have h' : Dp K H v .none := h
      cases h'
      rfl
    | some n => exact dp_int_inv h
theorem fm_nat {H : Hp} {v : V} {n : Nat} (h : Fm K H v (eNat n)) : v = .int (n : Int) := fm_int h
theorem fm_bool {H : Hp} {v : V} {b : Bool} (h : Fm K H v (.bool b)) : v = .bl b := by
  rcases h with h | h
  · cases h
    rfl
  · have h' : Dp K H v (.bool b) := h
    cases h'
    rfl
theorem fm_sub {H : Hp} {v : V} {N : List Str} {f : Str → Bool} (h : Fm K H v (eSub N f)) : ∃ a, v = .ref a ∧ SqA K H a ((N.filter f).map V.str) := by
  obtain ⟨a, us, e, ha, hu⟩ := fm_tup h
  refine ⟨a, e, ?_⟩
  have : us = (N.filter f).map V.str := by
    have key : ∀ {us : List V} {xs : List Str}, FmL K H encStr.e us xs → us = xs.map V.str := by
      intro us xs h
      induction h with
      | nil => rfl
      | cons h1 _ ih =>
        rw [ih, fm_str h1]
        rfl
    exact key hu
  rw [← this]
  exact ha
abbrev n_d_measured_zero : List Str := ["measure", "persons"]
theorem sc_d_measured_zero : FnScope n_d_measured_zero ["measure", "persons"] (defScope s_d_measured_zero) := ⟨rfl, rfl, rfl, by decide +kernel, rfl, by decide +kernel, by decide +kernel⟩

def spMZero (K : PySem.W.Frag) : Sp := fun vs H Q _ => ∃ (m : Ms) (N : List Str) (v : V), vs = [.str m.nm, v] ∧ ∀ v' H', Same H H' → Dp K H' v' (m.enc N m.alg.A.un) → Q v' H'
theorem ok_mzero {f : Addr} {fd : FuncData} (B : Bl mg) (F : FnP K "measured_zero" s_d_measured_zero f fd) (hm : mg "measured_zero" = some (.ref f)) : Cal P w K mg base 1 "measured_zero" ["measure", "persons"] (spMZero K) := by
  refine cal_mk F (F.ok sc_d_measured_zero (fun vs H Q E h => ?_) (fun cdv A outer s H vs Q E hr h => ?_)) hm (fun _ _ _ _ _ _ us hl => match us, hl with | [_, _], _ => rfl) (fun _ _ _ _ _ _ us hl => match us, hl with | [_, _], _ => rfl)
  · obtain ⟨m, N, v, rfl, _⟩ := h
    rfl
  · obtain ⟨m, N, v, rfl, q⟩ := h
    refine ⟨_, PSs.nox (pss_cons (ps_if (pt_cmpR op_eq (pv 0) pe_str (nomark _)) (pss_one (ps_ret pe_non)) pss_nil) (pss_cons (ps_if (pt_cmpR op_eq (pv 0) pe_str (nomark _)) (pss_one (ps_ret pe_bl)) pss_nil) (pss_one (ps_ret (pe_ifExp (pt_cmpR op_eq (pv 0) pe_str (nomark _)) (pe_tup pa_nil) pe_int))))), ?_⟩
    cases m with
    | count => exact ⟨_, rfl, rfl, _, rfl, ifF (by decide +kernel) ⟨_, rfl, rfl, _, rfl, ifF (by decide +kernel) ⟨_, rfl, rfl, _, rfl, ifF (by decide +kernel) (q _ _ Same.rfl' (.int 0))⟩⟩⟩
    | cost => exact ⟨_, rfl, rfl, _, rfl, ifT (by decide +kernel) (q _ _ Same.rfl' .non)⟩
    | trust => exact ⟨_, rfl, rfl, _, rfl, ifF (by decide +kernel) ⟨_, rfl, rfl, _, rfl, ifF (by decide +kernel) ⟨_, rfl, rfl, _, rfl, ifF (by decide +kernel) (q _ _ Same.rfl' (.int 0))⟩⟩⟩
    | there => exact ⟨_, rfl, rfl, _, rfl, ifF (by decide +kernel) ⟨_, rfl, rfl, _, rfl, ifT (by decide +kernel) (q _ _ Same.rfl' (.bl false))⟩⟩
    | seen =>
      refine ⟨_, rfl, rfl, _, rfl, ifF (by decide +kernel) ⟨_, rfl, rfl, _, rfl, ifF (by decide +kernel) ⟨_, rfl, rfl, _, rfl, ifT (by decide +kernel) ⟨Nat.zero_le _, fun p hp => q _ _ (Same.new hp) ?_⟩⟩⟩⟩
      have e : (Ms.seen.enc N Ms.seen.alg.A.un) = .tuple [] := by
        show PyData.tuple ((N.filter fun _ => false).map encStr.e) = _
        rw [filter_false]
        rfl
      rw [e]
      exact .tup (.inl (.inl upd_same)) .nil
abbrev n_d_measured_one : List Str := ["measure", "persons"]
theorem sc_d_measured_one : FnScope n_d_measured_one ["measure", "persons"] (defScope s_d_measured_one) := ⟨rfl, rfl, rfl, by decide +kernel, rfl, by decide +kernel, by decide +kernel⟩

def spMOne (K : PySem.W.Frag) : Sp := fun vs H Q _ => ∃ (m : Ms) (N : List Str) (v : V), vs = [.str m.nm, v] ∧ (m = .seen → Fm K H v (.tuple (N.map encStr.e))) ∧ ∀ v' H', Same H H' → Dp K H' v' (m.enc N m.alg.M.un) → Q v' H'
theorem fm_strs {H : Hp} {v : V} {N : List Str} (h : Fm K H v (.tuple (N.map encStr.e))) : ∃ a, v = .ref a ∧ SqA K H a (N.map V.str) := by
  have h2 : Fm K H v (eSub N fun _ => true) := by
    unfold eSub
    rw [filter_true]
    exact h
  have h3 := fm_sub h2
  rwa [filter_true] at h3
theorem dp_strT {H : Hp} {a : Addr} {xs : List Str} (h : SqT K H a (xs.map V.str)) : Dp K H (.ref a) (.tuple (xs.map encStr.e)) := dp_tup h (dp_strs xs)
theorem ok_mone {f : Addr} {fd : FuncData} {tk : Tok} (B : Bl mg) (g_MOST_TRUST : mg "MOST_TRUST" = some (.int 100 tk)) (F : FnP K "measured_one" s_d_measured_one f fd) (hm : mg "measured_one" = some (.ref f)) : Cal P w K mg base 1 "measured_one" ["measure", "persons"] (spMOne K) := by
  have r_MOST_TRUST : RelV (.int 100) (.int 100 tk) := ⟨_, rfl⟩
  refine cal_mk F (F.ok sc_d_measured_one (fun vs H Q E h => ?_) (fun cdv A outer s H vs Q E hr h => ?_)) hm (fun _ _ _ _ _ _ us hl => match us, hl with | [_, _], _ => rfl) (fun _ _ _ _ _ _ us hl => match us, hl with | [_, _], _ => rfl)
  · obtain ⟨m, N, v, rfl, _⟩ := h
    rfl
  · obtain ⟨m, N, v, rfl, hv, q⟩ := h
    refine ⟨_, PSs.nox (pss_cons (ps_if (pt_cmpR op_eq (pv 0) pe_str (nomark _)) (pss_one (ps_ret pe_int)) pss_nil) (pss_cons (ps_if (pt_cmpR op_eq (pv 0) pe_str (nomark _)) (pss_one (ps_ret (pe_glob rfl g_MOST_TRUST r_MOST_TRUST))) pss_nil) (pss_cons (ps_if (pt_cmpR op_eq (pv 0) pe_str (nomark _)) (pss_one (ps_ret pe_bl)) pss_nil) (pss_one (ps_ret (pe_ifExp (pt_cmpR op_eq (pv 0) pe_str (nomark _)) (pe_callTy call_tuple_u (by rfl) B.tuple (by decide +kernel) (pa_cons (pv 1) pa_nil)) pe_int)))))), ?_⟩
    cases m with
    | count => exact ⟨_, rfl, rfl, _, rfl, ifF (by decide +kernel) ⟨_, rfl, rfl, _, rfl, ifF (by decide +kernel) ⟨_, rfl, rfl, _, rfl, ifF (by decide +kernel) ⟨_, rfl, rfl, _, rfl, ifF (by decide +kernel) (q _ _ Same.rfl' (.int 1))⟩⟩⟩⟩
    | cost => exact ⟨_, rfl, rfl, _, rfl, ifT (by decide +kernel) (q _ _ Same.rfl' (.int 0))⟩
    | trust => exact ⟨_, rfl, rfl, _, rfl, ifF (by decide +kernel) ⟨_, rfl, rfl, _, rfl, ifT (by decide +kernel) (q _ _ Same.rfl' (.int 100))⟩⟩
    | there => exact ⟨_, rfl, rfl, _, rfl, ifF (by decide +kernel) ⟨_, rfl, rfl, _, rfl, ifF (by decide +kernel) ⟨_, rfl, rfl, _, rfl, ifT (by decide +kernel) (q _ _ Same.rfl' (.bl true))⟩⟩⟩
    | seen =>
      obtain ⟨a, rfl, ha⟩ := fm_strs (hv rfl)
      refine ⟨_, rfl, rfl, _, rfl, ifF (by decide +kernel) ⟨_, rfl, rfl, _, rfl, ifF (by decide +kernel) ⟨_, rfl, rfl, _, rfl, ifF (by decide +kernel) ⟨_, rfl, rfl, _, rfl, ifT (by decide +kernel) ⟨_, rfl, a, _, rfl, ha, fun r H' s1 h1 => q _ _ s1 ?_⟩⟩⟩⟩⟩
      have e : (Ms.seen.enc N Ms.seen.alg.M.un) = .tuple (N.map encStr.e) := by
        show PyData.tuple ((N.filter fun _ => true).map encStr.e) = _
        rw [filter_true]
      rw [e]
      exact dp_strT h1
abbrev n_d_measured_power : List Str := ["measure", "value", "exponent"]
theorem sc_d_measured_power : FnScope n_d_measured_power ["measure", "value", "exponent"] (defScope s_d_measured_power) := ⟨rfl, rfl, rfl, by decide +kernel, rfl, by decide +kernel, by decide +kernel⟩

def spMPow (K : PySem.W.Frag) : Sp := fun vs H Q _ => ∃ (m : Ms) (N : List Str) (v : V) (x : m.car) (e : Nat), vs = [.str m.nm, v, .int (e : Int)] ∧ Fm K H v (m.enc N x) ∧ e ≤ 1000 ∧ m ≠ .count ∧ ∀ v', Fm K H v' (m.enc N (m.alg.pow x e)) → Q v' H
theorem ok_mpow {f : Addr} {fd : FuncData} (B : Bl mg) (F : FnP K "measured_power" s_d_measured_power f fd) (hm : mg "measured_power" = some (.ref f)) : Cal P w K mg base 1 "measured_power" ["measure", "value", "exponent"] (spMPow K) := by
  refine cal_mk F (F.ok sc_d_measured_power (fun vs H Q E h => ?_) (fun cdv A outer s H vs Q E hr h => ?_)) hm (fun _ _ _ _ _ _ us hl => match us, hl with | [_, _, _], _ => rfl) (fun _ _ _ _ _ _ us hl => match us, hl with | [_, _, _], _ => rfl)
  · obtain ⟨m, N, v, x, e, rfl, _⟩ := h
    rfl
  · obtain ⟨m, N, v, x, e, rfl, hv, he, hc, q⟩ := h
    refine ⟨_, PSs.nox (pss_cons (ps_if (pt_cmpR op_eq (pv 0) pe_str (nomark _)) (pss_one (ps_ret (pe_ifExp (pt_cmpR op_isN (pv 1) pe_non (nomark _)) pe_non (pe_op op_mul (pv 1) (pv 2))))) pss_nil) (pss_one (ps_ret (pv 1)))), ?_⟩
    cases m with
    | count => exact absurd rfl hc
    | cost =>
      have hv' : Fm K H v (eOpt x) := hv
      obtain rfl := fm_opt hv'
      refine ⟨_, rfl, rfl, _, rfl, ifT (by decide +kernel) ⟨_, rfl, rfl, _, rfl, ?_⟩⟩
      cases x with
      | none => exact ifT (by decide +kernel) (q _ (.inl .non))
      | some n =>
        refine ifF (decide_eq_false fun z => by cases z) ⟨_, rfl, _, rfl, _, _, rfl, rfl, .inr ⟨by omega, by omega⟩, q _ (.inl ?_)⟩
        exact .int _
    | trust => exact ⟨_, rfl, rfl, _, rfl, ifF (by decide +kernel) ⟨_, rfl, q _ hv⟩⟩
    | there => exact ⟨_, rfl, rfl, _, rfl, ifF (by decide +kernel) ⟨_, rfl, q _ hv⟩⟩
    | seen => exact ⟨_, rfl, rfl, _, rfl, ifF (by decide +kernel) ⟨_, rfl, q _ hv⟩⟩
end
end K8
/-! K8M2: measured_plus, measured_times. -/
namespace K8
open PySem PySem.Spec PyProof.Rows L2
section
variable {P : Program} {w : World} {K : PySem.W.Frag} {mg : Str → Option Value} {base : Heap}
theorem notN_opt (o : Option Nat) : (!decide (vOpt o = V.non)) = o.isSome := by
  cases o with
  | none => rfl
  | some n => exact congrArg not (decide_eq_false fun z => by cases z)
theorem isN_opt (o : Option Nat) : decide (vOpt o = V.non) = o.isNone := by
  cases o with
  | none => exact decide_eq_true rfl
  | some n => exact decide_eq_false fun z => by cases z
theorem least_opt (x y : Option Nat) : (match leastO (([x, y].filterMap id).map fun n => ((n : Nat) : Int)) with | none => V.non | some m => V.int m) = vOpt (minO x y) := by
  cases x with
  | none =>
    cases y with
    | none => rfl
    | some b => rfl
  | some a =>
    cases y with
    | none => rfl
    | some b =>
      show V.int (if (b : Int) < (a : Int) then (b : Int) else (a : Int)) = V.int ((min a b : Nat) : Int)
      congr 1
      by_cases h : b < a
      · rw [if_pos (by omega)]
        omega
      · rw [if_neg (by omega)]
        omega
theorem seen_sort {N : List Str} (h : Rising encStr N) (f g : Str → Bool) : (keys (ofPairs ((N.filter f ++ N.filter g).map fun z => (z, ())))).mergeSort (PySem.W.dataLe false encStr.e) = N.filter (fun z => f z || g z) := by
  obtain ⟨k1, k2⟩ := ofPairs_keys ((N.filter f ++ N.filter g).map fun z => (z, ())) []
  have nd : (keys (ofPairs ((N.filter f ++ N.filter g).map fun z => (z, ())))).Nodup := k2 List.nodup_nil
  rw [sort_rising (E := encStr) nd]
  refine union_sort h f g fun z => (k1 z).trans ?_
  have : keys ((N.filter f ++ N.filter g).map fun z => (z, ())) = N.filter f ++ N.filter g := by
    unfold keys
    rw [List.map_map]
    exact List.map_id _
  rw [this]
  simp [keys]
abbrev n_d_measured_plus : List Str := ["measure", "a", "b", "one", "person"]
theorem sc_d_measured_plus : FnScope n_d_measured_plus ["measure", "a", "b"] (defScope s_d_measured_plus) := ⟨rfl, rfl, rfl, by decide +kernel, rfl, by decide +kernel, by decide +kernel⟩

def spMPlus (K : PySem.W.Frag) : Sp := fun vs H Q _ => ∃ (m : Ms) (N : List Str) (a b : V) (x y : m.car), vs = [.str m.nm, a, b] ∧ Pers N ∧ Fm K H a (m.enc N x) ∧ Fm K H b (m.enc N y) ∧ ∀ v' H', Same H H' → Dp K H' v' (m.enc N (m.alg.A.op x y)) → Q v' H'
theorem ok_mplus {f : Addr} {fd : FuncData} (B : Bl mg) (F : FnP K "measured_plus" s_d_measured_plus f fd) (hm : mg "measured_plus" = some (.ref f)) : Cal P w K mg base 1 "measured_plus" ["measure", "a", "b"] (spMPlus K) := by
  refine cal_mk F (F.ok sc_d_measured_plus (fun vs H Q E h => ?_) (fun cdv A outer s H vs Q E hr h => ?_)) hm (fun _ _ _ _ _ _ us hl => match us, hl with | [_, _, _], _ => rfl) (fun _ _ _ _ _ _ us hl => match us, hl with | [_, _, _], _ => rfl)
  · obtain ⟨m, N, a, b, x, y, rfl, _⟩ := h
    rfl
  · obtain ⟨m, N, a, b, x, y, rfl, hN, ha, hb, q⟩ := h
    refine ⟨_, PSs.nox (pss_cons (ps_if (pt_cmpR op_eq (pv 0) pe_str (nomark _)) (pss_one (ps_ret (pe_op op_add (pv 1) (pv 2)))) pss_nil) (pss_cons (ps_if (pt_cmpR op_eq (pv 0) pe_str (nomark _)) (pss_one (ps_ret (pe_callBK (cr_minDef rfl) (by rfl) B.min (by decide +kernel) (pa_cons (pe_lc (own := [("one", 3)]) (g := _) (tt := _) (te := _) rfl sc_d_measured_plus.nd (pi_seq (pe_tup (pa_cons (pv 1) (pa_cons (pv 2) pa_nil)))) (blkOk_by (N := n_d_measured_plus) (sc := defScope s_d_measured_plus) (by decide +kernel)) (fun _ _ _ _ _ => (pg_name (i := 3) sc_d_measured_plus.nd rfl (.inl rfl) (by first | exact .inl rfl | exact .inr rfl))) (fun _ _ _ _ _ => (pts_one (pt_cmpR op_notN (pv 3) pe_non (nomark _)))) (fun _ _ _ _ _ => (pv 3))) pa_nil) (pk_cons pe_non pk_nil)))) pss_nil) (pss_cons (ps_if (pt_cmpR op_eq (pv 0) pe_str (nomark _)) (pss_one (ps_ret (pe_callB (call_max2 rfl) (by rfl) B.max (by decide +kernel) (pa_cons (pv 1) (pa_cons (pv 2) pa_nil))))) pss_nil) (pss_cons (ps_if (pt_cmpR op_eq (pv 0) pe_str (nomark _)) (pss_one (ps_ret (pe_orT (pv 1) (pe_one (pv 2))))) pss_nil) (pss_one (ps_ret (pe_callTy call_tuple_u (by rfl) B.tuple (by decide +kernel) (pa_cons (pe_callB (cr_sortedD (hu2 hr)) (by rfl) B.sorted (by decide +kernel) (pa_cons (pe_callTy (call_list_dK rfl) (by rfl) B.list (by decide +kernel) (pa_cons (pe_dc (own := [("person", 4)]) (g := _) (tk := _) (tv := _) rfl sc_d_measured_plus.nd (pi_seq (pe_op op_catU (pe_callTy call_tuple_u (by rfl) B.tuple (by decide +kernel) (pa_cons (pv 1) pa_nil)) (pe_callTy call_tuple_u (by rfl) B.tuple (by decide +kernel) (pa_cons (pv 2) pa_nil)))) (blkOk_by (N := n_d_measured_plus) (sc := defScope s_d_measured_plus) (by decide +kernel)) (fun _ _ _ _ _ => (pg_name (i := 4) sc_d_measured_plus.nd rfl (.inl rfl) (by first | exact .inl rfl | exact .inr rfl))) (fun _ _ _ _ _ => pts_nil) (fun _ _ _ _ _ => (pv 4)) (fun _ _ _ _ _ => pe_bl)) pa_nil)) pa_nil)) pa_nil)))))))), ?_⟩
    cases m with
    | count =>
      obtain rfl := fm_nat (n := x) ha
      obtain rfl := fm_nat (n := y) hb
      refine ⟨_, rfl, rfl, _, rfl, ifT (by decide +kernel) ⟨_, rfl, _, rfl, _, _, rfl, rfl, q _ _ Same.rfl' ?_⟩⟩
      exact .int _
    | cost =>
      change Option Nat at x
      change Option Nat at y
      obtain rfl := fm_opt (o := x) ha
      obtain rfl := fm_opt (o := y) hb
      refine ⟨_, rfl, rfl, _, rfl, ifF (by decide +kernel) ⟨_, rfl, rfl, _, rfl, ifT (by decide +kernel) ?_⟩⟩
      refine ⟨_, rfl, _, rfl, sz2, fun T hT => ?_⟩
      have s1 := Same.new (o := .tup [vOpt x, vOpt y]) hT
      refine ⟨T, rfl, .inr ⟨⟨_, .inl (.inl upd_same)⟩, ?_⟩⟩
      have wk : Walk (Itt K T) 2 (fun H => SqT K H T [vOpt x, vOpt y]) (YAt [vOpt x, vOpt y]) := walk_tup (xs := [vOpt x, vOpt y])
      refine lc_dat (K := K) wk env0 (H0 := upd H T (.tup [vOpt x, vOpt y])) trivial (fun H' k _ => .inl (.inl (k.same T _ upd_same))) (fun n : Nat => PyData.int (n : Int)) (fun _ => rfl) (fun i zs => zs = ([x, y].take i).filterMap id) rfl (by decide) ?_ ?_
      · rintro i u H2 _ zs Ry Rn hi rfl k2 _ ⟨rfl, hu⟩ ry rn
        obtain ⟨o, ho, rfl⟩ : ∃ o : Option Nat, [x, y][i]? = some o ∧ u = vOpt o := by
          have e : [vOpt x, vOpt y][i]? = ([x, y].map vOpt)[i]? := rfl
          rw [e, List.getElem?_map] at hu
          cases hz : [x, y][i]? with
          | none =>
            rw [hz] at hu
            cases hu
          | some o =>
            rw [hz] at hu
            exact ⟨o, rfl, (Option.some.inj hu).symm⟩
        have e2 : ([x, y].take (i + 1)).filterMap id = ([x, y].take i).filterMap id ++ [o].filterMap id := by
          rw [List.take_add_one, ho, List.filterMap_append]
          rfl
        refine ⟨rfl, _, rfl, rfl, _, rfl, ?_⟩
        show if (!decide (vOpt o = V.non)) = true then _ else _
        rw [notN_opt]
        cases o with
        | none =>
          refine iteF (rn _ Kp.refl trivial ?_)
          rw [e2]
          show _ = _ ++ []
          rw [List.append_nil]
        | some n =>
          refine iteT ⟨_, rfl, ry _ _ n Kp.refl trivial (.int _) ?_⟩
          rw [e2]
          rfl
      · rintro D ws zs H2 hD k2 _ hw hz rfl
        have e3 : ws = ((([x, y].filterMap id).map fun n => ((n : Nat) : Int)).map V.int) := by
          have key : ∀ {ws : List V} {zs : List Nat}, DpL K H2 (fun n : Nat => PyData.int (n : Int)) ws zs → ws = (zs.map fun n => ((n : Nat) : Int)).map V.int := by
            intro ws zs h
            induction h with
            | nil => rfl
            | cons h1 _ ih =>
              rw [ih, dp_int_inv h1]
              rfl
          exact key hz
        refine ⟨D, _, .non, rfl, rfl, .inl (.inl (by rw [hw, e3])), ?_⟩
        refine q _ _ (same_trans s1 k2.same) ?_
        have e5 := dp_opt (K := K) (H := H2) (minO x y)
        rw [← least_opt] at e5
        exact e5
    | trust =>
      obtain rfl := fm_nat (n := Subtype.val (p := fun n => n ≤ 100) x) ha
      obtain rfl := fm_nat (n := Subtype.val (p := fun n => n ≤ 100) y) hb
      refine ⟨_, rfl, rfl, _, rfl, ifF (by decide +kernel) ⟨_, rfl, rfl, _, rfl, ifF (by decide +kernel) ⟨_, rfl, rfl, _, rfl, ifT (by decide +kernel) ⟨_, rfl, _, rfl, _, _, rfl, q _ _ Same.rfl' ?_⟩⟩⟩⟩
      have e : (if ((Subtype.val (p := fun n => n ≤ 100) x : Nat) : Int) < ((Subtype.val (p := fun n => n ≤ 100) y : Nat) : Int) then ((Subtype.val (p := fun n => n ≤ 100) y : Nat) : Int) else ((Subtype.val (p := fun n => n ≤ 100) x : Nat) : Int)) = ((max (Subtype.val (p := fun n => n ≤ 100) x) (Subtype.val (p := fun n => n ≤ 100) y) : Nat) : Int) := by
        split <;> omega
      have e1 : Ms.trust.enc N (Ms.trust.alg.A.op x y) = .int ((max (Subtype.val (p := fun n => n ≤ 100) x) (Subtype.val (p := fun n => n ≤ 100) y) : Nat) : Int) := rfl
      rw [e1, ← e]
      exact .int _
    | there =>
      obtain rfl := fm_bool (b := x) ha
      obtain rfl := fm_bool (b := y) hb
      refine ⟨_, rfl, rfl, _, rfl, ifF (by decide +kernel) ⟨_, rfl, rfl, _, rfl, ifF (by decide +kernel) ⟨_, rfl, rfl, _, rfl, ifF (by decide +kernel) ⟨_, rfl, rfl, _, rfl, ifT (by decide +kernel) ⟨_, rfl, x, rfl, ?_⟩⟩⟩⟩⟩
      have hx : x = true ∨ x = false := Bool.eq_false_or_eq_true x
      rcases hx with rfl | rfl
      · exact iteT (q _ _ Same.rfl' (.bl true))
      · exact iteF ⟨_, rfl, q _ _ Same.rfl' (.bl y)⟩
    | seen =>
      change Str → Bool at x
      change Str → Bool at y
      obtain ⟨p, rfl, hp⟩ := fm_sub (f := x) ha
      obtain ⟨r, rfl, hrr⟩ := fm_sub (f := y) hb
      refine ⟨_, rfl, rfl, _, rfl, ifF (by decide +kernel) ⟨_, rfl, rfl, _, rfl, ifF (by decide +kernel) ⟨_, rfl, rfl, _, rfl, ifF (by decide +kernel) ⟨_, rfl, rfl, _, rfl, ifF (by decide +kernel) ?_⟩⟩⟩⟩
      refine ⟨_, rfl, p, _, rfl, hp, fun p1 H1 s1 h1 => ⟨_, rfl, r, _, rfl, same_a s1 hrr, fun p2 H2 s2 h2 => ?_⟩⟩
      have lx : (N.filter x).length ≤ 100 := Nat.le_trans (List.length_filter_le ..) hN.len
      have ly : (N.filter y).length ≤ 100 := Nat.le_trans (List.length_filter_le ..) hN.len
      refine ⟨p1, p2, _, _, rfl, rfl, same_t s2 h1, h2, by rw [List.length_map, List.length_map]; omega, fun p3 H3 s3 h3 => ?_⟩
      rw [← List.map_append] at h3
      have sA := same_trans s1 (same_trans s2 s3)
      have ll : (N.filter x ++ N.filter y).length ≤ 1000 := by
        rw [List.length_append]
        omega
      refine ⟨p3, rfl, dc_seq (K := K) (xs := N.filter x ++ N.filter y) (ev := fun _ v z => v = V.str z) (.inr h3) Same.rfl' (paired_self _) (fun z => Sum.inr z) (fun _ => V.bl true) (by omega) ?_ ?_⟩
      · rintro v z H4 Ry Rn hz rfl s4 ry
        exact ⟨rfl, _, rfl, ry _ Same.rfl'⟩
      · rintro d H4 hd s4 hdd
        have e1 : ofK ((N.filter x ++ N.filter y).map fun z => ((Sum.inr z : Key), V.bl true)) = tKU (ofPairs ((N.filter x ++ N.filter y).map fun z => (z, ()))) := by
          rw [show ((N.filter x ++ N.filter y).map fun z => ((Sum.inr z : Key), V.bl true)) = tKU ((N.filter x ++ N.filter y).map fun z => (z, ())) by
            unfold tKU tK
            rw [List.map_map]
            rfl]
          exact ofK_tK _
        rw [e1] at hdd
        refine ⟨d, _, rfl, hdd, fun l hl => ?_⟩
        rw [tKU_keys]
        have s5 := Same.new (o := .lst ((keys (ofPairs ((N.filter x ++ N.filter y).map fun z => (z, ())))).map V.str)) hl
        refine ⟨l, Str, encStr, _, _, rfl, .inl (.inl upd_same), dp_strs _, PySem.W.Sortable.others fun b => ⟨fun z => (by cases z), fun _ z => (by cases z)⟩, fun _ _ => Nat.zero_le _, fun g gs hg hgs _ => ?_⟩
        have es := seen_sort hN.up x y
        rw [es] at hgs
        have s6 := Same.new (o := .lst gs) hg
        refine ⟨g, gs, rfl, .inl (.inl (.inl upd_same)), fun t H7 s7 h7 => ?_⟩
        refine q _ _ (same_trans sA (same_trans s4 (same_trans s5 (same_trans s6 s7)))) ?_
        exact dp_tup h7 (hgs.same (same_trans s6 s7))
end
end K8
/-! K8M3: measured_times; the law's own zero, one, sum and product of a measure. -/
namespace K8
open PySem PySem.Spec PyProof.Rows L2
section
variable {P : Program} {w : World} {K : PySem.W.Frag} {mg : Str → Option Value} {base : Heap}
theorem cOk_bits {n : Nat} (h : cOk n) : ((n : Nat) : Int).natAbs < 2 ^ 6000 := by
  rw [Int.natAbs_natCast]
  exact h
theorem filter_take_snoc {α : Type} (p : α → Bool) (xs : List α) (i : Nat) (x : α) (h : xs[i]? = some x) : (xs.take (i + 1)).filter p = (xs.take i).filter p ++ if p x = true then [x] else [] := by
  rw [List.take_add_one, h, List.filter_append]
  congr 1
  show List.filter _ [x] = _
  rw [List.filter_cons, List.filter_nil]
abbrev n_d_measured_times : List Str := ["measure", "a", "b", "person"]
theorem sc_d_measured_times : FnScope n_d_measured_times ["measure", "a", "b"] (defScope s_d_measured_times) := ⟨rfl, rfl, rfl, by decide +kernel, rfl, by decide +kernel, by decide +kernel⟩

def spMTimes (K : PySem.W.Frag) : Sp := fun vs H Q _ => ∃ (m : Ms) (N : List Str) (a b : V) (x y : m.car), vs = [.str m.nm, a, b] ∧ Pers N ∧ Fm K H a (m.enc N x) ∧ Fm K H b (m.enc N y) ∧ m.ok x ∧ m.ok y ∧ ∀ v' H', Same H H' → Dp K H' v' (m.enc N (m.alg.M.op x y)) → Q v' H'
theorem ok_mtimes {f : Addr} {fd : FuncData} (B : Bl mg) (F : FnP K "measured_times" s_d_measured_times f fd) (hm : mg "measured_times" = some (.ref f)) : Cal P w K mg base 1 "measured_times" ["measure", "a", "b"] (spMTimes K) := by
  refine cal_mk F (F.ok sc_d_measured_times (fun vs H Q E h => ?_) (fun cdv A outer s H vs Q E hr h => ?_)) hm (fun _ _ _ _ _ _ us hl => match us, hl with | [_, _, _], _ => rfl) (fun _ _ _ _ _ _ us hl => match us, hl with | [_, _, _], _ => rfl)
  · obtain ⟨m, N, a, b, x, y, rfl, _⟩ := h
    rfl
  · obtain ⟨m, N, a, b, x, y, rfl, hN, ha, hb, ox, oy, q⟩ := h
    refine ⟨_, PSs.nox (pss_cons (ps_if (pt_cmpR op_eq (pv 0) pe_str (nomark _)) (pss_one (ps_ret (pe_op op_mulW (pv 1) (pv 2)))) pss_nil) (pss_cons (ps_if (pt_cmpR op_eq (pv 0) pe_str (nomark _)) (pss_one (ps_ret (pe_ifExp (PW.pt (pw_or (pt_cmpR op_isN (pv 1) pe_non (nomark _)) (pw_or1 (pt_cmpR op_isN (pv 2) pe_non (nomark _))))) pe_non (pe_op op_add (pv 1) (pv 2))))) pss_nil) (pss_cons (ps_if (pt_cmpR op_eq (pv 0) pe_str (nomark _)) (pss_one (ps_ret (pe_callB (call_min2 rfl) (by rfl) B.min (by decide +kernel) (pa_cons (pv 1) (pa_cons (pv 2) pa_nil))))) pss_nil) (pss_cons (ps_if (pt_cmpR op_eq (pv 0) pe_str (nomark _)) (pss_one (ps_ret (pe_andT (pv 1) (pe_one (pv 2))))) pss_nil) (pss_one (ps_ret (pe_callTy call_tuple_u (by rfl) B.tuple (by decide +kernel) (pa_cons (pe_lc (own := [("person", 3)]) (g := _) (tt := (tTest (tOp (rIn K false) _ _))) (te := _) rfl sc_d_measured_times.nd (pi_seq (pv 1)) (blkOk_by (N := n_d_measured_times) (sc := defScope s_d_measured_times) (by decide +kernel)) (fun _ _ _ _ _ => (pg_name (i := 3) sc_d_measured_times.nd rfl (.inl rfl) (by first | exact .inl rfl | exact .inr rfl))) (fun _ _ _ _ _ => (pts_one (pt_cmpR op_in_seq (pv 3) (pv 2) (by rfl)))) (fun _ _ _ _ _ => (pv 3))) pa_nil)))))))), ?_⟩
    cases m with
    | count =>
      change Nat at x
      change Nat at y
      have cx : cOk x := ox
      have cy : cOk y := oy
      obtain rfl := fm_nat (n := x) ha
      obtain rfl := fm_nat (n := y) hb
      refine ⟨_, rfl, rfl, _, rfl, ifT (by decide +kernel) ⟨_, rfl, _, rfl, _, _, rfl, rfl, wide_mul (cOk_bits cx) (cOk_bits cy) (by decide) (by decide) (by decide), q _ _ Same.rfl' ?_⟩⟩
      exact .int _
    | cost =>
      change Option Nat at x
      change Option Nat at y
      obtain rfl := fm_opt (o := x) ha
      obtain rfl := fm_opt (o := y) hb
      refine ⟨_, rfl, rfl, _, rfl, ifF (by decide +kernel) ⟨_, rfl, rfl, _, rfl, ifT (by decide +kernel) ?_⟩⟩
      refine ⟨_, rfl, rfl, _, rfl, ?_⟩
      cases x with
      | none => exact ifT (decide_eq_true rfl) (iteT (q _ _ Same.rfl' .non))
      | some a =>
        refine ifF (decide_eq_false fun z => by cases z) ⟨_, rfl, rfl, _, rfl, ?_⟩
        cases y with
        | none => exact ifT (decide_eq_true rfl) (q _ _ Same.rfl' .non)
        | some b =>
          refine ifF (decide_eq_false fun z => by cases z) ⟨_, rfl, _, rfl, _, _, rfl, rfl, q _ _ Same.rfl' ?_⟩
          exact .int _
    | trust =>
      obtain rfl := fm_nat (n := Subtype.val (p := fun n => n ≤ 100) x) ha
      obtain rfl := fm_nat (n := Subtype.val (p := fun n => n ≤ 100) y) hb
      refine ⟨_, rfl, rfl, _, rfl, ifF (by decide +kernel) ⟨_, rfl, rfl, _, rfl, ifF (by decide +kernel) ⟨_, rfl, rfl, _, rfl, ifT (by decide +kernel) ⟨_, rfl, _, rfl, _, _, rfl, q _ _ Same.rfl' ?_⟩⟩⟩⟩
      have e : (if ((Subtype.val (p := fun n => n ≤ 100) y : Nat) : Int) < ((Subtype.val (p := fun n => n ≤ 100) x : Nat) : Int) then ((Subtype.val (p := fun n => n ≤ 100) y : Nat) : Int) else ((Subtype.val (p := fun n => n ≤ 100) x : Nat) : Int)) = ((min (Subtype.val (p := fun n => n ≤ 100) x) (Subtype.val (p := fun n => n ≤ 100) y) : Nat) : Int) := by
        split <;> omega
      have e1 : Ms.trust.enc N (Ms.trust.alg.M.op x y) = .int ((min (Subtype.val (p := fun n => n ≤ 100) x) (Subtype.val (p := fun n => n ≤ 100) y) : Nat) : Int) := rfl
      rw [e1, ← e]
      exact .int _
    | there =>
      obtain rfl := fm_bool (b := x) ha
      obtain rfl := fm_bool (b := y) hb
      refine ⟨_, rfl, rfl, _, rfl, ifF (by decide +kernel) ⟨_, rfl, rfl, _, rfl, ifF (by decide +kernel) ⟨_, rfl, rfl, _, rfl, ifF (by decide +kernel) ⟨_, rfl, rfl, _, rfl, ifT (by decide +kernel) ⟨_, rfl, x, rfl, ?_⟩⟩⟩⟩⟩
      have hx : x = true ∨ x = false := Bool.eq_false_or_eq_true x
      rcases hx with rfl | rfl
      · exact iteT ⟨_, rfl, q _ _ Same.rfl' (.bl y)⟩
      · exact iteF (q _ _ Same.rfl' (.bl false))
    | seen =>
      change Str → Bool at x
      change Str → Bool at y
      obtain ⟨p, rfl, hp⟩ := fm_sub (f := x) ha
      obtain ⟨r, rfl, hrr⟩ := fm_sub (f := y) hb
      refine ⟨_, rfl, rfl, _, rfl, ifF (by decide +kernel) ⟨_, rfl, rfl, _, rfl, ifF (by decide +kernel) ⟨_, rfl, rfl, _, rfl, ifF (by decide +kernel) ⟨_, rfl, rfl, _, rfl, ifF (by decide +kernel) ?_⟩⟩⟩⟩
      have lx : (N.filter x).length ≤ 100 := Nat.le_trans (List.length_filter_le ..) hN.len
      have core : ∀ {J : It} {G : Hp → Prop}, Walk J ((N.filter x).map V.str).length G (YAt ((N.filter x).map V.str)) → (∀ H', Same H H' → G H') → _ := fun {J G} wk hG =>
        lc_dat (K := K) wk env0 (H0 := H) (Q := fun D H' => rTupU K [V.ref D] H' Q) (g := gName 3) (tt := tTest (tOp (rIn K false) (tVar 3) (tVar 2))) (te := tVar 3) (vs := [3]) (σ := [some (.str Ms.seen.nm), some (.ref p), some (.ref r), none]) trivial (fun H' k _ => hG H' k.same) PyData.str (fun _ => rfl) (fun i zs => zs = ((N.filter x).take i).filter fun z => decide (z ∈ N.filter y)) rfl (by rw [List.length_map]; omega)
          (by
            rintro i u H2 _ zs Ry Rn hi rfl k2 _ ⟨rfl, hu⟩ ry rn
            rw [List.getElem?_map] at hu
            cases hz : (N.filter x)[i]? with
            | none =>
              rw [hz] at hu
              cases hu
            | some z =>
              rw [hz] at hu
              obtain rfl : V.str z = u := Option.some.inj hu
              refine ⟨rfl, _, rfl, _, rfl, r, _, rfl, same_a k2.same hrr, rfl, flat_strs _, _, rfl, ?_⟩
              show if inV (V.str z) ((N.filter y).map V.str) = true then _ else _
              rw [inV_strs]
              have e3 := filter_take_snoc (fun z => decide (z ∈ N.filter y)) (N.filter x) i z hz
              cases hd : decide (z ∈ N.filter y) with
              | true =>
                refine iteT ⟨_, rfl, ry _ _ z Kp.refl trivial (.str _) ?_⟩
                rw [e3, if_pos hd]
              | false =>
                refine iteF (rn _ Kp.refl trivial ?_)
                rw [e3, if_neg (by rw [hd]; exact Bool.false_ne_true), List.append_nil])
          (by
            rintro D ws zs H2 hD k2 _ hw hz rfl
            rw [List.length_map, List.take_length, inter_filter] at hz
            refine ⟨D, ws, rfl, .inl (.inl (.inl hw)), fun t H7 s7 h7 => ?_⟩
            exact q _ _ (same_trans k2.same s7) (dp_tup h7 (hz.same s7)))
      rcases hp with hp | hp
      · exact ⟨_, rfl, p, rfl, .inl ⟨⟨_, hp⟩, core walk_list fun H' e => same_l e hp⟩⟩
      · exact ⟨_, rfl, p, rfl, .inr ⟨⟨_, hp⟩, core walk_tup fun H' e => same_t e hp⟩⟩
end
end K8
/-! K8M4: the law's own zero, one, sum and product of a measure. -/
namespace K8
open PySem PySem.Spec PyProof.Rows L2
section
variable {P : Program} {w : World} {K : PySem.W.Frag} {mg : Str → Option Value} {base : Heap}
theorem dget_of {H : Hp} {a : Addr} {kvs : List (Key × V)} {x : Str} {v : V} (h : H a = some (.dK kvs)) (e : valV kvs (Sum.inr x) = some v) : DGet H a (.str x) (some v) := by
  have := DGet.k (k := Sum.inr x) h
  rw [e] at this
  exact this
abbrev n_q_zero : List Str := ["_law_measure", "_law_persons_here"]
theorem sc_q_zero : FnScope n_q_zero ["_law_measure", "_law_persons_here"] (defScope s_q_zero) := ⟨rfl, rfl, rfl, by decide +kernel, rfl, by decide +kernel, by decide +kernel⟩

theorem ok_lzero {f : Addr} {fd : FuncData} (B : Bl mg) (F : FnP K "_law_zero" s_q_zero f fd) (hm : mg "_law_zero" = some (.ref f)) : Cal P w K mg base 1 "_law_zero" ["_law_measure", "_law_persons_here"] (spMZero K) := by
  refine cal_mk F (F.ok sc_q_zero (fun vs H Q E h => ?_) (fun cdv A outer s H vs Q E hr h => ?_)) hm (fun _ _ _ _ _ _ us hl => match us, hl with | [_, _], _ => rfl) (fun _ _ _ _ _ _ us hl => match us, hl with | [_, _], _ => rfl)
  · obtain ⟨m, N, v, rfl, _⟩ := h
    rfl
  · obtain ⟨m, N, v, rfl, q⟩ := h
    refine ⟨_, PSs.nox (pss_one (ps_ret (pe_dget (hu1 hr) (pe_disp (pps_cons pe_str pe_int (pps_cons pe_str pe_non (pps_cons pe_str pe_int (pps_cons pe_str pe_bl (pps_cons pe_str (pe_tup pa_nil) pps_nil))))) (by rfl) (by rfl) (fun z => by cases z) (by decide)) (pv 0) (fun _ _ => rfl)))), ?_⟩
    refine fun d hd => ⟨Nat.zero_le _, fun t ht => ?_⟩
    have hd1 : (upd (upd H d (.dK [])) t (.tup [])) d = some (.dK []) := by
      rw [upd_ne (fun e => by rw [← e, upd_same] at ht; cases ht), upd_same]
    refine ⟨hd1, [(Sum.inr "count", .int 0), (Sum.inr "cost", .non), (Sum.inr "trust", .int 0), (Sum.inr "there", .bl false), (Sum.inr "seen", .ref t)], rfl, show 5 ≤ 15 by decide, ?_⟩
    have s1 : Same H (upd (upd (upd H d (.dK [])) t (.tup [])) d (.dK (mergeK [] [(Sum.inr "count", .int 0), (Sum.inr "cost", .non), (Sum.inr "trust", .int 0), (Sum.inr "there", .bl false), (Sum.inr "seen", .ref t)]))) := Same.mut (same_trans (Same.new hd) (Same.new ht)) hd
    cases m with
    | count => exact ⟨_, rfl, d, .int 0, rfl, dget_of upd_same (by kernel_rfl), q _ _ s1 (.int 0)⟩
    | cost => exact ⟨_, rfl, d, .non, rfl, dget_of upd_same (by kernel_rfl), q _ _ s1 .non⟩
    | trust => exact ⟨_, rfl, d, .int 0, rfl, dget_of upd_same (by kernel_rfl), q _ _ s1 (.int 0)⟩
    | there => exact ⟨_, rfl, d, .bl false, rfl, dget_of upd_same (by kernel_rfl), q _ _ s1 (.bl false)⟩
    | seen =>
      refine ⟨_, rfl, d, .ref t, rfl, dget_of upd_same (by kernel_rfl), q _ _ s1 ?_⟩
      have e : (Ms.seen.enc N Ms.seen.alg.A.un) = .tuple [] := by
        show PyData.tuple ((N.filter fun _ => false).map encStr.e) = _
        rw [filter_false]
        rfl
      rw [e]
      refine .tup (.inl (.inl ?_)) .nil
      rw [upd_ne (fun e => by rw [e, upd_same] at ht; cases ht), upd_same]
abbrev n_q_one : List Str := ["_law_measure", "_law_persons_here"]
theorem sc_q_one : FnScope n_q_one ["_law_measure", "_law_persons_here"] (defScope s_q_one) := ⟨rfl, rfl, rfl, by decide +kernel, rfl, by decide +kernel, by decide +kernel⟩

def spLOne (K : PySem.W.Frag) : Sp := fun vs H Q _ => ∃ (m : Ms) (N : List Str) (v : V), vs = [.str m.nm, v] ∧ Dp K H v (.tuple (N.map encStr.e)) ∧ ∀ v' H', Same H H' → Dp K H' v' (m.enc N m.alg.M.un) → Q v' H'
theorem ok_lone {f : Addr} {fd : FuncData} (B : Bl mg) (F : FnP K "_law_one" s_q_one f fd) (hm : mg "_law_one" = some (.ref f)) : Cal P w K mg base 1 "_law_one" ["_law_measure", "_law_persons_here"] (spLOne K) := by
  refine cal_mk F (F.ok sc_q_one (fun vs H Q E h => ?_) (fun cdv A outer s H vs Q E hr h => ?_)) hm (fun _ _ _ _ _ _ us hl => match us, hl with | [_, _], _ => rfl) (fun _ _ _ _ _ _ us hl => match us, hl with | [_, _], _ => rfl)
  · obtain ⟨m, N, v, rfl, _⟩ := h
    rfl
  · obtain ⟨m, N, v, rfl, hv, q⟩ := h
    refine ⟨_, PSs.nox (pss_one (ps_ret (pe_dget (hu1 hr) (pe_disp (pps_cons pe_str pe_int (pps_cons pe_str pe_int (pps_cons pe_str pe_int (pps_cons pe_str pe_bl (pps_cons pe_str (pv 1) pps_nil))))) (by rfl) (by rfl) (fun z => by cases z) (by decide)) (pv 0) (fun _ _ => rfl)))), ?_⟩
    refine fun d hd => ⟨_, rfl, upd_same, [(Sum.inr "count", .int 1), (Sum.inr "cost", .int 0), (Sum.inr "trust", .int 100), (Sum.inr "there", .bl true), (Sum.inr "seen", v)], rfl, show 5 ≤ 15 by decide, ?_⟩
    have s1 : Same H (upd (upd H d (.dK [])) d (.dK (mergeK [] [(Sum.inr "count", .int 1), (Sum.inr "cost", .int 0), (Sum.inr "trust", .int 100), (Sum.inr "there", .bl true), (Sum.inr "seen", v)]))) := Same.mut (Same.new hd) hd
    cases m with
    | count => exact ⟨_, rfl, d, .int 1, rfl, dget_of upd_same (by kernel_rfl), q _ _ s1 (.int 1)⟩
    | cost => exact ⟨_, rfl, d, .int 0, rfl, dget_of upd_same (by kernel_rfl), q _ _ s1 (.int 0)⟩
    | trust => exact ⟨_, rfl, d, .int 100, rfl, dget_of upd_same (by kernel_rfl), q _ _ s1 (.int 100)⟩
    | there => exact ⟨_, rfl, d, .bl true, rfl, dget_of upd_same (by kernel_rfl), q _ _ s1 (.bl true)⟩
    | seen =>
      refine ⟨_, rfl, d, v, rfl, dget_of upd_same (by kernel_rfl), q _ _ s1 ?_⟩
      have e : (Ms.seen.enc N Ms.seen.alg.M.un) = .tuple (N.map encStr.e) := by
        show PyData.tuple ((N.filter fun _ => true).map encStr.e) = _
        rw [filter_true]
      rw [e]
      exact dp_same s1 _ _ hv
theorem dp_sub_inv {H : Hp} {v : V} {N : List Str} {f : Str → Bool} (h : Dp K H v (eSub N f)) : ∃ a, v = .ref a ∧ SqT K H a ((N.filter f).map V.str) := by
  obtain ⟨a, us, e, ha, hu⟩ := dp_tup_inv h
  refine ⟨a, e, ?_⟩
  have : us = (N.filter f).map V.str := dpl_strs_inv hu
  rw [← this]
  exact ha
abbrev n_q_sum : List Str := ["_law_measure", "_law_a", "_law_b"]
theorem sc_q_sum : FnScope n_q_sum ["_law_measure", "_law_a", "_law_b"] (defScope s_q_sum) := ⟨rfl, rfl, rfl, by decide +kernel, rfl, by decide +kernel, by decide +kernel⟩

def spLSum (K : PySem.W.Frag) : Sp := fun vs H Q _ => ∃ (m : Ms) (N : List Str) (a b : V) (x y : m.car), vs = [.str m.nm, a, b] ∧ Pers N ∧ Dp K H a (m.enc N x) ∧ Dp K H b (m.enc N y) ∧ ∀ v' H', Same H H' → Dp K H' v' (m.enc N (m.alg.A.op x y)) → Q v' H'
theorem ok_lsum {f : Addr} {fd : FuncData} (B : Bl mg) (c_q_sorted : Cal P w K mg base 1 "_law_sorted" ["_law_rows"] (spSorted K)) (F : FnP K "_law_sum" s_q_sum f fd) (hm : mg "_law_sum" = some (.ref f)) : Cal P w K mg base 2 "_law_sum" ["_law_measure", "_law_a", "_law_b"] (spLSum K) := by
  refine cal_mk F (F.ok sc_q_sum (fun vs H Q E h => ?_) (fun cdv A outer s H vs Q E hr h => ?_)) hm (fun _ _ _ _ _ _ us hl => match us, hl with | [_, _, _], _ => rfl) (fun _ _ _ _ _ _ us hl => match us, hl with | [_, _, _], _ => rfl)
  · obtain ⟨m, N, a, b, x, y, rfl, _⟩ := h
    rfl
  · obtain ⟨m, N, a, b, x, y, rfl, hN, ha, hb, q⟩ := h
    refine ⟨_, PSs.nox (pss_cons (ps_if (pt_cmpR op_eq (pv 0) pe_str (nomark _)) (pss_one (ps_ret (pe_op op_add (pv 1) (pv 2)))) pss_nil) (pss_cons (ps_if (pt_cmpR op_eq (pv 0) pe_str (nomark _)) (pss_cons (ps_if (PW.pt (pw_or (pt_cmpR op_isN (pv 1) pe_non (nomark _)) (pw_or1 (pt_cmpR op_isN (pv 2) pe_non (nomark _))))) (pss_one (ps_ret (pe_ix ix_list (pe_lst (pa_cons (pv 1) (pa_cons (pv 2) pa_nil))) (pe_callTy call_int1 (by rfl) B.int (by decide +kernel) (pa_cons (pe_cmpR op_isN (pv 1) pe_non (nomark _)) pa_nil)) (fun _ _ => rfl)))) pss_nil) (pss_one (ps_ret (pe_callB (call_min2 rfl) (by rfl) B.min (by decide +kernel) (pa_cons (pe_callTy call_int1 (by rfl) B.int (by decide +kernel) (pa_cons (pv 1) pa_nil)) (pa_cons (pe_callTy call_int1 (by rfl) B.int (by decide +kernel) (pa_cons (pv 2) pa_nil)) pa_nil)))))) pss_nil) (pss_cons (ps_if (pt_cmpR op_eq (pv 0) pe_str (nomark _)) (pss_one (ps_ret (pe_callB (call_max2 rfl) (by rfl) B.max (by decide +kernel) (pa_cons (pe_callTy call_int1 (by rfl) B.int (by decide +kernel) (pa_cons (pv 1) pa_nil)) (pa_cons (pe_callTy call_int1 (by rfl) B.int (by decide +kernel) (pa_cons (pv 2) pa_nil)) pa_nil))))) pss_nil) (pss_cons (ps_if (pt_cmpR op_eq (pv 0) pe_str (nomark _)) (pss_one (ps_ret (pe_orT (pv 1) (pe_one (pv 2))))) pss_nil) (pss_one (ps_ret (pe_callTy call_tuple_u (by rfl) B.tuple (by decide +kernel) (pa_cons (pe_u c_q_sorted hr (by decide) (by rfl) (pa_cons (pe_op op_cat (pe_callTy call_list_of (by rfl) B.list (by decide +kernel) (pa_cons (pv 1) pa_nil)) (pe_callTy call_list_of (by rfl) B.list (by decide +kernel) (pa_cons (pv 2) pa_nil))) pa_nil)) pa_nil)))))))), ?_⟩
    cases m with
    | count =>
      change Nat at x
      change Nat at y
      obtain rfl := dp_int_inv (i := (x : Int)) ha
      obtain rfl := dp_int_inv (i := (y : Int)) hb
      refine ⟨_, rfl, rfl, _, rfl, ifT (by decide +kernel) ⟨_, rfl, _, rfl, _, _, rfl, rfl, q _ _ Same.rfl' ?_⟩⟩
      exact .int _
    | cost =>
      change Option Nat at x
      change Option Nat at y
      obtain rfl := dp_opt_inv (o := x) ha
      obtain rfl := dp_opt_inv (o := y) hb
      refine ⟨_, rfl, rfl, _, rfl, ifF (by decide +kernel) ⟨_, rfl, rfl, _, rfl, ifT (by decide +kernel) ?_⟩⟩
      refine ⟨_, rfl, rfl, _, rfl, ?_⟩
      cases x with
      | none =>
        refine ifT (decide_eq_true rfl) (iteT ⟨_, rfl, _, rfl, sz2, fun l hl => ?_⟩)
        exact ⟨_, rfl, rfl, .inr ⟨_, rfl, l, _, 1, vOpt y, rfl, rfl, .inl (.inl upd_same), atI_nat (j := 1) rfl, q _ _ (Same.new hl) (dp_opt _)⟩⟩
      | some a =>
        refine ifF (decide_eq_false fun z => by cases z) ⟨_, rfl, rfl, _, rfl, ?_⟩
        cases y with
        | none =>
          refine ifT (decide_eq_true rfl) ⟨_, rfl, _, rfl, sz2, fun l hl => ?_⟩
          have e0 : decide (vOpt (some a) = V.non) = false := decide_eq_false fun z => by cases z
          refine ⟨_, rfl, rfl, .inr ⟨_, rfl, l, _, 0, vOpt (some a), rfl, ?_, .inl (.inl upd_same), atI_nat (j := 0) rfl, q _ _ (Same.new hl) (dp_opt _)⟩⟩
          rw [e0]
          rfl
        | some b =>
          refine ifF (decide_eq_false fun z => by cases z) ⟨_, rfl, .inl ⟨_, rfl, _, rfl, .inl ⟨_, rfl, _, _, rfl, q _ _ Same.rfl' ?_⟩⟩⟩
          have e : (if (b : Int) < (a : Int) then (b : Int) else (a : Int)) = ((min a b : Nat) : Int) := by
            split <;> omega
          have e1 : Ms.cost.enc N (Ms.cost.alg.A.op (some a : Option Nat) (some b : Option Nat)) = .int ((min a b : Nat) : Int) := rfl
          rw [e1, ← e]
          exact .int _
    | trust =>
      obtain rfl := dp_int_inv (i := ((Subtype.val (p := fun n => n ≤ 100) x : Nat) : Int)) ha
      obtain rfl := dp_int_inv (i := ((Subtype.val (p := fun n => n ≤ 100) y : Nat) : Int)) hb
      refine ⟨_, rfl, rfl, _, rfl, ifF (by decide +kernel) ⟨_, rfl, rfl, _, rfl, ifF (by decide +kernel) ⟨_, rfl, rfl, _, rfl, ifT (by decide +kernel) ⟨_, rfl, .inl ⟨_, rfl, _, rfl, .inl ⟨_, rfl, _, _, rfl, q _ _ Same.rfl' ?_⟩⟩⟩⟩⟩⟩
      have e : (if ((Subtype.val (p := fun n => n ≤ 100) x : Nat) : Int) < ((Subtype.val (p := fun n => n ≤ 100) y : Nat) : Int) then ((Subtype.val (p := fun n => n ≤ 100) y : Nat) : Int) else ((Subtype.val (p := fun n => n ≤ 100) x : Nat) : Int)) = ((max (Subtype.val (p := fun n => n ≤ 100) x) (Subtype.val (p := fun n => n ≤ 100) y) : Nat) : Int) := by
        split <;> omega
      have e1 : Ms.trust.enc N (Ms.trust.alg.A.op x y) = .int ((max (Subtype.val (p := fun n => n ≤ 100) x) (Subtype.val (p := fun n => n ≤ 100) y) : Nat) : Int) := rfl
      rw [e1, ← e]
      exact .int _
    | there =>
      obtain rfl := fm_bool (b := x) (.inl ha)
      obtain rfl := fm_bool (b := y) (.inl hb)
      refine ⟨_, rfl, rfl, _, rfl, ifF (by decide +kernel) ⟨_, rfl, rfl, _, rfl, ifF (by decide +kernel) ⟨_, rfl, rfl, _, rfl, ifF (by decide +kernel) ⟨_, rfl, rfl, _, rfl, ifT (by decide +kernel) ⟨_, rfl, x, rfl, ?_⟩⟩⟩⟩⟩
      have hx : x = true ∨ x = false := Bool.eq_false_or_eq_true x
      rcases hx with rfl | rfl
      · exact iteT (q _ _ Same.rfl' (.bl true))
      · exact iteF ⟨_, rfl, q _ _ Same.rfl' (.bl y)⟩
    | seen =>
      change Str → Bool at x
      change Str → Bool at y
      obtain ⟨p, rfl, hp⟩ := dp_sub_inv (f := x) ha
      obtain ⟨r, rfl, hrr⟩ := dp_sub_inv (f := y) hb
      have lx : (N.filter x).length ≤ 100 := Nat.le_trans (List.length_filter_le ..) hN.len
      have ly : (N.filter y).length ≤ 100 := Nat.le_trans (List.length_filter_le ..) hN.len
      refine ⟨_, rfl, rfl, _, rfl, ifF (by decide +kernel) ⟨_, rfl, rfl, _, rfl, ifF (by decide +kernel) ⟨_, rfl, rfl, _, rfl, ifF (by decide +kernel) ⟨_, rfl, rfl, _, rfl, ifF (by decide +kernel) ?_⟩⟩⟩⟩
      refine ⟨_, rfl, p, _, rfl, .inr hp, fun l1 h1 => ?_⟩
      have s1 := Same.new (o := .lst ((N.filter x).map V.str)) h1
      refine ⟨_, rfl, r, _, rfl, .inr (same_t s1 hrr), fun l2 h2 => ?_⟩
      have s2 := Same.new (o := .lst ((N.filter y).map V.str)) h2
      refine ⟨l1, l2, _, _, rfl, rfl, s2 _ _ upd_same, upd_same, ?_, fun l3 h3 => ?_⟩
      · rw [List.length_map, List.length_map]
        exact szn (by omega)
      have s3 := Same.new (o := .lst ((N.filter x).map V.str ++ (N.filter y).map V.str)) h3
      have sA := same_trans s1 (same_trans s2 s3)
      refine ⟨l3, Str, inferInstance, encStr, _, N.filter x ++ N.filter y, rfl, .inl (.inl upd_same), by rw [← List.map_append]; exact dp_strs _, encOk_str fun z hz => ?_, ?_, fun l ws H' s4 hl hws => ?_⟩
      · rcases List.mem_append.mp hz with hz | hz
        · exact hN.ok z (List.mem_filter.mp hz).1
        · exact hN.ok z (List.mem_filter.mp hz).1
      · rw [List.length_append]
        omega
      · rw [union_sort hN.up x y (fun z => Iff.rfl)] at hws
        exact ⟨l, ws, rfl, .inl (.inl (.inl hl)), fun t H7 s7 h7 => q _ _ (same_trans sA (same_trans s4 s7)) (dp_tup h7 (hws.same s7))⟩
abbrev n_q_both : List Str := ["_law_measure", "_law_a", "_law_b", "_law_one_here"]
theorem sc_q_both : FnScope n_q_both ["_law_measure", "_law_a", "_law_b"] (defScope s_q_both) := ⟨rfl, rfl, rfl, by decide +kernel, rfl, by decide +kernel, by decide +kernel⟩

def spLBoth (K : PySem.W.Frag) : Sp := fun vs H Q _ => ∃ (m : Ms) (N : List Str) (a b : V) (x y : m.car), vs = [.str m.nm, a, b] ∧ Pers N ∧ Dp K H a (m.enc N x) ∧ Dp K H b (m.enc N y) ∧ m.ok x ∧ m.ok y ∧ ∀ v' H', Same H H' → Dp K H' v' (m.enc N (m.alg.M.op x y)) → Q v' H'
theorem ok_lboth {f : Addr} {fd : FuncData} (B : Bl mg) (F : FnP K "_law_both" s_q_both f fd) (hm : mg "_law_both" = some (.ref f)) : Cal P w K mg base 1 "_law_both" ["_law_measure", "_law_a", "_law_b"] (spLBoth K) := by
  refine cal_mk F (F.ok sc_q_both (fun vs H Q E h => ?_) (fun cdv A outer s H vs Q E hr h => ?_)) hm (fun _ _ _ _ _ _ us hl => match us, hl with | [_, _, _], _ => rfl) (fun _ _ _ _ _ _ us hl => match us, hl with | [_, _, _], _ => rfl)
  · obtain ⟨m, N, a, b, x, y, rfl, _⟩ := h
    rfl
  · obtain ⟨m, N, a, b, x, y, rfl, hN, ha, hb, ox, oy, q⟩ := h
    refine ⟨_, PSs.nox (pss_cons (ps_if (pt_cmpR op_eq (pv 0) pe_str (nomark _)) (pss_one (ps_ret (pe_op op_mulW (pv 1) (pv 2)))) pss_nil) (pss_cons (ps_if (pt_cmpR op_eq (pv 0) pe_str (nomark _)) (pss_cons (ps_if (PW.pt (pw_or (pt_cmpR op_isN (pv 1) pe_non (nomark _)) (pw_or1 (pt_cmpR op_isN (pv 2) pe_non (nomark _))))) (pss_one (ps_ret pe_non)) pss_nil) (pss_one (ps_ret (pe_op op_add (pv 1) (pv 2))))) pss_nil) (pss_cons (ps_if (pt_cmpR op_eq (pv 0) pe_str (nomark _)) (pss_one (ps_ret (pe_callB (call_min2 rfl) (by rfl) B.min (by decide +kernel) (pa_cons (pe_callTy call_int1 (by rfl) B.int (by decide +kernel) (pa_cons (pv 1) pa_nil)) (pa_cons (pe_callTy call_int1 (by rfl) B.int (by decide +kernel) (pa_cons (pv 2) pa_nil)) pa_nil))))) pss_nil) (pss_cons (ps_if (pt_cmpR op_eq (pv 0) pe_str (nomark _)) (pss_one (ps_ret (pe_andT (pv 1) (pe_one (pv 2))))) pss_nil) (pss_one (ps_ret (pe_callTy call_tuple_u (by rfl) B.tuple (by decide +kernel) (pa_cons (pe_lc (own := [("_law_one_here", 3)]) (g := _) (tt := (tTest (tOp (rIn K false) _ _))) (te := _) rfl sc_q_both.nd (pi_seq (pv 1)) (blkOk_by (N := n_q_both) (sc := defScope s_q_both) (by decide +kernel)) (fun _ _ _ _ _ => (pg_name (i := 3) sc_q_both.nd rfl (.inl rfl) (by first | exact .inl rfl | exact .inr rfl))) (fun _ _ _ _ _ => (pts_one (pt_cmpR op_in_seq (pv 3) (pv 2) (by rfl)))) (fun _ _ _ _ _ => (pv 3))) pa_nil)))))))), ?_⟩
    cases m with
    | count =>
      change Nat at x
      change Nat at y
      have cx : cOk x := ox
      have cy : cOk y := oy
      obtain rfl := dp_int_inv (i := (x : Int)) ha
      obtain rfl := dp_int_inv (i := (y : Int)) hb
      refine ⟨_, rfl, rfl, _, rfl, ifT (by decide +kernel) ⟨_, rfl, _, rfl, _, _, rfl, rfl, wide_mul (cOk_bits cx) (cOk_bits cy) (by decide) (by decide) (by decide), q _ _ Same.rfl' ?_⟩⟩
      exact .int _
    | cost =>
      change Option Nat at x
      change Option Nat at y
      obtain rfl := dp_opt_inv (o := x) ha
      obtain rfl := dp_opt_inv (o := y) hb
      refine ⟨_, rfl, rfl, _, rfl, ifF (by decide +kernel) ⟨_, rfl, rfl, _, rfl, ifT (by decide +kernel) ?_⟩⟩
      refine ⟨_, rfl, rfl, _, rfl, ?_⟩
      cases x with
      | none => exact ifT (decide_eq_true rfl) (iteT (q _ _ Same.rfl' .non))
      | some a =>
        refine ifF (decide_eq_false fun z => by cases z) ⟨_, rfl, rfl, _, rfl, ?_⟩
        cases y with
        | none => exact ifT (decide_eq_true rfl) (q _ _ Same.rfl' .non)
        | some b =>
          refine ifF (decide_eq_false fun z => by cases z) ⟨_, rfl, _, rfl, _, _, rfl, rfl, q _ _ Same.rfl' ?_⟩
          exact .int _
    | trust =>
      obtain rfl := dp_int_inv (i := ((Subtype.val (p := fun n => n ≤ 100) x : Nat) : Int)) ha
      obtain rfl := dp_int_inv (i := ((Subtype.val (p := fun n => n ≤ 100) y : Nat) : Int)) hb
      refine ⟨_, rfl, rfl, _, rfl, ifF (by decide +kernel) ⟨_, rfl, rfl, _, rfl, ifF (by decide +kernel) ⟨_, rfl, rfl, _, rfl, ifT (by decide +kernel) ⟨_, rfl, .inl ⟨_, rfl, _, rfl, .inl ⟨_, rfl, _, _, rfl, q _ _ Same.rfl' ?_⟩⟩⟩⟩⟩⟩
      have e : (if ((Subtype.val (p := fun n => n ≤ 100) y : Nat) : Int) < ((Subtype.val (p := fun n => n ≤ 100) x : Nat) : Int) then ((Subtype.val (p := fun n => n ≤ 100) y : Nat) : Int) else ((Subtype.val (p := fun n => n ≤ 100) x : Nat) : Int)) = ((min (Subtype.val (p := fun n => n ≤ 100) x) (Subtype.val (p := fun n => n ≤ 100) y) : Nat) : Int) := by
        split <;> omega
      have e1 : Ms.trust.enc N (Ms.trust.alg.M.op x y) = .int ((min (Subtype.val (p := fun n => n ≤ 100) x) (Subtype.val (p := fun n => n ≤ 100) y) : Nat) : Int) := rfl
      rw [e1, ← e]
      exact .int _
    | there =>
      obtain rfl := fm_bool (b := x) (.inl ha)
      obtain rfl := fm_bool (b := y) (.inl hb)
      refine ⟨_, rfl, rfl, _, rfl, ifF (by decide +kernel) ⟨_, rfl, rfl, _, rfl, ifF (by decide +kernel) ⟨_, rfl, rfl, _, rfl, ifF (by decide +kernel) ⟨_, rfl, rfl, _, rfl, ifT (by decide +kernel) ⟨_, rfl, x, rfl, ?_⟩⟩⟩⟩⟩
      have hx : x = true ∨ x = false := Bool.eq_false_or_eq_true x
      rcases hx with rfl | rfl
      · exact iteT ⟨_, rfl, q _ _ Same.rfl' (.bl y)⟩
      · exact iteF (q _ _ Same.rfl' (.bl false))
    | seen =>
      change Str → Bool at x
      change Str → Bool at y
      obtain ⟨p, rfl, hp⟩ := dp_sub_inv (f := x) ha
      obtain ⟨r, rfl, hrr⟩ := dp_sub_inv (f := y) hb
      refine ⟨_, rfl, rfl, _, rfl, ifF (by decide +kernel) ⟨_, rfl, rfl, _, rfl, ifF (by decide +kernel) ⟨_, rfl, rfl, _, rfl, ifF (by decide +kernel) ⟨_, rfl, rfl, _, rfl, ifF (by decide +kernel) ?_⟩⟩⟩⟩
      have lx : (N.filter x).length ≤ 100 := Nat.le_trans (List.length_filter_le ..) hN.len
      refine ⟨_, rfl, p, rfl, .inr ⟨⟨_, hp⟩, ?_⟩⟩
      refine lc_dat (K := K) (walk_tup (K := K) (a := p) (xs := (N.filter x).map V.str)) env0 (H0 := H) trivial (fun H' k _ => same_t k.same hp) PyData.str (fun _ => rfl) (fun i zs => zs = ((N.filter x).take i).filter fun z => decide (z ∈ N.filter y)) rfl (by rw [List.length_map]; omega) ?_ ?_
      · rintro i u H2 _ zs Ry Rn hi rfl k2 _ ⟨rfl, hu⟩ ry rn
        rw [List.getElem?_map] at hu
        cases hz : (N.filter x)[i]? with
        | none =>
          rw [hz] at hu
          cases hu
        | some z =>
          rw [hz] at hu
          obtain rfl : V.str z = u := Option.some.inj hu
          refine ⟨rfl, _, rfl, _, rfl, r, _, rfl, .inr (same_t k2.same hrr), rfl, flat_strs _, _, rfl, ?_⟩
          show if inV (V.str z) ((N.filter y).map V.str) = true then _ else _
          rw [inV_strs]
          have e3 := filter_take_snoc (fun z => decide (z ∈ N.filter y)) (N.filter x) i z hz
          cases hd : decide (z ∈ N.filter y) with
          | true =>
            refine iteT ⟨_, rfl, ry _ _ z Kp.refl trivial (.str _) ?_⟩
            rw [e3, if_pos hd]
          | false =>
            refine iteF (rn _ Kp.refl trivial ?_)
            rw [e3, if_neg (by rw [hd]; exact Bool.false_ne_true), List.append_nil]
      · rintro D ws zs H2 hD k2 _ hw hz rfl
        rw [List.length_map, List.take_length, inter_filter] at hz
        refine ⟨D, ws, rfl, .inl (.inl (.inl hw)), fun t H7 s7 h7 => ?_⟩
        exact q _ _ (same_trans k2.same s7) (dp_tup h7 (hz.same s7))
end
end K8
set_option exponentiation.threshold 20000
/-! K8V1: counted, valued. -/
namespace K8
open PySem PySem.Spec PyProof.Rows L2
section
variable {P : Program} {w : World} {K : PySem.W.Frag} {mg : Str → Option Value} {base : Heap}
theorem unitr {S : Type} (M : CMon S) (a : S) : M.op a M.un = a := M.unitr a
theorem mval_snoc {S : Type} (G : Alg S) (v : Str → S) (m : Mono) (e : Str × Nat) : mval G v (m ++ [e]) = G.M.op (mval G v m) (G.pow (v e.1) e.2) := by
  unfold mval
  rw [G.M.tot_append]
  congr 1
  exact G.M.unitr _
theorem pval_snoc {S : Type} (G : Alg S) (v : Str → S) (p : Poly) (t : Mono × Nat) : pval G v (p ++ [t]) = G.A.op (pval G v p) (G.act t.2 (mval G v t.1)) := by
  unfold pval
  rw [G.A.tot_append]
  congr 1
  exact G.A.unitr _
theorem take_snoc {α : Type} {xs : List α} {i : Nat} {x : α} (h : xs[i]? = some x) : xs.take (i + 1) = xs.take i ++ [x] := by
  rw [List.take_add_one, h]
  rfl
/-- a bound that nothing here reaches -/
structure Great (b : Nat) : Prop where
  lo : 10 ^ 1500 ≤ b
  hi : b < 2 ^ 14000
theorem Great.ge {b k : Nat} (h : Great b) (hk : k ≤ 1500) : 10 ^ k ≤ b := Nat.le_trans (Nat.pow_le_pow_right (by decide) hk) h.lo
theorem mval_take_le {v : Str → Nat} {m : Mono} (h : csum m ≤ 100) (hv : ∀ k ∈ keys m, v k ≤ 10 ^ 6) (i : Nat) : mval gCount v (m.take i) ≤ 10 ^ 600 := by
  have h1 : mval gCount v (m.take i) ≤ (10 ^ 6) ^ csum (m.take i) := mval_le (by decide) fun k hk => hv k (by
    obtain ⟨e, he, rfl⟩ := List.mem_map.mp hk
    exact List.mem_map.mpr ⟨e, List.mem_of_mem_take he, rfl⟩)
  have h2 := csum_take m i
  refine Nat.le_trans h1 ?_
  rw [← Nat.pow_mul]
  exact Nat.pow_le_pow_right (by decide) (by omega)
theorem raise_great {n e b : Nat} (g : Great b) (hn : n ≤ 10 ^ 6) (he : e ≤ 100) : RaiseOk n e b := by
  refine ⟨Nat.le_trans hn (g.ge (by decide)), g.hi, ?_⟩
  have h1 : max n 1 ≤ 10 ^ 6 := Nat.max_le.mpr ⟨hn, by decide⟩
  have h2 : (max n 1) ^ (2 * e) ≤ (10 ^ 6) ^ (2 * e) := Nat.pow_le_pow_left h1 _
  refine Nat.le_trans h2 ?_
  rw [← Nat.pow_mul]
  exact g.ge (by omega)
abbrev n_d_counted : List Str := ["p", "values", "total", "monomial", "coefficient", "product", "token", "exponent"]
theorem sc_d_counted : FnScope n_d_counted ["p", "values"] (defScope s_d_counted) := ⟨rfl, rfl, rfl, by decide +kernel, rfl, by decide +kernel, by decide +kernel⟩

def spCounted (K : PySem.W.Frag) : Sp := fun vs H Q _ => ∃ (v : V) (p : Poly) (d : Addr) (kvs : List (Str × V)) (val : Str → Nat), vs = [v, .ref d] ∧ Fm K H v (ePoly p) ∧ Fit p ∧ H d = some (.dK (tK id kvs)) ∧ (∀ t ∈ p, ∀ k ∈ keys t.1, get? kvs k = some (.int (val k : Int)) ∧ val k ≤ 10 ^ 6) ∧ Q (.int ((pval gCount val p : Nat) : Int)) H
theorem ok_counted {f : Addr} {fd : FuncData} {b : Nat} {tk : Tok} (B : Bl mg) (gb : Great b) (g_TOO_GREAT : mg "TOO_GREAT" = some (.int (b : Int) tk)) (c_d_raised_within : Cal P w K mg base 1 "raised_within" ["number", "exponent", "bound"] spRaised) (F : FnP K "counted" s_d_counted f fd) (hm : mg "counted" = some (.ref f)) : Cal P w K mg base 2 "counted" ["p", "values"] (spCounted K) := by
  have r_TOO_GREAT : RelV (.int (b : Int)) (.int (b : Int) tk) := ⟨_, rfl⟩
  refine cal_mk F (F.ok sc_d_counted (fun vs H Q E h => ?_) (fun cdv A outer s H vs Q E hr h => ?_)) hm (fun _ _ _ _ _ _ us hl => match us, hl with | [_, _], _ => rfl) (fun _ _ _ _ _ _ us hl => match us, hl with | [_, _], _ => rfl)
  · obtain ⟨v, p, d, kvs, val, rfl, _⟩ := h
    rfl
  · obtain ⟨v, p, d, kvs, val, rfl, hp, fp, hd, hk, q⟩ := h
    refine ⟨_, PSs.nox (pss_cons (ps_set (i := 2) sc_d_counted.nd rfl (.inl rfl) pe_int) (pss_cons (ps_for PassesOwn.never rfl (pi_seq (pv 0)) (pg_seq rfl (pgs_cons (pg_name (i := 3) sc_d_counted.nd rfl (.inl rfl)) (pgs_cons (pg_name (i := 4) sc_d_counted.nd rfl (.inl rfl)) pgs_nil))) (pss_cons (ps_set (i := 5) sc_d_counted.nd rfl (.inl rfl) (pv 4)) (pss_cons (ps_for PassesOwn.never rfl (pi_seq (pv 3)) (pg_seq rfl (pgs_cons (pg_name (i := 6) sc_d_counted.nd rfl (.inl rfl)) (pgs_cons (pg_name (i := 7) sc_d_counted.nd rfl (.inl rfl)) pgs_nil))) (pss_one (ps_set (i := 5) sc_d_counted.nd rfl (.inl rfl) (pe_callB (call_min2 rfl) (by rfl) B.min (by decide +kernel) (pa_cons (pe_op op_mulW (pv 5) (pe_u c_d_raised_within hr (by decide) (by rfl) (pa_cons (pe_dget (hu1 hr) (pv 1) (pv 6) (fun _ _ => rfl)) (pa_cons (pv 7) (pa_cons (pe_glob rfl g_TOO_GREAT r_TOO_GREAT) pa_nil))))) (pa_cons (pe_glob rfl g_TOO_GREAT r_TOO_GREAT) pa_nil)))))) (pss_one (ps_aug (i := 2) sc_d_counted.nd rfl (.inl rfl) (pv 5) ip_add))))) (pss_cons (ps_if (pt_cmpR op_ge (pv 2) (pe_glob rfl g_TOO_GREAT r_TOO_GREAT) (nomark _)) (pss_one ps_never) pss_nil) (pss_one (ps_ret (pv 2)))))), ?_⟩
    obtain ⟨x, us, rfl, hx, hus⟩ := fm_tup hp
    have bits : ∀ {k : Nat}, k ≤ b → ((k : Nat) : Int).natAbs < 2 ^ 14000 := fun h => Nat.lt_of_le_of_lt (by rw [Int.natAbs_natCast]; exact h) gb.hi
    refine ⟨_, rfl, x, rfl, for_seq (M := NoM) nsN hx (fun i σ H2 => ∃ y3 y4 y5 y6 y7, σ = [some (.ref x), some (.ref d), some (.int ((pval gCount val (p.take i) : Nat) : Int)), y3, y4, y5, y6, y7] ∧ H2 = H) ⟨none, none, none, none, none, rfl, rfl⟩ ?_ ?_ ?_⟩
    · rintro i σ H2 _ ⟨_, _, _, _, _, _, rfl⟩
      exact Kp.refl
    · rintro i e σ H2 hi ⟨y3, y4, y5, y6, y7, rfl, rfl⟩ he
      obtain ⟨t, ht, hf⟩ := hus.get he
      have tm := List.mem_of_getElem? ht
      obtain ⟨c, x1, x2, rfl, hc, f1, f2⟩ := fm_pair hf
      obtain rfl := fm_int f2
      obtain ⟨m, us1, rfl, hm1, hu1⟩ := fm_tup f1
      have dg := fp.deg t tm
      have hkt := hk t tm
      have ml := mval_take_le dg fun k hk' => (hkt k hk').2
      have cl := fit_coef fp t tm
      have pl : ∀ j, t.2 * mval gCount val (t.1.take j) ≤ b := fun j => by
        refine Nat.le_trans (Nat.mul_le_mul cl (ml j)) ?_
        rw [← Nat.pow_add]
        exact gb.ge (by decide)
      refine ⟨c, _, rfl, hc, rfl, _, _, rfl, _, _, rfl, rfl, ?_⟩
      refine ⟨_, rfl, _, rfl, m, rfl, for_seq (M := NoM) nsN hm1 (fun j σ H3 => ∃ y6 y7, σ = [some (.ref x), some (.ref d), some (.int ((pval gCount val (p.take i) : Nat) : Int)), some (.ref m), some (.int (t.2 : Int)), some (.int ((t.2 * mval gCount val (t.1.take j) : Nat) : Int)), y6, y7] ∧ H3 = H2) ⟨y6, y7, ?_, rfl⟩ ?_ ?_ ?_⟩
      · have e0 : t.2 * mval gCount val (t.1.take 0) = t.2 := Nat.mul_one _
        rw [e0]
        rfl
      · rintro j σ H3 _ ⟨_, _, _, rfl⟩
        exact Kp.refl
      · rintro j e2 σ H3 hj ⟨y6, y7, rfl, rfl⟩ he2
        obtain ⟨r, hrr, hf2⟩ := hu1.get he2
        have rm := List.mem_of_getElem? hrr
        obtain ⟨c2, z1, z2, rfl, hc2, g1, g2⟩ := fm_pair hf2
        obtain rfl := fm_str g1
        obtain rfl := fm_int g2
        have rk : r.1 ∈ keys t.1 := List.mem_map.mpr ⟨r, rm, rfl⟩
        obtain ⟨hg, hv6⟩ := hkt r.1 rk
        have re : r.2 ≤ 100 := Nat.le_trans (le_csum rm) dg
        have ro := raise_great gb hv6 re
        refine ⟨c2, _, rfl, hc2, rfl, _, _, rfl, _, _, rfl, rfl, ?_⟩
        have hget : DGet H3 d (.str r.1) (some (.int (val r.1 : Int))) := dget_of hd (by rw [tK_val, hg]; rfl)
        have ep : ((t.2 * mval gCount val (t.1.take j) : Nat) : Int) * ((val r.1 ^ r.2 : Nat) : Int) = ((t.2 * mval gCount val (t.1.take (j + 1)) : Nat) : Int) := by
          rw [← Int.natCast_mul, take_snoc hrr, mval_snoc, Nat.mul_assoc]
          rfl
        refine ⟨_, rfl, _, rfl, _, rfl, d, _, rfl, hget, _, rfl, val r.1, r.2, b, rfl, ro, _, _, rfl, rfl, wide_mul (bits (pl j)) (bits (ro.at (by omega))) (by decide) (by decide) (by decide), _, _, rfl, ?_⟩
        have e7 : (if (b : Int) < ((t.2 * mval gCount val (t.1.take j) : Nat) : Int) * ((val r.1 ^ r.2 : Nat) : Int) then (b : Int) else ((t.2 * mval gCount val (t.1.take j) : Nat) : Int) * ((val r.1 ^ r.2 : Nat) : Int)) = ((t.2 * mval gCount val (t.1.take (j + 1)) : Nat) : Int) := by
          rw [ep]
          exact min_id (Int.ofNat_le.mpr (pl (j + 1)))
        exact ⟨_, _, congrArg (fun z => [some (V.ref x), some (V.ref d), some (V.int ((pval gCount val (p.take i) : Nat) : Int)), some (V.ref m), some (V.int (t.2 : Int)), some (V.int z), some (V.str r.1), some (V.int (r.2 : Int))]) e7, rfl⟩
      · rintro σ H3 ⟨y6, y7, rfl, rfl⟩
        have el : us1.length = t.1.length := hu1.len
        refine ⟨_, rfl, _, rfl, _, _, rfl, rfl, ?_⟩
        have e8 : ((pval gCount val (p.take i) : Nat) : Int) + ((t.2 * mval gCount val (t.1.take us1.length) : Nat) : Int) = ((pval gCount val (p.take (i + 1)) : Nat) : Int) := by
          rw [el, List.take_length, take_snoc ht, pval_snoc, ← Int.natCast_add]
          rfl
        exact ⟨_, _, _, _, _, congrArg (fun z => [some (V.ref x), some (V.ref d), some (V.int z), some (V.ref m), some (V.int (t.2 : Int)), some (V.int ((t.2 * mval gCount val (t.1.take us1.length) : Nat) : Int)), y6, y7]) e8, rfl⟩
    · rintro σ H2 ⟨y3, y4, y5, y6, y7, rfl, rfl⟩
      have el : us.length = p.length := hus.len
      have tot : pval gCount val p < b := by
        have h1 : pval gCount val p ≤ csum p * (10 ^ 6) ^ 100 := pval_le (by decide) fun t tm => ⟨fp.deg t tm, fun k hk' => (hk t tm k hk').2⟩
        have h2 : csum p * (10 ^ 6) ^ 100 ≤ 10 ^ 9 * 10 ^ 600 := Nat.mul_le_mul fp.sum (by rw [← Nat.pow_mul]; exact Nat.le_refl _)
        have h3 : (10 ^ 9 * 10 ^ 600 : Nat) < 10 ^ 1500 := by
          rw [← Nat.pow_add]
          exact Nat.pow_lt_pow_right (by decide) (by decide)
        exact Nat.lt_of_le_of_lt (Nat.le_trans h1 h2) (Nat.lt_of_lt_of_le h3 gb.lo)
      rw [el, List.take_length]
      have n1 : decide ((b : Int) ≤ ((pval gCount val p : Nat) : Int)) = false := decide_eq_false (by
        have := Int.ofNat_lt.mpr tot
        omega)
      exact ⟨_, rfl, _, _, rfl, rfl, _, rfl, ifF n1 ⟨_, rfl, q⟩⟩
end
end K8
/-! K8V2: valued. -/
namespace K8
open PySem PySem.Spec PyProof.Rows L2
section
variable {P : Program} {w : World} {K : PySem.W.Frag} {mg : Str → Option Value} {base : Heap}
def eGiv (g : Str × PyData) : PyData := .tuple [.str g.1, g.2]
theorem giv_split {H : Hp} : ∀ {us : List V} {gs : List (Str × PyData)}, FmL K H eGiv us gs → ∃ zs : List (Str × V × PyData), zs.map (fun z => (z.1, z.2.2)) = gs ∧ Paired (fun v z => ∃ a, v = V.ref a ∧ SqA K H a [V.str z.1, z.2.1]) us zs ∧ ∀ z ∈ zs, Fm K H z.2.1 z.2.2
  | _, _, .nil => ⟨[], rfl, .nil, fun _ h => by simp at h⟩
  | _, _, .cons (b := g) h t => by
    obtain ⟨zs, e, hp, hf⟩ := giv_split t
    obtain ⟨a, x, y, rfl, ha, h1, h2⟩ := fm_pair h
    obtain rfl := fm_str h1
    refine ⟨(g.1, y, g.2) :: zs, by rw [List.map_cons, e], .cons ⟨a, rfl, ha⟩ hp, fun z hz => ?_⟩
    rcases List.mem_cons.mp hz with e | hz
    · rw [e]
      exact h2
    · exact hf z hz
theorem giv_get {H : Hp} {k : Str} {d : PyData} : ∀ {zs : List (Str × V × PyData)}, (∀ z ∈ zs, Fm K H z.2.1 z.2.2) → get? (zs.map fun z => (z.1, z.2.2)) k = some d → ∃ v, get? (zs.map fun z => (z.1, z.2.1)) k = some v ∧ Fm K H v d
  | [], _, h => by cases h
  | z :: zs, hf, h => by
    by_cases e : z.1 = k
    · have h1 : get? ((z.1, z.2.2) :: zs.map fun z => (z.1, z.2.2)) k = some d := h
      rw [get?_pos (p := (z.1, z.2.2)) e] at h1
      refine ⟨z.2.1, ?_, ?_⟩
      · show get? ((z.1, z.2.1) :: zs.map fun z => (z.1, z.2.1)) k = _
        rw [get?_pos (p := (z.1, z.2.1)) e]
      · have := hf z List.mem_cons_self
        rwa [Option.some.inj h1] at this
    · have h1 : get? ((z.1, z.2.2) :: zs.map fun z => (z.1, z.2.2)) k = some d := h
      rw [get?_neg (p := (z.1, z.2.2)) e] at h1
      obtain ⟨v, h2, h3⟩ := giv_get (fun y hy => hf y (List.mem_cons_of_mem _ hy)) h1
      refine ⟨v, ?_, h3⟩
      show get? ((z.1, z.2.1) :: zs.map fun z => (z.1, z.2.1)) k = _
      rw [get?_neg (p := (z.1, z.2.1)) e]
      exact h2
def Ms.sm : (m : Ms) → m.car → Prop
  | .count, n => (show Nat from n) ≤ 10 ^ 6
  | .cost, _ => True
  | .trust, _ => True
  | .there, _ => True
  | .seen, _ => True
theorem act_id {m : Ms} (h : m ≠ .count) (c : Nat) (x : m.car) : m.alg.act c x = x := by
  cases m with
  | count => exact absurd rfl h
  | cost => rfl
  | trust => rfl
  | there => rfl
  | seen => rfl
theorem ok_any {m : Ms} (h : m ≠ .count) (x : m.car) : m.ok x := by
  cases m with
  | count => exact absurd rfl h
  | cost => trivial
  | trust => trivial
  | there => trivial
  | seen => trivial
theorem nm_inj {m : Ms} : decide (V.str m.nm = V.str "count") = true ↔ m = .count := by
  cases m with
  | count => exact ⟨fun _ => rfl, fun _ => by decide +kernel⟩
  | cost => exact ⟨fun h => absurd h (by decide +kernel), fun h => by cases h⟩
  | trust => exact ⟨fun h => absurd h (by decide +kernel), fun h => by cases h⟩
  | there => exact ⟨fun h => absurd h (by decide +kernel), fun h => by cases h⟩
  | seen => exact ⟨fun h => absurd h (by decide +kernel), fun h => by cases h⟩
theorem nm_seen {m : Ms} : decide (V.str m.nm = V.str "seen") = true ↔ m = .seen := by
  cases m with
  | seen => exact ⟨fun _ => rfl, fun _ => by decide +kernel⟩
  | cost => exact ⟨fun h => absurd h (by decide +kernel), fun h => by cases h⟩
  | trust => exact ⟨fun h => absurd h (by decide +kernel), fun h => by cases h⟩
  | there => exact ⟨fun h => absurd h (by decide +kernel), fun h => by cases h⟩
  | count => exact ⟨fun h => absurd h (by decide +kernel), fun h => by cases h⟩
abbrev n_d_valued : List Str := ["p", "measure", "given", "values", "token", "value", "due", "persons", "total", "monomial", "_", "product", "exponent"]
theorem sc_d_valued : FnScope n_d_valued ["p", "measure", "given"] (defScope s_d_valued) := ⟨rfl, rfl, rfl, by decide +kernel, rfl, by decide +kernel, by decide +kernel⟩

/-- what is given for a measure: each token of p has its value, the persons too where they matter -/
structure Given (m : Ms) (N : List Str) (T : Str → Prop) (val : Str → m.car) (gs : List (Str × PyData)) : Prop where
  nd : (keys gs).Nodup
  len : gs.length ≤ 100
  tok : ∀ k, T k → get? gs k = some (m.enc N (val k)) ∧ m.sm (val k)
  all : m = .seen → get? gs "" = some (.tuple (N.map encStr.e))
def spValued (K : PySem.W.Frag) : Sp := fun vs H Q _ => ∃ (v u : V) (m : Ms) (N : List Str) (p : Poly) (gs : List (Str × PyData)) (val : Str → m.car), vs = [v, .str m.nm, u] ∧ Fm K H v (ePoly p) ∧ Fit p ∧ Fm K H u (.tuple (gs.map eGiv)) ∧ Pers N ∧ Given m N (fun k => ∃ t ∈ p, k ∈ keys t.1) val gs ∧ ∀ v' H', Same H H' → Dp K H' v' (m.enc N (pval m.alg val p)) → Q v' H'
theorem ok_valued {f : Addr} {fd : FuncData} {tk : Tok} (B : Bl mg) (g_ALL : mg "ALL" = some (.str "" tk)) (c_d_tokens_of : Cal P w K mg base 1 "tokens_of" ["p"] (spTokens K)) (c_d_counted : Cal P w K mg base 2 "counted" ["p", "values"] (spCounted K)) (c_d_measured_zero : Cal P w K mg base 1 "measured_zero" ["measure", "persons"] (spMZero K)) (c_d_measured_one : Cal P w K mg base 1 "measured_one" ["measure", "persons"] (spMOne K))
    (c_d_measured_times : Cal P w K mg base 1 "measured_times" ["measure", "a", "b"] (spMTimes K)) (c_d_measured_power : Cal P w K mg base 1 "measured_power" ["measure", "value", "exponent"] (spMPow K)) (c_d_measured_plus : Cal P w K mg base 1 "measured_plus" ["measure", "a", "b"] (spMPlus K)) (F : FnP K "valued" s_d_valued f fd) (hm : mg "valued" = some (.ref f)) : Cal P w K mg base 3 "valued" ["p", "measure", "given"] (spValued K) := by
  have r_ALL : RelV (.str "") (.str "" tk) := ⟨_, rfl⟩
  refine cal_mk F (F.ok sc_d_valued (fun vs H Q E h => ?_) (fun cdv A outer s H vs Q E hr h => ?_)) hm (fun _ _ _ _ _ _ us hl => match us, hl with | [_, _, _], _ => rfl) (fun _ _ _ _ _ _ us hl => match us, hl with | [_, _, _], _ => rfl)
  · obtain ⟨v, u, m, N, p, gs, val, rfl, _⟩ := h
    rfl
  · obtain ⟨v, u, m, N, p, gs, val, rfl, hp, fp, hu, hN, gv, q⟩ := h
    refine ⟨_, PSs.nox (pss_cons (ps_setDc (i := 3) (own := [("token", 4), ("value", 5)]) (g := (gSeq K 2 _)) (tk := _) (tv := _) rfl sc_d_valued.nd rfl rfl (sw_trueD rfl rfl rfl (by decide +kernel)) (pi_seq (pv 2)) (blkOk_by (N := n_d_valued) (sc := defScope s_d_valued) (by decide +kernel)) (fun _ _ _ _ _ => (pg_seq rfl (pgs_cons (pg_name (i := 4) sc_d_valued.nd rfl (.inl rfl) (by first | exact .inl rfl | exact .inr rfl)) (pgs_cons (pg_name (i := 5) sc_d_valued.nd rfl (.inl rfl) (by first | exact .inl rfl | exact .inr rfl)) pgs_nil)))) (fun _ _ _ _ _ => pts_nil) (fun _ _ _ _ _ => (pv 4)) (fun _ _ _ _ _ => (pv 5))) (pss_cons (ps_set (i := 6) sc_d_valued.nd rfl (.inl rfl) (pe_ifExp (pt_cmpR op_eq (pv 1) pe_str (nomark _)) (pe_tup (pa_cons (pe_glob rfl g_ALL r_ALL) pa_nil)) (pe_tup pa_nil))) (pss_cons (ps_for PassesOwn.never rfl (pi_seq (pe_op op_catU (pv 6) (pe_u c_d_tokens_of hr (by decide) (by rfl) (pa_cons (pv 0) pa_nil)))) (pg_name (i := 4) sc_d_valued.nd rfl (.inl rfl)) (pss_one (ps_if (pt_cmp (pc_dnotin (hu1 hr) (pv 4) (pv 3))) (pss_one ps_never) pss_nil))) (pss_cons (ps_if (pt_cmpR op_eq (pv 1) pe_str (nomark _)) (pss_one (ps_ret (pe_u c_d_counted hr (by decide) (by rfl) (pa_cons (pv 0) (pa_cons (pv 3) pa_nil))))) pss_nil) (pss_cons (ps_set (i := 7) sc_d_valued.nd rfl (.inl rfl) (pe_dget2 (hu1 hr) (pv 3) (pe_glob rfl g_ALL r_ALL) (pe_tup pa_nil) ⟨by rfl, by rfl, by rfl, by rfl⟩)) (pss_cons (ps_set (i := 8) sc_d_valued.nd rfl (.inl rfl) (pe_u c_d_measured_zero hr (by decide) (by rfl) (pa_cons (pv 1) (pa_cons (pv 7) pa_nil)))) (pss_cons (ps_for PassesOwn.never rfl (pi_seq (pv 0)) (pg_seq rfl (pgs_cons (pg_name (i := 9) sc_d_valued.nd rfl (.inl rfl)) (pgs_cons (pg_name (i := 10) sc_d_valued.nd rfl (.inl rfl)) pgs_nil))) (pss_cons (ps_set (i := 11) sc_d_valued.nd rfl (.inl rfl) (pe_u c_d_measured_one hr (by decide) (by rfl) (pa_cons (pv 1) (pa_cons (pv 7) pa_nil)))) (pss_cons (ps_for PassesOwn.never rfl (pi_seq (pv 9)) (pg_seq rfl (pgs_cons (pg_name (i := 4) sc_d_valued.nd rfl (.inl rfl)) (pgs_cons (pg_name (i := 12) sc_d_valued.nd rfl (.inl rfl)) pgs_nil))) (pss_one (ps_set (i := 11) sc_d_valued.nd rfl (.inl rfl) (pe_u c_d_measured_times hr (by decide) (by rfl) (pa_cons (pv 1) (pa_cons (pv 11) (pa_cons (pe_u c_d_measured_power hr (by decide) (by rfl) (pa_cons (pv 1) (pa_cons (pe_dget (hu1 hr) (pv 3) (pv 4) (fun _ _ => rfl)) (pa_cons (pv 12) pa_nil)))) pa_nil))))))) (pss_one (ps_set (i := 8) sc_d_valued.nd rfl (.inl rfl) (pe_u c_d_measured_plus hr (by decide) (by rfl) (pa_cons (pv 1) (pa_cons (pv 8) (pa_cons (pv 11) pa_nil))))))))) (pss_one (ps_ret (pv 8)))))))))), ?_⟩
    obtain ⟨y, ws, rfl, hy, hws⟩ := fm_tup hu
    obtain ⟨zs, ez, hz, hzf⟩ := giv_split hws
    have lz : zs.length ≤ 100 := by
      have := gv.len
      rw [← ez, List.length_map] at this
      exact this
    refine ⟨_, rfl, y, rfl, dc_seq (K := K) (xs := zs) (ev := fun H' v z => Same H H' → ∃ a, v = V.ref a ∧ SqA K H' a [V.str z.1, z.2.1]) hy Same.rfl' (Paired.mapP hz fun v z h _ => h) (fun z => Sum.inr z.1) (fun z => z.2.1) (by omega) ?_ ?_⟩
    · rintro v z H1 Ry Rn _ hv s1 ry
      obtain ⟨a, rfl, ha⟩ := hv Same.rfl'
      exact ⟨a, _, rfl, same_a s1 ha, rfl, _, _, rfl, _, _, rfl, rfl, rfl, _, rfl, _, rfl, ry _ Same.rfl'⟩
    · rintro d H1 hd s1 hdd
      have nd : (keys (zs.map fun z => (z.1, z.2.1))).Nodup := by
        have h := gv.nd
        rw [← ez] at h
        unfold keys at h ⊢
        rw [List.map_map] at h ⊢
        exact h
      have e1 : ofK (zs.map fun z => ((Sum.inr z.1 : Key), z.2.1)) = tK id (zs.map fun z => (z.1, z.2.1)) := by
        have e2 : (zs.map fun z => ((Sum.inr z.1 : Key), z.2.1)) = tK id (zs.map fun z => (z.1, z.2.1)) := by
          unfold tK
          rw [List.map_map]
          rfl
        rw [e2, ofK_tK, ofPairs_nodup nd]
      rw [e1] at hdd
      -- a token's value
      have look : ∀ k dd, get? gs k = some dd → ∃ vv, get? (zs.map fun z => (z.1, z.2.1)) k = some vv ∧ Fm K H vv dd := fun k dd h => by
        rw [← ez] at h
        exact giv_get hzf h
      refine ⟨_, rfl, rfl, _, rfl, ite2 (fun eS => ?_) (fun eS => ?_)⟩
      · have mS : m = .seen := nm_seen.mp eS
        refine ⟨sz1, fun dd hdd2 => ?_⟩
        have s2 := Same.new (o := .tup [V.str ""]) hdd2
        generalize hH2 : upd H1 dd (.tup [V.str ""]) = H2 at s2
        have hds : SqT K H2 dd (([""] : List Str).map V.str) := .inl (.inl (by rw [← hH2]; exact upd_same))
        have hdk : ∀ k ∈ ([""] : List Str), ∃ e, get? gs k = some e := fun k hk => by
          obtain rfl : k = "" := by simpa using hk
          exact ⟨_, gv.all mS⟩
        have hdl : ([""] : List Str).length ≤ 1 := Nat.le_refl _
        generalize ([""] : List Str) = ds at hds hdk hdl
        refine ⟨_, rfl, _, rfl, v, p, rfl, hp.same (same_trans s1 s2), fp, fun v3 H3 ks hks s3 lk d3 => ?_⟩
        obtain ⟨b, bs, rfl, hb, hbs⟩ := dp_tup_inv d3
        obtain rfl := dpl_strs_inv hbs
        refine ⟨dd, b, _, _, rfl, rfl, same_t s3 hds, hb, by rw [List.length_map, List.length_map]; have := fp.len; omega, fun z H4 s4 hz4 => ?_⟩
        rw [← List.map_append] at hz4
        have sA := same_trans s1 (same_trans s2 (same_trans s3 s4))
        have hd4 := s4 _ _ (s3 _ _ (s2 _ _ hdd))
        have hall : ∀ k ∈ ds ++ ks, ∃ e, get? gs k = some e := fun k hk => by
          rcases List.mem_append.mp hk with hk | hk
          · exact hdk k hk
          · exact ⟨_, (gv.tok k (hks k hk)).1⟩
        refine ⟨z, rfl, for_seq (M := NoM) nsN (.inr hz4) (fun i σ H' => ∃ y4 y5 y7 y8 y9 y10 y11 y12, σ = [some v, some (.str m.nm), some (.ref y), some (.ref d), y4, y5, some (.ref dd), y7, y8, y9, y10, y11, y12] ∧ H' = H4) ⟨_, _, _, _, _, _, _, _, rfl, rfl⟩ ?_ ?_ ?_⟩
        · rintro i σ H' _ ⟨_, _, _, _, _, _, _, _, _, rfl⟩
          exact Kp.refl
        · rintro i x σ H' hi ⟨y4, y5, y7, y8, y9, y10, y11, y12, rfl, rfl⟩ hx
          rw [List.getElem?_map] at hx
          cases hk : (ds ++ ks)[i]? with
          | none =>
            rw [hk] at hx
            cases hx
          | some k =>
            rw [hk] at hx
            obtain rfl : V.str k = x := Option.some.inj hx
            obtain ⟨e, he⟩ := hall k (List.mem_of_getElem? hk)
            obtain ⟨vv, hv1, _⟩ := look k e he
            exact ⟨_, rfl, _, rfl, d, some vv, rfl, dget_of hd4 (by rw [tK_val, hv1]; rfl), _, rfl, iteF ⟨_, _, _, _, _, _, _, _, rfl, rfl⟩⟩
        · rintro σ H' ⟨y4, y5, y7, y8, y9, y10, y11, y12, rfl, rfl⟩
          refine ⟨_, rfl, rfl, _, rfl, ite2 (fun eC => ?_) (fun eC => ?_)⟩
          · have mC : m = .count := nm_inj.mp eC
            subst mC
            refine ⟨_, rfl, _, rfl, v, p, d, _, val, rfl, hp.same sA, fp, hd4, fun t tm k hk => ?_, q _ _ sA ?_⟩
            · obtain ⟨h1, h2⟩ := gv.tok k ⟨t, tm, hk⟩
              obtain ⟨vv, h3, h4⟩ := look k _ h1
              have h5 : vv = natV (val k) := fm_nat (n := val k) h4
              rw [h5] at h3
              exact ⟨h3, h2⟩
            · exact .int _
          · have mC : m ≠ .count := fun e => eC (nm_inj.mpr e)
            refine ⟨_, rfl, d, rfl, isD_of hd4, Nat.zero_le _, fun t ht => ?_⟩
            have s5 := Same.new (o := .tup []) ht
            have hd5 := s5 _ _ hd4
            obtain ⟨o, ho, hpv⟩ : ∃ o, DGet (upd H' t (.tup [])) d (.str "") o ∧ (m = .seen → Fm K (upd H' t (.tup [])) (o.getD (.ref t)) (.tuple (N.map encStr.e))) := by
              refine ⟨_, DGet.k (k := Sum.inr "") hd5, fun mS => ?_⟩
              obtain ⟨vv, h3, h4⟩ := look "" _ (gv.all mS)
              rw [tK_val, h3]
              exact h4.same (same_trans sA s5)
            refine ⟨o, ho, ?_⟩
            generalize o.getD (V.ref t) = pvv at hpv
            generalize upd H' t (.tup []) = H5 at s5 hd5 ho hpv
            refine ⟨_, rfl, _, rfl, m, N, pvv, rfl, fun v6 H6 s6 d6 => ?_⟩
            have sB := same_trans sA (same_trans s5 s6)
            have hd6 := s6 _ _ hd5
            obtain ⟨x, us, rfl, hx, hus⟩ := fm_tup (hp.same sB)
            refine ⟨_, rfl, x, rfl, for_seq (M := NoM) nsN hx (fun i σ H7 => ∃ y4 y5 tot y9 y10 y11 y12, σ = [some (.ref x), some (.str m.nm), some (.ref y), some (.ref d), y4, y5, some (.ref dd), some pvv, some tot, y9, y10, y11, y12] ∧ Same H6 H7 ∧ Dp K H7 tot (m.enc N (pval m.alg val (p.take i)))) ⟨_, _, v6, _, _, _, _, rfl, Same.rfl', d6⟩ ?_ ?_ ?_⟩
            · rintro i σ H7 _ ⟨_, _, _, _, _, _, _, _, s7, _⟩
              exact Same.kp s7
            · rintro i e σ H7 hi ⟨y4, y5, tot, y9, y10, y11, y12, rfl, s7, d7⟩ he
              obtain ⟨t1, ht1, hf⟩ := hus.get he
              have tm := List.mem_of_getElem? ht1
              obtain ⟨c, x1, x2, rfl, hc, f1, f2⟩ := fm_pair hf
              obtain rfl := fm_int f2
              obtain ⟨mo, us1, rfl, hmo, hu1⟩ := fm_tup f1
              refine ⟨c, _, rfl, same_a s7 hc, rfl, _, _, rfl, _, _, rfl, rfl, ?_⟩
              refine ⟨_, rfl, _, rfl, m, N, pvv, rfl, fun mS => (hpv mS).same (same_trans s6 s7), fun v8 H8 s8 d8 => ?_⟩
              have s78 := same_trans s7 s8
              refine ⟨_, rfl, mo, rfl, for_seq (M := NoM) nsN hmo (fun j σ H9 => ∃ y4 y5 pr y12, σ = [some (.ref x), some (.str m.nm), some (.ref y), some (.ref d), y4, y5, some (.ref dd), some pvv, some tot, some (.ref mo), some (.int (t1.2 : Int)), some pr, y12] ∧ Same H8 H9 ∧ Dp K H9 pr (m.enc N (mval m.alg val (t1.1.take j)))) ⟨_, _, v8, _, rfl, Same.rfl', d8⟩ ?_ ?_ ?_⟩
              · rintro j σ H9 _ ⟨_, _, _, _, _, s9, _⟩
                exact Same.kp (same_trans s78 s9)
              · rintro j e2 σ H9 hj ⟨y4, y5, pr, y12, rfl, s9, d9⟩ he2
                obtain ⟨r, hrr, hf2⟩ := hu1.get he2
                have rm := List.mem_of_getElem? hrr
                obtain ⟨c2, z1, z2, rfl, hc2, g1, g2⟩ := fm_pair hf2
                obtain rfl := fm_str g1
                obtain rfl := fm_int g2
                have s69 := same_trans s78 s9
                have rk : r.1 ∈ keys t1.1 := List.mem_map.mpr ⟨r, rm, rfl⟩
                obtain ⟨vv, hv1, hv2⟩ := look r.1 _ (gv.tok r.1 ⟨t1, tm, rk⟩).1
                have re : r.2 ≤ 1000 := Nat.le_trans (le_csum rm) (Nat.le_trans (fp.deg t1 tm) (by decide))
                refine ⟨c2, _, rfl, same_a s69 hc2, rfl, _, _, rfl, _, _, rfl, rfl, ?_⟩
                refine ⟨_, rfl, _, rfl, _, rfl, _, rfl, _, rfl, d, vv, rfl, dget_of (s69 _ _ hd6) (by rw [tK_val, hv1]; rfl), _, rfl, m, N, vv, val r.1, r.2, rfl, hv2.same (same_trans sB s69), re, mC, fun w9 hw9 => ?_⟩
                refine ⟨m, N, pr, w9, _, _, rfl, hN, .inl d9, hw9, ok_any mC _, ok_any mC _, fun v10 H10 s10 d10 => ?_⟩
                refine ⟨_, _, v10, _, rfl, same_trans s9 s10, ?_⟩
                rw [take_snoc hrr, mval_snoc]
                exact d10
              · rintro σ H9 ⟨y4, y5, pr, y12, rfl, s9, d9⟩
                rw [hu1.len, List.take_length] at d9
                refine ⟨_, rfl, _, rfl, _, rfl, m, N, tot, pr, _, _, rfl, hN, .inl (dp_same (same_trans s8 s9) _ _ d7), .inl d9, fun v10 H10 s10 d10 => ?_⟩
                refine ⟨_, _, v10, _, _, _, _, rfl, same_trans s78 (same_trans s9 s10), ?_⟩
                rw [take_snoc ht1, pval_snoc, act_id mC]
                exact d10
            · rintro σ H7 ⟨y4, y5, tot, y9, y10, y11, y12, rfl, s7, d7⟩
              rw [hus.len, List.take_length] at d7
              exact ⟨_, rfl, q _ _ (same_trans sB s7) d7⟩
      · refine ⟨Nat.zero_le _, fun dd hdd2 => ?_⟩
        have s2 := Same.new (o := .tup []) hdd2
        generalize hH2 : upd H1 dd (.tup []) = H2 at s2
        have hds : SqT K H2 dd (([] : List Str).map V.str) := .inl (.inl (by rw [← hH2]; exact upd_same))
        have hdk : ∀ k ∈ ([] : List Str), ∃ e, get? gs k = some e := fun k hk => by simp at hk
        have hdl : ([] : List Str).length ≤ 1 := Nat.zero_le _
        generalize ([] : List Str) = ds at hds hdk hdl
        refine ⟨_, rfl, _, rfl, v, p, rfl, hp.same (same_trans s1 s2), fp, fun v3 H3 ks hks s3 lk d3 => ?_⟩
        obtain ⟨b, bs, rfl, hb, hbs⟩ := dp_tup_inv d3
        obtain rfl := dpl_strs_inv hbs
        refine ⟨dd, b, _, _, rfl, rfl, same_t s3 hds, hb, by rw [List.length_map, List.length_map]; have := fp.len; omega, fun z H4 s4 hz4 => ?_⟩
        rw [← List.map_append] at hz4
        have sA := same_trans s1 (same_trans s2 (same_trans s3 s4))
        have hd4 := s4 _ _ (s3 _ _ (s2 _ _ hdd))
        have hall : ∀ k ∈ ds ++ ks, ∃ e, get? gs k = some e := fun k hk => by
          rcases List.mem_append.mp hk with hk | hk
          · exact hdk k hk
          · exact ⟨_, (gv.tok k (hks k hk)).1⟩
        refine ⟨z, rfl, for_seq (M := NoM) nsN (.inr hz4) (fun i σ H' => ∃ y4 y5 y7 y8 y9 y10 y11 y12, σ = [some v, some (.str m.nm), some (.ref y), some (.ref d), y4, y5, some (.ref dd), y7, y8, y9, y10, y11, y12] ∧ H' = H4) ⟨_, _, _, _, _, _, _, _, rfl, rfl⟩ ?_ ?_ ?_⟩
        · rintro i σ H' _ ⟨_, _, _, _, _, _, _, _, _, rfl⟩
          exact Kp.refl
        · rintro i x σ H' hi ⟨y4, y5, y7, y8, y9, y10, y11, y12, rfl, rfl⟩ hx
          rw [List.getElem?_map] at hx
          cases hk : (ds ++ ks)[i]? with
          | none =>
            rw [hk] at hx
            cases hx
          | some k =>
            rw [hk] at hx
            obtain rfl : V.str k = x := Option.some.inj hx
            obtain ⟨e, he⟩ := hall k (List.mem_of_getElem? hk)
            obtain ⟨vv, hv1, _⟩ := look k e he
            exact ⟨_, rfl, _, rfl, d, some vv, rfl, dget_of hd4 (by rw [tK_val, hv1]; rfl), _, rfl, iteF ⟨_, _, _, _, _, _, _, _, rfl, rfl⟩⟩
        · rintro σ H' ⟨y4, y5, y7, y8, y9, y10, y11, y12, rfl, rfl⟩
          refine ⟨_, rfl, rfl, _, rfl, ite2 (fun eC => ?_) (fun eC => ?_)⟩
          · have mC : m = .count := nm_inj.mp eC
            subst mC
            refine ⟨_, rfl, _, rfl, v, p, d, _, val, rfl, hp.same sA, fp, hd4, fun t tm k hk => ?_, q _ _ sA ?_⟩
            · obtain ⟨h1, h2⟩ := gv.tok k ⟨t, tm, hk⟩
              obtain ⟨vv, h3, h4⟩ := look k _ h1
              have h5 : vv = natV (val k) := fm_nat (n := val k) h4
              rw [h5] at h3
              exact ⟨h3, h2⟩
            · exact .int _
          · have mC : m ≠ .count := fun e => eC (nm_inj.mpr e)
            refine ⟨_, rfl, d, rfl, isD_of hd4, Nat.zero_le _, fun t ht => ?_⟩
            have s5 := Same.new (o := .tup []) ht
            have hd5 := s5 _ _ hd4
            obtain ⟨o, ho, hpv⟩ : ∃ o, DGet (upd H' t (.tup [])) d (.str "") o ∧ (m = .seen → Fm K (upd H' t (.tup [])) (o.getD (.ref t)) (.tuple (N.map encStr.e))) := by
              refine ⟨_, DGet.k (k := Sum.inr "") hd5, fun mS => ?_⟩
              obtain ⟨vv, h3, h4⟩ := look "" _ (gv.all mS)
              rw [tK_val, h3]
              exact h4.same (same_trans sA s5)
            refine ⟨o, ho, ?_⟩
            generalize o.getD (V.ref t) = pvv at hpv
            generalize upd H' t (.tup []) = H5 at s5 hd5 ho hpv
            refine ⟨_, rfl, _, rfl, m, N, pvv, rfl, fun v6 H6 s6 d6 => ?_⟩
            have sB := same_trans sA (same_trans s5 s6)
            have hd6 := s6 _ _ hd5
            obtain ⟨x, us, rfl, hx, hus⟩ := fm_tup (hp.same sB)
            refine ⟨_, rfl, x, rfl, for_seq (M := NoM) nsN hx (fun i σ H7 => ∃ y4 y5 tot y9 y10 y11 y12, σ = [some (.ref x), some (.str m.nm), some (.ref y), some (.ref d), y4, y5, some (.ref dd), some pvv, some tot, y9, y10, y11, y12] ∧ Same H6 H7 ∧ Dp K H7 tot (m.enc N (pval m.alg val (p.take i)))) ⟨_, _, v6, _, _, _, _, rfl, Same.rfl', d6⟩ ?_ ?_ ?_⟩
            · rintro i σ H7 _ ⟨_, _, _, _, _, _, _, _, s7, _⟩
              exact Same.kp s7
            · rintro i e σ H7 hi ⟨y4, y5, tot, y9, y10, y11, y12, rfl, s7, d7⟩ he
              obtain ⟨t1, ht1, hf⟩ := hus.get he
              have tm := List.mem_of_getElem? ht1
              obtain ⟨c, x1, x2, rfl, hc, f1, f2⟩ := fm_pair hf
              obtain rfl := fm_int f2
              obtain ⟨mo, us1, rfl, hmo, hu1⟩ := fm_tup f1
              refine ⟨c, _, rfl, same_a s7 hc, rfl, _, _, rfl, _, _, rfl, rfl, ?_⟩
              refine ⟨_, rfl, _, rfl, m, N, pvv, rfl, fun mS => (hpv mS).same (same_trans s6 s7), fun v8 H8 s8 d8 => ?_⟩
              have s78 := same_trans s7 s8
              refine ⟨_, rfl, mo, rfl, for_seq (M := NoM) nsN hmo (fun j σ H9 => ∃ y4 y5 pr y12, σ = [some (.ref x), some (.str m.nm), some (.ref y), some (.ref d), y4, y5, some (.ref dd), some pvv, some tot, some (.ref mo), some (.int (t1.2 : Int)), some pr, y12] ∧ Same H8 H9 ∧ Dp K H9 pr (m.enc N (mval m.alg val (t1.1.take j)))) ⟨_, _, v8, _, rfl, Same.rfl', d8⟩ ?_ ?_ ?_⟩
              · rintro j σ H9 _ ⟨_, _, _, _, _, s9, _⟩
                exact Same.kp (same_trans s78 s9)
              · rintro j e2 σ H9 hj ⟨y4, y5, pr, y12, rfl, s9, d9⟩ he2
                obtain ⟨r, hrr, hf2⟩ := hu1.get he2
                have rm := List.mem_of_getElem? hrr
                obtain ⟨c2, z1, z2, rfl, hc2, g1, g2⟩ := fm_pair hf2
                obtain rfl := fm_str g1
                obtain rfl := fm_int g2
                have s69 := same_trans s78 s9
                have rk : r.1 ∈ keys t1.1 := List.mem_map.mpr ⟨r, rm, rfl⟩
                obtain ⟨vv, hv1, hv2⟩ := look r.1 _ (gv.tok r.1 ⟨t1, tm, rk⟩).1
                have re : r.2 ≤ 1000 := Nat.le_trans (le_csum rm) (Nat.le_trans (fp.deg t1 tm) (by decide))
                refine ⟨c2, _, rfl, same_a s69 hc2, rfl, _, _, rfl, _, _, rfl, rfl, ?_⟩
                refine ⟨_, rfl, _, rfl, _, rfl, _, rfl, _, rfl, d, vv, rfl, dget_of (s69 _ _ hd6) (by rw [tK_val, hv1]; rfl), _, rfl, m, N, vv, val r.1, r.2, rfl, hv2.same (same_trans sB s69), re, mC, fun w9 hw9 => ?_⟩
                refine ⟨m, N, pr, w9, _, _, rfl, hN, .inl d9, hw9, ok_any mC _, ok_any mC _, fun v10 H10 s10 d10 => ?_⟩
                refine ⟨_, _, v10, _, rfl, same_trans s9 s10, ?_⟩
                rw [take_snoc hrr, mval_snoc]
                exact d10
              · rintro σ H9 ⟨y4, y5, pr, y12, rfl, s9, d9⟩
                rw [hu1.len, List.take_length] at d9
                refine ⟨_, rfl, _, rfl, _, rfl, m, N, tot, pr, _, _, rfl, hN, .inl (dp_same (same_trans s8 s9) _ _ d7), .inl d9, fun v10 H10 s10 d10 => ?_⟩
                refine ⟨_, _, v10, _, _, _, _, rfl, same_trans s78 (same_trans s9 s10), ?_⟩
                rw [take_snoc ht1, pval_snoc, act_id mC]
                exact d10
            · rintro σ H7 ⟨y4, y5, tot, y9, y10, y11, y12, rfl, s7, d7⟩
              rw [hus.len, List.take_length] at d7
              exact ⟨_, rfl, q _ _ (same_trans sB s7) d7⟩
end
end K8
/-! K8V3: the law's own valuing. -/
namespace K8
open PySem PySem.Spec PyProof.Rows L2
section
variable {P : Program} {w : World} {K : PySem.W.Frag} {mg : Str → Option Value} {base : Heap}
def powk {S : Type} (G : Alg S) (x : S) (i : Nat) : S := if i = 0 then G.M.un else G.pow x i
theorem powk_zero {S : Type} (G : Alg S) (x : S) : powk G x 0 = G.M.un := rfl
theorem powk_pos {S : Type} (G : Alg S) (x : S) {i : Nat} (h : 1 ≤ i) : powk G x i = G.pow x i := if_neg (by omega)
theorem powk_succ {S : Type} (G : Alg S) (a x : S) (i : Nat) : G.M.op (G.M.op a (powk G x i)) x = G.M.op a (powk G x (i + 1)) := by
  rw [powk_pos G x (i := i + 1) (by omega)]
  by_cases h : i = 0
  · subst h
    rw [powk_zero, G.M.unitr, G.pow_one]
  · rw [powk_pos G x (by omega), G.pow_add x i 1 (by omega) (Nat.le_refl _), G.pow_one, G.M.assoc]
theorem pow10_small {n : Nat} (h : n ≤ 10 ^ 1400) : cOk n := by
  refine Nat.lt_of_le_of_lt h ?_
  have h1 : (10 : Nat) ^ 1400 ≤ 16 ^ 1400 := Nat.pow_le_pow_left (by decide) _
  have h2 : (16 : Nat) ^ 1400 = 2 ^ 5600 := by
    rw [show (16 : Nat) = 2 ^ 4 from rfl, ← Nat.pow_mul]
  rw [h2] at h1
  exact Nat.lt_of_le_of_lt h1 (Nat.pow_lt_pow_right (by decide) (by decide))
theorem sm_ok {m : Ms} {x : m.car} (h : m.sm x) : m.ok x := by
  cases m with
  | count => exact pow10_small (Nat.le_trans (show (show Nat from x) ≤ 10 ^ 6 from h) (Nat.pow_le_pow_right (by decide) (by decide)))
  | cost => trivial
  | trust => trivial
  | there => trivial
  | seen => trivial
theorem part_ok {m : Ms} {val : Str → m.car} {t : Mono} (h : csum t ≤ 100) (hv : ∀ k ∈ keys t, m.sm (val k)) {r : Str × Nat} (hr : r ∈ t) (j i : Nat) (hi : i ≤ r.2) : m.ok (m.alg.M.op (mval m.alg val (t.take j)) (powk m.alg (val r.1) i)) := by
  cases m with
  | count =>
    change Str → Nat at val
    have h1 : mval gCount val (t.take j) ≤ 10 ^ 600 := mval_take_le h (fun k hk => hv k hk) j
    have rk : r.1 ∈ keys t := List.mem_map.mpr ⟨r, hr, rfl⟩
    have h2 : val r.1 ≤ 10 ^ 6 := hv r.1 rk
    have h3 : powk gCount (val r.1) i ≤ 10 ^ 600 := by
      unfold powk
      split
      · exact Nat.pow_pos (by decide)
      · have h4 : (val r.1) ^ i ≤ (10 ^ 6) ^ i := Nat.pow_le_pow_left h2 i
        refine Nat.le_trans h4 ?_
        rw [← Nat.pow_mul]
        have h5 := le_csum hr
        exact Nat.pow_le_pow_right (by decide) (by omega)
    refine pow10_small (n := mval gCount val (t.take j) * powk gCount (val r.1) i) (Nat.le_trans (Nat.mul_le_mul h1 h3) ?_)
    rw [← Nat.pow_add]
    exact Nat.pow_le_pow_right (by decide) (by decide)
  | cost => trivial
  | trust => trivial
  | there => trivial
  | seen => trivial
abbrev n_q_valued : List Str := ["_law_p", "_law_measure", "_law_values", "_law_persons_here", "_law_total", "_law_monomial", "_law_number", "_law_part", "_law_token", "_law_power", "_law_k"]
theorem sc_q_valued : FnScope n_q_valued ["_law_p", "_law_measure", "_law_values", "_law_persons_here"] (defScope s_q_valued) := ⟨rfl, rfl, rfl, by decide +kernel, rfl, by decide +kernel, by decide +kernel⟩

def spLValued (K : PySem.W.Frag) : Sp := fun vs H Q _ => ∃ (v vp : V) (m : Ms) (N : List Str) (p : Poly) (d : Addr) (kvs : List (Str × V)) (val : Str → m.car), vs = [v, .str m.nm, .ref d, vp] ∧ Dp K H v (ePoly p) ∧ Fit p ∧ H d = some (.dK (tK id kvs)) ∧ Dp K H vp (.tuple (N.map encStr.e)) ∧ Pers N ∧
  (∀ t ∈ p, ∀ k ∈ keys t.1, (∃ vv, get? kvs k = some vv ∧ Dp K H vv (m.enc N (val k))) ∧ m.sm (val k)) ∧ ∀ v' H', Same H H' → Dp K H' v' (m.enc N (pval m.alg val p)) → Q v' H'
theorem ok_lvalued {f : Addr} {fd : FuncData} (B : Bl mg) (c_q_zero : Cal P w K mg base 1 "_law_zero" ["_law_measure", "_law_persons_here"] (spMZero K)) (c_q_one : Cal P w K mg base 1 "_law_one" ["_law_measure", "_law_persons_here"] (spLOne K)) (c_q_both : Cal P w K mg base 1 "_law_both" ["_law_measure", "_law_a", "_law_b"] (spLBoth K)) (c_q_sum : Cal P w K mg base 2 "_law_sum" ["_law_measure", "_law_a", "_law_b"] (spLSum K)) (F : FnP K "_law_valued" s_q_valued f fd) (hm : mg "_law_valued" = some (.ref f)) : Cal P w K mg base 3 "_law_valued" ["_law_p", "_law_measure", "_law_values", "_law_persons_here"] (spLValued K) := by
  refine cal_mk F (F.ok sc_q_valued (fun vs H Q E h => ?_) (fun cdv A outer s H vs Q E hr h => ?_)) hm (fun _ _ _ _ _ _ us hl => match us, hl with | [_, _, _, _], _ => rfl) (fun _ _ _ _ _ _ us hl => match us, hl with | [_, _, _, _], _ => rfl)
  · obtain ⟨v, vp, m, N, p, d, kvs, val, rfl, _⟩ := h
    rfl
  · obtain ⟨v, vp, m, N, p, d, kvs, val, rfl, hp, fp, hd, hvp, hN, hk, q⟩ := h
    refine ⟨_, PSs.nox (pss_cons (ps_set (i := 4) sc_q_valued.nd rfl (.inl rfl) (pe_u c_q_zero hr (by omega) (by rfl) (pa_cons (pv 1) (pa_cons (pv 3) pa_nil)))) (pss_cons (ps_for PassesOwn.never rfl (pi_seq (pv 0)) (pg_seq rfl (pgs_cons (pg_name (i := 5) sc_q_valued.nd rfl (.inl rfl)) (pgs_cons (pg_name (i := 6) sc_q_valued.nd rfl (.inl rfl)) pgs_nil))) (pss_cons (ps_set (i := 7) sc_q_valued.nd rfl (.inl rfl) (pe_u c_q_one hr (by omega) (by rfl) (pa_cons (pv 1) (pa_cons (pv 3) pa_nil)))) (pss_cons (ps_for PassesOwn.never rfl (pi_seq (pv 5)) (pg_seq rfl (pgs_cons (pg_name (i := 8) sc_q_valued.nd rfl (.inl rfl)) (pgs_cons (pg_name (i := 9) sc_q_valued.nd rfl (.inl rfl)) pgs_nil))) (pss_one (ps_for PassesOwn.never rfl (pi_range1 (by rfl) B.range (pa_cons (pv 9) pa_nil)) (pg_name (i := 10) sc_q_valued.nd rfl (.inl rfl)) (pss_one (ps_set (i := 7) sc_q_valued.nd rfl (.inl rfl) (pe_u c_q_both hr (by omega) (by rfl) (pa_cons (pv 1) (pa_cons (pv 7) (pa_cons (pe_dget (hu1 hr) (pv 2) (pv 8) (fun _ _ => rfl)) pa_nil))))))))) (pss_cons (ps_if (pt_cmpR op_eq (pv 1) pe_str (nomark _)) (pss_one (ps_set (i := 7) sc_q_valued.nd rfl (.inl rfl) (pe_op op_mulW (pv 7) (pv 6)))) pss_nil) (pss_one (ps_set (i := 4) sc_q_valued.nd rfl (.inl rfl) (pe_u c_q_sum hr (by omega) (by rfl) (pa_cons (pv 1) (pa_cons (pv 4) (pa_cons (pv 7) pa_nil)))))))))) (pss_one (ps_ret (pv 4))))), ?_⟩
    obtain ⟨x, us, rfl, hx, hus⟩ := dp_poly_inv hp
    refine ⟨_, rfl, _, rfl, m, N, vp, rfl, fun v1 H1 s1 d1 => ?_⟩
    refine ⟨_, rfl, x, rfl, for_seq (M := NoM) nsN (.inr hx) (fun i σ H2 => ∃ tot y5 y6 y7 y8 y9 y10, σ = [some (.ref x), some (.str m.nm), some (.ref d), some vp, some tot, y5, y6, y7, y8, y9, y10] ∧ Same H H2 ∧ Dp K H2 tot (m.enc N (pval m.alg val (p.take i)))) ⟨v1, _, _, _, _, _, _, rfl, s1, d1⟩ ?_ ?_ ?_⟩
    · rintro i σ H2 _ ⟨_, _, _, _, _, _, _, _, s2, _⟩
      exact Same.kp s2
    · rintro i e σ H2 hi ⟨tot, y5, y6, y7, y8, y9, y10, rfl, s2, d2⟩ he
      obtain ⟨t, ht, hvt⟩ := hus.get he
      have tm := List.mem_of_getElem? ht
      obtain ⟨c, mo, rfl, hc, hmo⟩ := dp_term_inv hvt
      obtain ⟨ma, us1, rfl, hma, hu1⟩ := dp_mono_inv hmo
      have dg := fp.deg t tm
      have hkt := hk t tm
      refine ⟨c, _, rfl, .inr (same_t s2 hc), rfl, _, _, rfl, _, _, rfl, rfl, ?_⟩
      refine ⟨_, rfl, _, rfl, m, N, vp, rfl, dp_same s2 _ _ hvp, fun v3 H3 s3 d3 => ?_⟩
      have s23 := same_trans s2 s3
      refine ⟨_, rfl, ma, rfl, for_seq (M := NoM) nsN (.inr hma) (fun j σ H4 => ∃ pr y8 y9 y10, σ = [some (.ref x), some (.str m.nm), some (.ref d), some vp, some tot, some (.ref ma), some (.int (t.2 : Int)), some pr, y8, y9, y10] ∧ Same H3 H4 ∧ Dp K H4 pr (m.enc N (mval m.alg val (t.1.take j)))) ⟨v3, _, _, _, rfl, Same.rfl', d3⟩ ?_ ?_ ?_⟩
      · rintro j σ H4 _ ⟨_, _, _, _, _, s4, _⟩
        exact Same.kp (same_trans s23 s4)
      · rintro j e2 σ H4 hj ⟨pr, y8, y9, y10, rfl, s4, d4⟩ he2
        obtain ⟨r, hrr, hvr⟩ := hu1.get he2
        have rm := List.mem_of_getElem? hrr
        obtain ⟨c2, rfl, hc2⟩ := dp_pr_inv hvr
        have rk : r.1 ∈ keys t.1 := List.mem_map.mpr ⟨r, rm, rfl⟩
        obtain ⟨⟨vv, hg, hvv⟩, hsm⟩ := hkt r.1 rk
        have s24 := same_trans s23 s4
        refine ⟨c2, _, rfl, .inr (same_t s24 hc2), rfl, _, _, rfl, _, _, rfl, rfl, ?_⟩
        have re : r.2 ≤ 100 := Nat.le_trans (le_csum rm) dg
        have rp : 1 ≤ r.2 := (fp.ok.monos t tm).pos r rm
        refine ⟨_, rfl, (r.2 : Int), rfl, by omega, by omega, ?_⟩
        have en : ((r.2 : Nat) : Int).toNat = r.2 := Int.toNat_natCast _
        refine for_it walk_range (fun i2 σ H5 => ∃ pr y10, σ = [some (.ref x), some (.str m.nm), some (.ref d), some vp, some tot, some (.ref ma), some (.int (t.2 : Int)), some pr, some (.str r.1), some (.int (r.2 : Int)), y10] ∧ Same H4 H5 ∧ Dp K H5 pr (m.enc N (m.alg.M.op (mval m.alg val (t.1.take j)) (powk m.alg (val r.1) i2)))) ⟨pr, _, rfl, Same.rfl', by rw [powk_zero, CMon.unitr]; exact d4⟩ (fun _ _ _ _ _ => trivial) ?_ ?_
        · rintro i2 v5 σ H5 _ hi2 ⟨pr2, y10, rfl, s5, d5⟩ ⟨rfl, rfl⟩
          have s25 := same_trans s24 s5
          refine ⟨_, rfl, _, rfl, _, rfl, _, rfl, d, vv, rfl, dget_of (s25 _ _ hd) (by rw [tK_val, hg]; rfl), m, N, pr2, vv, _, _, rfl, hN, d5, dp_same s25 _ _ hvv, part_ok dg (fun k hk' => (hkt k hk').2) rm j i2 (by omega), sm_ok hsm, fun v6 H6 s6 d6 => ?_⟩
          rw [powk_succ] at d6
          exact ⟨v6, _, rfl, same_trans s5 s6, d6⟩
        · rintro σ H5 ⟨pr2, y10, rfl, s5, d5⟩
          rw [en, powk_pos _ _ rp] at d5
          refine ⟨pr2, _, _, _, rfl, same_trans s4 s5, ?_⟩
          rw [take_snoc hrr, mval_snoc]
          exact d5
      · rintro σ H4 ⟨pr, y8, y9, y10, rfl, s4, d4⟩
        rw [hu1.len, List.take_length] at d4
        have s24 := same_trans s23 s4
        have d24 := dp_same (same_trans s3 s4) _ _ d2
        refine ⟨_, rfl, rfl, _, rfl, ite2 (fun eC => ?_) (fun eC => ?_)⟩
        · have mC : m = .count := nm_inj.mp eC
          subst mC
          change Str → Nat at val
          have ep : pr = natV (mval gCount val t.1) := dp_int_inv (i := ((mval gCount val t.1 : Nat) : Int)) d4
          subst ep
          have ml : mval gCount val t.1 ≤ 10 ^ 600 := by
            have := mval_take_le dg (fun k hk' => (hkt k hk').2) t.1.length
            rwa [List.take_length] at this
          have cl := fit_coef fp t tm
          have hb : ((mval gCount val t.1 : Nat) : Int).natAbs < 2 ^ 6000 := cOk_bits (pow10_small (Nat.le_trans ml (Nat.pow_le_pow_right (by decide) (by decide))))
          refine ⟨_, rfl, _, rfl, _, _, rfl, rfl, wide_mul (b := 64) hb (by omega) (by decide) (by decide) (by decide), ?_⟩
          refine ⟨_, rfl, _, rfl, _, rfl, .count, N, tot, natV (mval gCount val t.1 * t.2), pval gCount val (p.take i), (mval gCount val t.1 * t.2 : Nat), ?_, hN, d24, .int _, fun v6 H6 s6 d6 => ?_⟩
          · show [V.str Ms.count.nm, tot, V.int (((mval gCount val t.1 : Nat) : Int) * ((t.2 : Nat) : Int))] = _
            rw [← Int.natCast_mul]
          · refine ⟨v6, _, _, _, _, _, _, rfl, same_trans s24 s6, ?_⟩
            have e10 : pval gCount val (p.take (i + 1)) = pval gCount val (p.take i) + mval gCount val t.1 * t.2 := by
              rw [take_snoc ht, pval_snoc]
              exact congrArg _ (Nat.mul_comm _ _)
            have goal : Dp K H6 v6 (eNat (pval gCount val (p.take (i + 1)))) := by
              rw [e10]
              exact d6
            exact goal
        · have mC : m ≠ .count := fun e => eC (nm_inj.mpr e)
          refine ⟨_, rfl, _, rfl, _, rfl, m, N, tot, pr, _, _, rfl, hN, d24, d4, fun v6 H6 s6 d6 => ?_⟩
          refine ⟨v6, _, _, _, _, _, _, rfl, same_trans s24 s6, ?_⟩
          rw [take_snoc ht, pval_snoc, act_id mC]
          exact d6
    · rintro σ H2 ⟨tot, y5, y6, y7, y8, y9, y10, rfl, s2, d2⟩
      rw [hus.len, List.take_length] at d2
      exact ⟨_, rfl, q _ _ s2 d2⟩
end
end K8
/-! K8S1: the law's own comparison and its lists. -/
namespace K8
open PySem PySem.Spec PyProof.Rows L2
section
variable {P : Program} {w : World} {K : PySem.W.Frag} {mg : Str → Option Value} {base : Heap}
def dty : PyData → String
  | .none => "NoneType"
  | .bool _ => "bool"
  | .int _ => "int"
  | .str _ => "str"
  | .list _ => "list"
  | .tuple _ => "tuple"
  | .dict _ => "dict"
theorem ty_t {H : Hp} {a : Addr} {xs : List V} (h : SqT K H a xs) : TyX K H (.ref a) (.type "tuple") := by
  rcases h with (h | ⟨o, h⟩) | ⟨o, _, _, h, c, _⟩
  · exact .base (.tup h)
  · exact .fTuple h
  · exact .kTuple h c
theorem ty_dp {H : Hp} {v : V} {d : PyData} (hn : nol d = true) (h : Dp K H v d) : TyX K H v (.type (dty d)) := by
  cases h with
  | non => exact .base .non
  | bl b => exact .base (.bl b)
  | int i => exact .base (.int i)
  | str x => exact .base (.str x)
  | lst hs _ => simp [nol] at hn
  | tup hs _ => exact ty_t hs
mutual
/-- no tuple is too long -/
def wid : PyData → Bool
  | .tuple ds => decide (ds.length ≤ 1000) && widAll ds
  | .none => true
  | .bool _ => true
  | .int _ => true
  | .str _ => true
  | .list _ => false
  | .dict _ => false
def widAll : List PyData → Bool
  | [] => true
  | d :: ds => wid d && widAll ds
end
theorem widAll_mem : ∀ {ds : List PyData}, widAll ds = true → ∀ d ∈ ds, wid d = true
  | [], _, d, h => by simp at h
  | x :: xs, h, d, hd => by
    have h' : wid x = true ∧ widAll xs = true := by simpa [widAll] using h
    rcases List.mem_cons.mp hd with e | hd
    · rw [e]
      exact h'.1
    · exact widAll_mem h'.2 d hd
theorem nolAll_mem : ∀ {ds : List PyData}, nolAll ds = true → ∀ d ∈ ds, nol d = true
  | [], _, d, h => by simp at h
  | x :: xs, h, d, hd => by
    have h' : nol x = true ∧ nolAll xs = true := by simpa [nolAll] using h
    rcases List.mem_cons.mp hd with e | hd
    · rw [e]
      exact h'.1
    · exact nolAll_mem h'.2 d hd
theorem depth_mem : ∀ {ds : List PyData}, ∀ d ∈ ds, d.depth ≤ PyData.depthAll ds
  | [], d, h => by simp at h
  | x :: xs, d, hd => by
    simp only [PyData.depthAll]
    rcases List.mem_cons.mp hd with e | hd
    · rw [e]
      omega
    · have := depth_mem d hd
      omega
theorem wid_tup {ds : List PyData} (h : wid (.tuple ds) = true) : ds.length ≤ 1000 ∧ widAll ds = true := by
  have h' : decide (ds.length ≤ 1000) = true ∧ widAll ds = true := by simpa [wid] using h
  exact ⟨of_decide_eq_true h'.1, h'.2⟩
theorem widAll_map {α : Type} {e : α → PyData} : ∀ {xs : List α}, (∀ x ∈ xs, wid (e x) = true) → widAll (xs.map e) = true
  | [], _ => rfl
  | x :: xs, h => by
    show (wid (e x) && widAll (xs.map e)) = true
    rw [h x List.mem_cons_self, widAll_map fun y hy => h y (List.mem_cons_of_mem _ hy)]
    rfl
theorem wid_of {ds : List PyData} (h : ds.length ≤ 1000) (h2 : widAll ds = true) : wid (.tuple ds) = true := by
  show (decide (ds.length ≤ 1000) && widAll ds) = true
  rw [decide_eq_true h, h2]
  rfl
theorem wid_poly {p : Poly} (h : Fit p) : wid (ePoly p) = true := by
  refine wid_of (by rw [List.length_map]; have := h.len; omega) (widAll_map fun t tm => ?_)
  refine wid_of (show 2 ≤ 1000 by decide) ?_
  have hm : wid (eMono t.1) = true := wid_of (by rw [List.length_map]; exact fit_mono_len h t tm) (widAll_map fun _ _ => rfl)
  show (wid (eMono t.1) && true) = true
  rw [hm]
  rfl
theorem depth_poly (p : Poly) : (ePoly p).depth ≤ 4 := by
  have h : PyData.depthAll (p.map eTerm) ≤ 3 := depthAll_le (fun t => by
    have h := depth_mono t.1
    show PyData.depth (.tuple [eMono t.1, .int t.2]) ≤ 3
    simp only [PyData.depth, PyData.depthAll]
    omega) p
  show PyData.depth (.tuple (p.map eTerm)) ≤ 4
  simp only [PyData.depth]
  omega
abbrev n_q_same : List Str := ["_law_actual", "_law_due", "_law_k"]
theorem sc_q_same : FnScope n_q_same ["_law_actual", "_law_due"] (defScope s_q_same) := ⟨rfl, rfl, rfl, by decide +kernel, rfl, by decide +kernel, by decide +kernel⟩

def spSame (K : PySem.W.Frag) (n : Nat) : Sp := fun vs H Q _ => ∃ (v u : V) (d : PyData), vs = [v, u] ∧ Dp K H v d ∧ Dp K H u d ∧ d.depth < n ∧ nol d = true ∧ wid d = true ∧ Q (.bl true) H
theorem ok_same {f : Addr} {fd : FuncData} (B : Bl mg) (F : FnP K "_law_same" s_q_same f fd) (hm : mg "_law_same" = some (.ref f)) : ∀ n : Nat, Cal P w K mg base (n + 1) "_law_same" ["_law_actual", "_law_due"] (spSame K n)
  | 0 => cal_mk F (F.ok sc_q_same (fun vs H Q E h => by
      obtain ⟨v, u, d, rfl, _⟩ := h
      rfl) (fun cdv A outer s H vs Q E hr h => by
      obtain ⟨v, u, d, _, _, _, hz, _⟩ := h
      exact absurd hz (Nat.not_lt_zero _))) hm (fun _ _ _ _ _ _ us hl => match us, hl with | [_, _], _ => rfl) (fun _ _ _ _ _ _ us hl => match us, hl with | [_, _], _ => rfl)
  | n + 1 => by
    have c_q_same := ok_same B F hm n
    refine cal_mk F (F.ok sc_q_same (fun vs H Q E h => ?_) (fun cdv A outer s H vs Q E hr h => ?_)) hm (fun _ _ _ _ _ _ us hl => match us, hl with | [_, _], _ => rfl) (fun _ _ _ _ _ _ us hl => match us, hl with | [_, _], _ => rfl)
    · obtain ⟨v, u, d, rfl, _⟩ := h
      rfl
    · obtain ⟨v, u, d, rfl, hv, hu, hz, hn, hw, q⟩ := h
      refine ⟨_, PSs.nox (pss_cons (ps_if (pt_val (pe_callB call_isi (by rfl) B.isinstance (by decide +kernel) (pa_cons (pv 1) (pa_cons (pe_bltn (v := .ty "tuple") (u := .type "tuple") (by rfl) B.tuple (by decide +kernel) rfl) pa_nil)))) (pss_cons (ps_if (PW.pt (pw_or (pt_not (pt_val (pe_callB call_isi (by rfl) B.isinstance (by decide +kernel) (pa_cons (pv 0) (pa_cons (pe_bltn (v := .ty "tuple") (u := .type "tuple") (by rfl) B.tuple (by decide +kernel) rfl) pa_nil))))) (pw_or1 (pt_cmpR op_ne (pe_callB call_len_seq (by rfl) B.len (by decide +kernel) (pa_cons (pv 0) pa_nil)) (pe_callB call_len_seq (by rfl) B.len (by decide +kernel) (pa_cons (pv 1) pa_nil)) (nomark _))))) (pss_one (ps_ret pe_bl)) pss_nil) (pss_cons (ps_for PassesOwn.never rfl (pi_range1 (by rfl) B.range (pa_cons (pe_callB call_len_seq (by rfl) B.len (by decide +kernel) (pa_cons (pv 1) pa_nil)) pa_nil)) (pg_name (i := 2) sc_q_same.nd rfl (.inl rfl)) (pss_one (ps_if (pt_not (pt_val (pe_u c_q_same hr (by omega) (by rfl) (pa_cons (pe_ix ix_tup (pv 0) (pv 2) (fun _ _ => rfl)) (pa_cons (pe_ix ix_tup (pv 1) (pv 2) (fun _ _ => rfl)) pa_nil))))) (pss_one (ps_ret pe_bl)) pss_nil))) (pss_one (ps_ret pe_bl)))) pss_nil) (pss_cons (ps_if (pt_cmpR op_isN (pv 1) pe_non (nomark _)) (pss_one (ps_ret (pe_cmpR op_isN (pv 0) pe_non (nomark _)))) pss_nil) (pss_cons (ps_if (pt_val (pe_callB call_isi (by rfl) B.isinstance (by decide +kernel) (pa_cons (pv 1) (pa_cons (pe_bltn (v := .ty "str") (u := .type "str") (by rfl) B.str (by decide +kernel) rfl) pa_nil)))) (pss_one (ps_ret (pe_andT (pe_callB call_isi (by rfl) B.isinstance (by decide +kernel) (pa_cons (pv 0) (pa_cons (pe_bltn (v := .ty "str") (u := .type "str") (by rfl) B.str (by decide +kernel) rfl) pa_nil))) (pe_one (pe_cmpR op_eq (pv 0) (pv 1) (nomark _)))))) pss_nil) (pss_cons (ps_if (pt_val (pe_callB call_isi (by rfl) B.isinstance (by decide +kernel) (pa_cons (pv 1) (pa_cons (pe_bltn (v := .ty "bool") (u := .type "bool") (by rfl) B.bool (by decide +kernel) rfl) pa_nil)))) (pss_one (ps_ret (pe_andT (pe_callB call_isi (by rfl) B.isinstance (by decide +kernel) (pa_cons (pv 0) (pa_cons (pe_bltn (v := .ty "bool") (u := .type "bool") (by rfl) B.bool (by decide +kernel) rfl) pa_nil))) (pe_one (pe_cmpR op_eq (pv 0) (pv 1) (nomark _)))))) pss_nil) (pss_one (ps_ret (pe_andT (pe_callB call_isi (by rfl) B.isinstance (by decide +kernel) (pa_cons (pv 0) (pa_cons (pe_bltn (v := .ty "int") (u := .type "int") (by rfl) B.int (by decide +kernel) rfl) pa_nil))) (pe_andT (pe_not (pe_callB call_isi (by rfl) B.isinstance (by decide +kernel) (pa_cons (pv 0) (pa_cons (pe_bltn (v := .ty "bool") (u := .type "bool") (by rfl) B.bool (by decide +kernel) rfl) pa_nil)))) (pe_one (pe_cmpR op_eq (pv 0) (pv 1) (nomark _))))))))))), ?_⟩
      have tyv := ty_dp hn hv
      have tyu := ty_dp hn hu
      cases d with
      | list ds => simp [nol] at hn
      | dict ds => cases hv
      | none =>
        cases hv
        cases hu
        have tyu : TyX K H .non (.type "NoneType") := tyu
        refine ⟨_, rfl, _, _, _, _, _, rfl, .ty _, tyu, kit_ty (r := false) (by decide +kernel), _, rfl, ifF rfl ?_⟩
        exact ⟨_, rfl, rfl, _, rfl, ifT (decide_eq_true rfl) ⟨_, rfl, rfl, q⟩⟩
      | str x =>
        cases hv
        cases hu
        have tyu : TyX K H (.str x) (.type "str") := tyu
        refine ⟨_, rfl, _, _, _, _, _, rfl, .ty _, tyu, kit_ty (r := false) (by decide +kernel), _, rfl, ifF rfl ?_⟩
        refine ⟨_, rfl, rfl, _, rfl, ifF (decide_eq_false fun z => by cases z) ?_⟩
        refine ⟨_, rfl, _, _, _, _, _, rfl, .ty _, tyu, kit_ty (r := true) (by decide +kernel), _, rfl, iteT ?_⟩
        refine ⟨_, rfl, _, _, _, _, _, rfl, .ty _, tyu, kit_ty (r := true) (by decide +kernel), true, rfl, iteT ?_⟩
        refine ⟨_, rfl, _, rfl, rfl, ?_⟩
        rw [decide_eq_true rfl]
        exact q
      | bool x =>
        cases hv
        cases hu
        have tyu : TyX K H (.bl x) (.type "bool") := tyu
        refine ⟨_, rfl, _, _, _, _, _, rfl, .ty _, tyu, kit_ty (r := false) (by decide +kernel), _, rfl, ifF rfl ?_⟩
        refine ⟨_, rfl, rfl, _, rfl, ifF (decide_eq_false fun z => by cases z) ?_⟩
        refine ⟨_, rfl, _, _, _, _, _, rfl, .ty _, tyu, kit_ty (r := false) (by decide +kernel), _, rfl, ifF rfl ?_⟩
        refine ⟨_, rfl, _, _, _, _, _, rfl, .ty _, tyu, kit_ty (r := true) (by decide +kernel), _, rfl, iteT ?_⟩
        refine ⟨_, rfl, _, _, _, _, _, rfl, .ty _, tyu, kit_ty (r := true) (by decide +kernel), true, rfl, iteT ?_⟩
        refine ⟨_, rfl, _, rfl, rfl, ?_⟩
        rw [decide_eq_true rfl]
        exact q
      | int x =>
        cases hv
        cases hu
        have tyu : TyX K H (.int x) (.type "int") := tyu
        refine ⟨_, rfl, _, _, _, _, _, rfl, .ty _, tyu, kit_ty (r := false) (by decide +kernel), _, rfl, ifF rfl ?_⟩
        refine ⟨_, rfl, rfl, _, rfl, ifF (decide_eq_false fun z => by cases z) ?_⟩
        refine ⟨_, rfl, _, _, _, _, _, rfl, .ty _, tyu, kit_ty (r := false) (by decide +kernel), _, rfl, ifF rfl ?_⟩
        refine ⟨_, rfl, _, _, _, _, _, rfl, .ty _, tyu, kit_ty (r := false) (by decide +kernel), _, rfl, ifF rfl ?_⟩
        refine ⟨_, rfl, _, _, _, _, _, rfl, .ty _, tyu, kit_ty (r := true) (by decide +kernel), true, rfl, iteT ?_⟩
        refine ⟨_, rfl, _, _, _, _, _, rfl, .ty _, tyu, kit_ty (r := false) (by decide +kernel), _, rfl, true, rfl, iteT ?_⟩
        refine ⟨_, rfl, _, rfl, rfl, ?_⟩
        rw [decide_eq_true rfl]
        exact q
      | tuple ds =>
        have hz' : PyData.depthAll ds < n := by
          simp only [PyData.depth] at hz
          omega
        have hn' : nolAll ds = true := by simpa [nol] using hn
        obtain ⟨hl, hw'⟩ := wid_tup hw
        have tyu : TyX K H u (.type "tuple") := tyu
        have tyv : TyX K H v (.type "tuple") := tyv
        have ei : ds = ds.map id := (List.map_id ds).symm
        rw [ei] at hv hu
        obtain ⟨a, us, rfl, ha, hus⟩ := dp_tup_inv (e := id) hv
        obtain ⟨b, ws, rfl, hb, hws⟩ := dp_tup_inv (e := id) hu
        have lu := hus.len
        have lw := hws.len
        refine ⟨_, rfl, _, _, _, _, _, rfl, .ty _, tyu, kit_ty (r := true) (by decide +kernel), _, rfl, iteT ?_⟩
        refine ⟨_, rfl, _, _, _, _, _, rfl, .ty _, tyv, kit_ty (r := true) (by decide +kernel), _, rfl, ifF rfl ?_⟩
        refine ⟨_, rfl, a, us, rfl, .inr ha, _, rfl, b, ws, rfl, .inr hb, rfl, _, rfl, ifF ?_ ?_⟩
        · show (!decide (V.int (us.length : Int) = V.int (ws.length : Int))) = false
          rw [lu, lw, decide_eq_true rfl]
          rfl
        refine ⟨_, rfl, b, ws, rfl, .inr hb, (ws.length : Int), rfl, by omega, by omega, ?_⟩
        have en : ((ws.length : Nat) : Int).toNat = ws.length := Int.toNat_natCast _
        refine for_it walk_range (fun i σ H2 => ∃ y2, σ = [some (.ref a), some (.ref b), y2] ∧ H2 = H) ⟨_, rfl, rfl⟩ (fun _ _ _ _ _ => trivial) ?_ ?_
        · rintro i x σ H2 _ hi ⟨y2, rfl, rfl⟩ ⟨rfl, rfl⟩
          rw [en] at hi
          obtain ⟨wv, hwv⟩ : ∃ wv, ws[i]? = some wv := ⟨_, List.getElem?_eq_getElem hi⟩
          obtain ⟨e, he, hwe⟩ := hws.get hwv
          obtain ⟨uv, huv, hue⟩ := hus.getr he
          have em := List.mem_of_getElem? he
          have ix : ∀ {xs : List V} {v : V}, xs[i]? = some v → atI xs (0 + (i : Int)) = some v := fun h => by
            rw [Int.zero_add]
            exact atI_nat h
          refine ⟨_, rfl, _, rfl, a, us, _, uv, rfl, rfl, ha, ix huv, _, rfl, _, rfl, b, ws, _, wv, rfl, rfl, hb, ix hwv, uv, wv, e, rfl, hue, hwe, Nat.lt_of_le_of_lt (depth_mem e em) hz', nolAll_mem hn' e em, widAll_mem hw' e em, _, rfl, ?_⟩
          exact ifF rfl ⟨_, rfl, rfl⟩
        · rintro σ H2 ⟨y2, rfl, rfl⟩
          exact q
end
end K8
/-! K8S2: the law's lists. -/
namespace K8
open PySem PySem.Spec PyProof.Rows L2
section
variable {P : Program} {w : World} {K : PySem.W.Frag} {mg : Str → Option Value} {base : Heap}
/-- v is d as lists, by what is new since H0 alone -/
def DF (K : PySem.W.Frag) (H0 H : Hp) (v : V) (d : PyData) : Prop := ∀ H2 : Hp, (∀ a u, H0 a = none → H a = some u → H2 a = some u) → Dp K H2 v (ld d)
theorem ldAll_map : ∀ ds : List PyData, ldAll ds = ds.map ld
  | [] => rfl
  | d :: ds => by
    show ld d :: ldAll ds = _
    rw [ldAll_map ds]
    rfl
theorem dpAll_of {H : Hp} : ∀ {vs : List V} {ds : List PyData}, Paired (fun v d => Dp K H v (ld d)) vs ds → DpAll K H vs (ldAll ds)
  | _, _, .nil => .nil
  | _, _, .cons h t => .cons h (dpAll_of t)
theorem take_snoc' {α : Type} {xs : List α} {i : Nat} {x : α} (h : xs[i]? = some x) : xs.take i ++ [x] = xs.take (i + 1) := by
  rw [List.take_add_one, h]
  rfl
abbrev n_q_lists : List Str := ["_law_value", "_law_one_here"]
theorem sc_q_lists : FnScope n_q_lists ["_law_value"] (defScope s_q_lists) := ⟨rfl, rfl, rfl, by decide +kernel, rfl, by decide +kernel, by decide +kernel⟩

def spLists (K : PySem.W.Frag) (n : Nat) : Sp := fun vs H Q _ => ∃ (v : V) (d : PyData), vs = [v] ∧ Dp K H v d ∧ d.depth < n ∧ nol d = true ∧ wid d = true ∧ ∀ v' H', Same H H' → DF K H H' v' d → Q v' H'
theorem ok_lists {f : Addr} {fd : FuncData} (B : Bl mg) (F : FnP K "_law_lists" s_q_lists f fd) (hm : mg "_law_lists" = some (.ref f)) : ∀ n : Nat, Cal P w K mg base (n + 1) "_law_lists" ["_law_value"] (spLists K n)
  | 0 => cal_mk F (F.ok sc_q_lists (fun vs H Q E h => by
      obtain ⟨v, d, rfl, _⟩ := h
      rfl) (fun cdv A outer s H vs Q E hr h => by
      obtain ⟨v, d, _, _, hz, _⟩ := h
      exact absurd hz (Nat.not_lt_zero _))) hm (fun _ _ _ _ _ _ us hl => match us, hl with | [_], _ => rfl) (fun _ _ _ _ _ _ us hl => match us, hl with | [_], _ => rfl)
  | n + 1 => by
    have c_q_lists := ok_lists B F hm n
    refine cal_mk F (F.ok sc_q_lists (fun vs H Q E h => ?_) (fun cdv A outer s H vs Q E hr h => ?_)) hm (fun _ _ _ _ _ _ us hl => match us, hl with | [_], _ => rfl) (fun _ _ _ _ _ _ us hl => match us, hl with | [_], _ => rfl)
    · obtain ⟨v, d, rfl, _⟩ := h
      rfl
    · obtain ⟨v, d, rfl, hv, hz, hn, hw, q⟩ := h
      refine ⟨_, PSs.nox (pss_cons (ps_if (pt_val (pe_callB call_isi (by rfl) B.isinstance (by decide +kernel) (pa_cons (pv 0) (pa_cons (pe_bltn (v := .ty "tuple") (u := .type "tuple") (by rfl) B.tuple (by decide +kernel) rfl) pa_nil)))) (pss_one (ps_ret (pe_lc (own := [("_law_one_here", 1)]) (g := _) (tt := _) (te := _) rfl sc_q_lists.nd (pi_seq (pv 0)) (blkOk_by (N := n_q_lists) (sc := defScope s_q_lists) (by decide +kernel)) (fun _ _ _ _ _ => (pg_name (i := 1) sc_q_lists.nd rfl (.inl rfl) (by first | exact .inl rfl | exact .inr rfl))) (fun _ _ _ _ _ => pts_nil) (fun _ _ _ _ _ => (pe_u c_q_lists hr (by omega) (by rfl) (pa_cons (pv 1) pa_nil)))))) pss_nil) (pss_one (ps_ret (pv 0)))), ?_⟩
      have tyv := ty_dp hn hv
      have plain : ∀ {H2 : Hp} {u : V} {e : PyData}, Dp K H2 u e → ld e = e → nol e = true → (∀ ds, e ≠ .tuple ds) → ∀ H3, Dp K H3 u (ld e) := by
        intro H2 u e h h1 h2 h3 H3
        rw [h1]
        cases h with
        | non => exact .non
        | bl b => exact .bl b
        | int i => exact .int i
        | str x => exact .str x
        | lst _ _ => simp [nol] at h2
        | tup _ _ => exact absurd rfl (h3 _)
      cases d with
      | list ds => simp [nol] at hn
      | dict ds => cases hv
      | none =>
        have tyv : TyX K H v (.type "NoneType") := tyv
        exact ⟨_, rfl, _, _, _, _, _, rfl, .ty _, tyv, kit_ty (r := false) (by decide +kernel), _, rfl, ifF rfl ⟨_, rfl, q _ _ Same.rfl' fun H2 _ => plain hv rfl rfl (fun _ z => by cases z) H2⟩⟩
      | str x =>
        have tyv : TyX K H v (.type "str") := tyv
        exact ⟨_, rfl, _, _, _, _, _, rfl, .ty _, tyv, kit_ty (r := false) (by decide +kernel), _, rfl, ifF rfl ⟨_, rfl, q _ _ Same.rfl' fun H2 _ => plain hv rfl rfl (fun _ z => by cases z) H2⟩⟩
      | bool x =>
        have tyv : TyX K H v (.type "bool") := tyv
        exact ⟨_, rfl, _, _, _, _, _, rfl, .ty _, tyv, kit_ty (r := false) (by decide +kernel), _, rfl, ifF rfl ⟨_, rfl, q _ _ Same.rfl' fun H2 _ => plain hv rfl rfl (fun _ z => by cases z) H2⟩⟩
      | int x =>
        have tyv : TyX K H v (.type "int") := tyv
        exact ⟨_, rfl, _, _, _, _, _, rfl, .ty _, tyv, kit_ty (r := false) (by decide +kernel), _, rfl, ifF rfl ⟨_, rfl, q _ _ Same.rfl' fun H2 _ => plain hv rfl rfl (fun _ z => by cases z) H2⟩⟩
      | tuple ds =>
        have tyv : TyX K H v (.type "tuple") := tyv
        have hz' : PyData.depthAll ds < n := by
          simp only [PyData.depth] at hz
          omega
        have hn' : nolAll ds = true := by simpa [nol] using hn
        obtain ⟨hl, hw'⟩ := wid_tup hw
        have ei : ds = ds.map id := (List.map_id ds).symm
        rw [ei] at hv
        obtain ⟨a, us, rfl, ha, hus⟩ := dp_tup_inv (e := id) hv
        have lu := hus.len
        refine ⟨_, rfl, _, _, _, _, _, rfl, .ty _, tyv, kit_ty (r := true) (by decide +kernel), _, rfl, iteT ?_⟩
        refine ⟨_, rfl, a, rfl, .inr ⟨⟨us, ha⟩, ?_⟩⟩
        refine lc_gen (walk_tup (K := K) (a := a) (xs := us)) env0 (H0 := H) trivial (fun H' k _ => same_t k.same ha) (fun D H1 y z => ∀ H2 : Hp, (∀ a u, a ≠ D → H a = none → H1 a = some u → H2 a = some u) → Dp K H2 y (ld z)) ?_ ?_ (fun i zs => zs = ds.take i) rfl (by omega) ?_ ?_
        · intro D H1 H2 y z _ k e H3 h3
          exact e H3 fun a u na ha hu => h3 a u na ha (k.same a u hu)
        · intro D H1 ws ws' y z hD hw1 e H3 h3
          exact e H3 fun a u na ha hu => h3 a u na ha (by rw [upd_ne na]; exact hu)
        · rintro D i x H1 _ zs ws Ry Rn hD hi rfl hw1 hpp k _ ⟨rfl, hx⟩ ry rn
          obtain ⟨e, he, hxe⟩ := hus.get hx
          have em := List.mem_of_getElem? he
          refine ⟨rfl, _, rfl, x, e, rfl, dp_same k.same _ _ hxe, Nat.lt_of_le_of_lt (depth_mem e em) hz', nolAll_mem hn' e em, widAll_mem hw' e em, fun v' H' s1 d1 => ?_⟩
          refine ry v' H' e (Same.kp s1) trivial (fun H3 h3 => d1 H3 fun b u hb hu => ?_) (take_snoc' he)
          refine h3 b u (fun z => ?_) ?_ hu
          · rw [z, hw1] at hb
            cases hb
          · cases hb2 : H b with
            | none => rfl
            | some o =>
              rw [k.same b o hb2] at hb
              cases hb
        · rintro D ws zs H1 hD k _ hw1 hpp rfl
          rw [lu, List.take_length] at hpp
          refine q _ _ k.same fun H2 h2 => ?_
          show Dp K H2 (.ref D) (.list (ldAll ds))
          exact .lst (.inl (.inl (h2 D _ hD hw1))) (dpAll_of (Paired.mapP hpp fun y z e => e H2 fun b u _ hb hu => h2 b u hb hu))
end
end K8
/-! K8P1: the law's pool. -/
namespace K8
open PySem PySem.Spec PyProof.Rows L2
section
variable {P : Program} {w : World} {K : PySem.W.Frag} {mg : Str → Option Value} {base : Heap}
def pkvs (c : Addr) (a : Nat) (r l : Int) (sm : Bool) (sd t : Int) : List (Key × V) :=
  [(Sum.inr "cells", .ref c), (Sum.inr "at", .int (a : Int)), (Sum.inr "rest", .int r), (Sum.inr "left", .int l), (Sum.inr "small", .bl sm), (Sum.inr "seed", .int sd), (Sum.inr "turn", .int t)]
/-- the pool at q as it stands, all else kept since H0 -/
structure PS (q c : Addr) (ns : List Int) (H0 H : Hp) (a : Nat) (r l : Int) (sm : Bool) (sd t : Int) : Prop where
  kp : Kp (atA q) H0 H
  hq : H q = some (.dK (pkvs c a r l sm sd t))
  hc : H c = some (.lst (ns.map V.int))
def Pl (q c : Addr) (ns : List Int) (H : Hp) : Prop := ∃ a r l sm sd t, H q = some (.dK (pkvs c a r l sm sd t)) ∧ H c = some (.lst (ns.map V.int))
theorem PS.pl {q c : Addr} {ns : List Int} {H0 H : Hp} {a : Nat} {r l : Int} {sm : Bool} {sd t : Int} (p : PS q c ns H0 H a r l sm sd t) : Pl q c ns H := ⟨a, r, l, sm, sd, t, p.hq, p.hc⟩
theorem PS.put {q c : Addr} {ns : List Int} {H0 H : Hp} {a : Nat} {r l : Int} {sm : Bool} {sd t : Int} (p : PS q c ns H0 H a r l sm sd t) (x : Str) (v : V) {a' : Nat} {r' l' : Int} {sm' : Bool} {sd' t' : Int} (e : putK (pkvs c a r l sm sd t) (Sum.inr x) v = pkvs c a' r' l' sm' sd' t') :
    ∃ H1, DPut H q (.str x) v H1 ∧ PS q c ns H0 H1 a' r' l' sm' sd' t' := by
  refine ⟨_, DPut.k (k := Sum.inr x) p.hq (szl (show 7 ≤ 100000 by decide)), ?_⟩
  rw [e]
  refine ⟨p.kp.trans kp_upd, upd_same, ?_⟩
  rw [upd_ne (ne_of p.hc p.hq (by intro z; cases z))]
  exact p.hc
theorem PS.get {q c : Addr} {ns : List Int} {H0 H : Hp} {a : Nat} {r l : Int} {sm : Bool} {sd t : Int} (p : PS q c ns H0 H a r l sm sd t) (x : Str) {v : V} (e : valV (pkvs c a r l sm sd t) (Sum.inr x) = some v) : DGet H q (.str x) (some v) := dget_of p.hq e
theorem envP {q c : Addr} {ns : List Int} : Env2 (atA q) (Pl q c ns) where
  ns := fun ⟨_, _, _, _, _, _, h, _⟩ => ns_dK (.inl h)
  st := fun {H0 H D o} ⟨_, _, _, _, _, _, h, h'⟩ hD ⟨a, r, l, sm, sd, t, hq, hc⟩ => ⟨a, r, l, sm, sd, t, by rw [upd_ne (ne_of_none h hD)]; exact hq, by rw [upd_ne (ne_of_none h' hD)]; exact hc⟩
  sm := fun ⟨a, r, l, sm, sd, t, hq, hc⟩ s => ⟨a, r, l, sm, sd, t, s _ _ hq, s _ _ hc⟩
abbrev n_q_mixed : List Str := ["_law_number", "_law_turn", "_law_many", "_law_prime", "_law_once", "_law_twice"]
theorem sc_q_mixed : FnScope n_q_mixed ["_law_number", "_law_turn", "_law_many"] (defScope s_q_mixed) := ⟨rfl, rfl, rfl, by decide +kernel, rfl, by decide +kernel, by decide +kernel⟩

def spMixed : Sp := fun vs H Q _ => ∃ (n t m : Int), vs = [.int n, .int t, .int m] ∧ 0 < m ∧ ∀ r : Int, 0 ≤ r → r < m → Q (.int r) H
theorem ok_mixed {f : Addr} {fd : FuncData} (B : Bl mg) (F : FnP K "_law_mixed" s_q_mixed f fd) (hm : mg "_law_mixed" = some (.ref f)) : Cal P w K mg base 1 "_law_mixed" ["_law_number", "_law_turn", "_law_many"] spMixed := by
  refine cal_mk F (F.ok sc_q_mixed (fun vs H Q E h => ?_) (fun cdv A outer s H vs Q E hr h => ?_)) hm (fun _ _ _ _ _ _ us hl => match us, hl with | [_, _, _], _ => rfl) (fun _ _ _ _ _ _ us hl => match us, hl with | [_, _, _], _ => rfl)
  · obtain ⟨n, t, m, rfl, _⟩ := h
    rfl
  · obtain ⟨n, t, m, rfl, hm0, q⟩ := h
    refine ⟨_, PSs.nox (pss_cons (ps_set (i := 3) sc_q_mixed.nd rfl (.inl rfl) pe_int) (pss_cons (ps_set (i := 4) sc_q_mixed.nd rfl (.inl rfl) (pe_op op_mod (pe_callTy call_int1 (by rfl) B.int (by decide +kernel) (pa_cons (pe_op op_add (pe_op op_add (pe_op op_mul (pv 0) pe_int) (pe_op op_mul (pv 1) pe_int)) pe_int) pa_nil)) (pv 3))) (pss_cons (ps_set (i := 5) sc_q_mixed.nd rfl (.inl rfl) (pe_op op_mod (pe_op op_mul (pe_callTy call_int1 (by rfl) B.int (by decide +kernel) (pa_cons (pe_op op_add (pe_op op_mul (pv 4) (pv 4)) (pv 1)) pa_nil)) pe_int) (pv 3))) (pss_one (ps_ret (pe_op op_mod (pe_op op_fdiv (pv 5) pe_int) (pv 2))))))), ?_⟩
    have hp : (0 : Int) < 2305843009213693951 := by decide
    refine ⟨_, rfl, _, _, rfl, rfl, .inr ⟨by decide, by decide⟩, _, rfl, _, _, rfl, rfl, .inr ⟨by decide, by decide⟩, _, _, rfl, rfl, _, _, rfl, rfl, .inl ⟨_, rfl, _, rfl, _, _, rfl, rfl, hp, ?_⟩⟩
    generalize hx : (n * 48271 + t * 1000000000039 + 12345678910111213) = x
    have h1 := Int.emod_nonneg x (show (2305843009213693951 : Int) ≠ 0 by decide)
    have h2 := Int.emod_lt_of_pos x hp
    refine ⟨_, rfl, _, rfl, _, _, rfl, rfl, .inl ⟨?_, ?_⟩, _, rfl, _, _, rfl, rfl, .inl ⟨_, rfl, _, _, rfl, rfl, .inr ⟨by decide, by decide⟩, _, rfl, _, _, rfl, rfl, hp, ?_⟩⟩
    · omega
    · omega
    · exact ⟨_, rfl, _, _, rfl, rfl, ⟨by decide, by decide⟩, _, rfl, _, _, rfl, rfl, hm0, q _ (Int.emod_nonneg _ (by omega)) (Int.emod_lt_of_pos _ hm0)⟩
theorem ixN0 (n : Nat) (h : 0 < n) : ixN n 0 = some 0 := by
  unfold ixN
  rw [if_pos (Int.le_refl 0), if_pos (by omega)]
  rfl
theorem at_heap {G : Hp → Prop} {H' : Hp} (H4 : Hp) (e : H' = H4) (h : G H4) : G H' := e ▸ h
abbrev n_q_pool : List Str := ["_law_script", "_law_seed", "_law_cell", "_law_cells"]
theorem sc_q_pool : FnScope n_q_pool ["_law_script"] (defScope s_q_pool) := ⟨rfl, rfl, rfl, by decide +kernel, rfl, by decide +kernel, by decide +kernel⟩

def spPool (K : PySem.W.Frag) : Sp := fun vs H Q _ => ∃ (a : Addr) (zs : List Int), vs = [.ref a] ∧ SqL K H a (zs.map V.int) ∧ zs.length ≤ 63 ∧ ∀ q c ns H', Same H H' → Pl q c ns H' → Q (.ref q) H'
theorem ok_pool {f : Addr} {fd : FuncData} (B : Bl mg) (F : FnP K "_law_pool" s_q_pool f fd) (hm : mg "_law_pool" = some (.ref f)) : Cal P w K mg base 1 "_law_pool" ["_law_script"] (spPool K) := by
  refine cal_mk F (F.ok sc_q_pool (fun vs H Q E h => ?_) (fun cdv A outer s H vs Q E hr h => ?_)) hm (fun _ _ _ _ _ _ us hl => match us, hl with | [_], _ => rfl) (fun _ _ _ _ _ _ us hl => match us, hl with | [_], _ => rfl)
  · obtain ⟨a, zs, rfl, _⟩ := h
    rfl
  · obtain ⟨a, zs, rfl, ha, hl63, k⟩ := h
    refine ⟨_, PSs.nox (pss_cons (ps_set (i := 1) sc_q_pool.nd rfl (.inl rfl) pe_int) (pss_cons (ps_for PassesOwn.never rfl (pi_seq (pv 0)) (pg_name (i := 2) sc_q_pool.nd rfl (.inl rfl)) (pss_one (ps_set (i := 1) sc_q_pool.nd rfl (.inl rfl) (pe_op op_mod (pe_callTy call_int1 (by rfl) B.int (by decide +kernel) (pa_cons (pe_op op_add (pe_op op_mul (pv 1) pe_int) (pv 2)) pa_nil)) pe_int)))) (pss_cons (ps_set (i := 3) sc_q_pool.nd rfl (.inl rfl) (pe_callTy call_list_of (by rfl) B.list (by decide +kernel) (pa_cons (pv 0) pa_nil))) (pss_cons (ps_if (PW.pt (pw_and (pt_cmpR op_gt (pe_callB call_len_seq (by rfl) B.len (by decide +kernel) (pa_cons (pv 3) pa_nil)) pe_int (nomark _)) (pw_and1 (pt_cmpR op_eq (pe_op op_mod (pe_callTy call_int1 (by rfl) B.int (by decide +kernel) (pa_cons (pe_ix ix_list (pv 3) pe_int (fun _ _ => rfl)) pa_nil)) pe_int) pe_int (nomark _))))) (pss_one (ps_set (i := 3) sc_q_pool.nd rfl (.inl rfl) (pe_lst pa_nil))) pss_nil) (pss_cons (ps_if (pt_cmpR op_gt (pe_callB call_len_seq (by rfl) B.len (by decide +kernel) (pa_cons (pv 3) pa_nil)) pe_int (nomark _)) (pss_one (ps_asg (pe_op op_fdiv (pe_ix ix_list (pv 3) pe_int (fun _ _ => rfl)) pe_int) (pg_sub (pv 3) pe_int set_list))) pss_nil) (pss_one (ps_ret (pe_disp (pps_cons pe_str (pv 3) (pps_cons pe_str pe_int (pps_cons pe_str pe_int (pps_cons pe_str pe_int (pps_cons pe_str pe_bl (pps_cons pe_str (pv 1) (pps_cons pe_str pe_int pps_nil))))))) (by rfl) (by rfl) (fun z => by cases z) (by decide))))))))), ?_⟩
    refine ⟨_, rfl, a, rfl, for_seq (M := NoM) nsN (.inl ha) (fun i σ H2 => ∃ (sd : Int) (y2 y3 : Option V), σ = [some (.ref a), some (.int sd), y2, y3] ∧ H2 = H) ⟨7, _, _, rfl, rfl⟩ ?_ ?_ ?_⟩
    · rintro i σ H2 _ ⟨_, _, _, _, rfl⟩
      exact Kp.refl
    · rintro i v σ H2 hi ⟨sd, y2, y3, rfl, rfl⟩ hv
      rw [List.getElem?_map] at hv
      cases hz : zs[i]? with
      | none =>
        rw [hz] at hv
        cases hv
      | some n =>
        rw [hz] at hv
        obtain rfl : V.int n = v := Option.some.inj hv
        exact ⟨_, rfl, _, _, rfl, rfl, .inr ⟨by decide, by decide⟩, _, rfl, _, _, rfl, rfl, .inl ⟨_, rfl, _, _, rfl, rfl, (show (0 : Int) < 2305843009213693951 by decide), _, _, _, rfl, rfl⟩⟩
    · rintro σ H2 ⟨sd, y2, y3, rfl, rfl⟩
      refine ⟨_, rfl, a, _, rfl, .inl ha, fun l0 hl00 => ?_⟩
      have s1 := Same.new (o := .lst (zs.map V.int)) hl00
      have hl1 : (upd H2 l0 (.lst (zs.map V.int))) l0 = some (.lst (zs.map V.int)) := upd_same
      refine ⟨_, rfl, l0, _, rfl, .inl (.inl (.inl hl1)), _, _, rfl, rfl, _, rfl, ?_⟩
      have go : ∀ (H : Hp), H = H2 → True := fun _ _ => trivial
      generalize hH : H2 = H at *
      by_cases h0 : 0 < (zs.map V.int).length
      · obtain ⟨c0, cs', rfl⟩ : ∃ c0 cs', zs = c0 :: cs' := by
          cases zs with
          | nil => simp at h0
          | cons c0 cs' => exact ⟨c0, cs', rfl⟩
        refine ifT (decide_eq_true (by omega)) ?_
        refine ⟨_, rfl, l0, _, 0, V.int c0, rfl, rfl, .inl (.inl hl1), atI_nat (j := 0) rfl, .inl ⟨_, rfl, _, _, rfl, rfl, (show (0 : Int) < 2 by decide), rfl, _, rfl, ite2 (fun e => ?_) (fun e => ?_)⟩⟩
        · refine ⟨Nat.zero_le _, fun l hl => ?_⟩
          have sH3 := same_trans s1 (Same.new (o := .lst []) hl)
          have hl3 : (upd (upd H l0 (.lst ((c0 :: cs').map V.int))) l (.lst [])) l = some (.lst (([] : List Int).map V.int)) := upd_same
          have hl0 : H l = none := by
            cases hz : H l with
            | none => rfl
            | some o => rw [s1 _ _ hz] at hl; cases hl
          generalize ([] : List Int) = cs at hl3
          generalize (upd (upd H l0 (.lst ((c0 :: cs').map V.int))) l (.lst [])) = H3 at sH3 hl3
          refine ⟨_, rfl, l, _, rfl, .inl (.inl (.inl hl3)), _, _, rfl, rfl, _, rfl, ite2 (fun eL => ?_) (fun eL => ?_)⟩
          · have p0 : 0 < (cs.map V.int).length := by
              have := of_decide_eq_true eL
              omega
            obtain ⟨c0, cs', rfl⟩ : ∃ c0 cs', cs = c0 :: cs' := by
              cases cs with
              | nil => simp at p0
              | cons c0 cs' => exact ⟨c0, cs', rfl⟩
            refine ⟨_, rfl, l, _, 0, V.int c0, rfl, rfl, .inl (.inl hl3), atI_nat (j := 0) rfl, _, _, rfl, rfl, ⟨by decide, by decide⟩, ?_⟩
            refine ⟨_, rfl, l, _, 0, 0, rfl, rfl, hl3, ixN0 _ p0, ?_⟩
            have sH4 : Same H (upd H3 l (.lst ((c0 / 2 :: cs').map V.int))) := Same.mut sH3 hl0
            have hl4 : (upd H3 l (.lst ((c0 / 2 :: cs').map V.int))) l = some (.lst ((c0 / 2 :: cs').map V.int)) := upd_same
            refine at_heap (upd H3 l (.lst ((c0 / 2 :: cs').map V.int))) rfl ?_
            generalize (c0 / 2 :: cs') = cs at sH4 hl4
            generalize upd H3 l (.lst (cs.map V.int)) = H4 at sH4 hl4
            refine fun q0 hq0 => ⟨_, rfl, _, rfl, ?_⟩
            have hcq : l ≠ q0 := ne_of_none hl4 hq0
            refine ⟨upd_same, [(Sum.inr "cells", .ref l), (Sum.inr "at", .int 0), (Sum.inr "rest", .int 0), (Sum.inr "left", .int 0), (Sum.inr "small", .bl true), (Sum.inr "seed", .int sd), (Sum.inr "turn", .int 0)], rfl, show 7 ≤ 15 by decide, ?_⟩
            have e1 : mergeK [] [(Sum.inr "cells", V.ref l), (Sum.inr "at", .int 0), (Sum.inr "rest", .int 0), (Sum.inr "left", .int 0), (Sum.inr "small", .bl true), (Sum.inr "seed", .int sd), (Sum.inr "turn", .int 0)] = pkvs l 0 0 0 true sd 0 := by kernel_rfl
            rw [e1]
            refine k q0 l cs _ (Same.mut (Same.mut sH4 ?_) ?_) ?_
            · cases hz : H q0 with
              | none => rfl
              | some o => rw [sH4 _ _ hz] at hq0; cases hq0
            · cases hz : H q0 with
              | none => rfl
              | some o => rw [sH4 _ _ hz] at hq0; cases hq0
            · refine ⟨0, 0, 0, true, sd, 0, upd_same, ?_⟩
              rw [upd_ne hcq, upd_ne hcq]
              exact hl4
          · have sH4 := sH3
            have hl4 := hl3
            refine fun q0 hq0 => ⟨_, rfl, _, rfl, ?_⟩
            have hcq : l ≠ q0 := ne_of_none hl4 hq0
            refine ⟨upd_same, [(Sum.inr "cells", .ref l), (Sum.inr "at", .int 0), (Sum.inr "rest", .int 0), (Sum.inr "left", .int 0), (Sum.inr "small", .bl true), (Sum.inr "seed", .int sd), (Sum.inr "turn", .int 0)], rfl, show 7 ≤ 15 by decide, ?_⟩
            have e1 : mergeK [] [(Sum.inr "cells", V.ref l), (Sum.inr "at", .int 0), (Sum.inr "rest", .int 0), (Sum.inr "left", .int 0), (Sum.inr "small", .bl true), (Sum.inr "seed", .int sd), (Sum.inr "turn", .int 0)] = pkvs l 0 0 0 true sd 0 := by kernel_rfl
            rw [e1]
            refine k q0 l cs _ (Same.mut (Same.mut sH4 ?_) ?_) ?_
            · cases hz : H q0 with
              | none => rfl
              | some o => rw [sH4 _ _ hz] at hq0; cases hq0
            · cases hz : H q0 with
              | none => rfl
              | some o => rw [sH4 _ _ hz] at hq0; cases hq0
            · refine ⟨0, 0, 0, true, sd, 0, upd_same, ?_⟩
              rw [upd_ne hcq, upd_ne hcq]
              exact hl4
        · have sH3 := s1
          have hl3 := hl1
          have hl0 := hl00
          generalize (c0 :: cs') = cs at hl3 sH3
          generalize l0 = l at hl3 sH3 hl0
          generalize upd H l (.lst (cs.map V.int)) = H3 at sH3 hl3
          refine ⟨_, rfl, l, _, rfl, .inl (.inl (.inl hl3)), _, _, rfl, rfl, _, rfl, ite2 (fun eL => ?_) (fun eL => ?_)⟩
          · have p0 : 0 < (cs.map V.int).length := by
              have := of_decide_eq_true eL
              omega
            obtain ⟨c0, cs', rfl⟩ : ∃ c0 cs', cs = c0 :: cs' := by
              cases cs with
              | nil => simp at p0
              | cons c0 cs' => exact ⟨c0, cs', rfl⟩
            refine ⟨_, rfl, l, _, 0, V.int c0, rfl, rfl, .inl (.inl hl3), atI_nat (j := 0) rfl, _, _, rfl, rfl, ⟨by decide, by decide⟩, ?_⟩
            refine ⟨_, rfl, l, _, 0, 0, rfl, rfl, hl3, ixN0 _ p0, ?_⟩
            have sH4 : Same H (upd H3 l (.lst ((c0 / 2 :: cs').map V.int))) := Same.mut sH3 hl0
            have hl4 : (upd H3 l (.lst ((c0 / 2 :: cs').map V.int))) l = some (.lst ((c0 / 2 :: cs').map V.int)) := upd_same
            refine at_heap (upd H3 l (.lst ((c0 / 2 :: cs').map V.int))) rfl ?_
            generalize (c0 / 2 :: cs') = cs at sH4 hl4
            generalize upd H3 l (.lst (cs.map V.int)) = H4 at sH4 hl4
            refine fun q0 hq0 => ⟨_, rfl, _, rfl, ?_⟩
            have hcq : l ≠ q0 := ne_of_none hl4 hq0
            refine ⟨upd_same, [(Sum.inr "cells", .ref l), (Sum.inr "at", .int 0), (Sum.inr "rest", .int 0), (Sum.inr "left", .int 0), (Sum.inr "small", .bl true), (Sum.inr "seed", .int sd), (Sum.inr "turn", .int 0)], rfl, show 7 ≤ 15 by decide, ?_⟩
            have e1 : mergeK [] [(Sum.inr "cells", V.ref l), (Sum.inr "at", .int 0), (Sum.inr "rest", .int 0), (Sum.inr "left", .int 0), (Sum.inr "small", .bl true), (Sum.inr "seed", .int sd), (Sum.inr "turn", .int 0)] = pkvs l 0 0 0 true sd 0 := by kernel_rfl
            rw [e1]
            refine k q0 l cs _ (Same.mut (Same.mut sH4 ?_) ?_) ?_
            · cases hz : H q0 with
              | none => rfl
              | some o => rw [sH4 _ _ hz] at hq0; cases hq0
            · cases hz : H q0 with
              | none => rfl
              | some o => rw [sH4 _ _ hz] at hq0; cases hq0
            · refine ⟨0, 0, 0, true, sd, 0, upd_same, ?_⟩
              rw [upd_ne hcq, upd_ne hcq]
              exact hl4
          · have sH4 := sH3
            have hl4 := hl3
            refine fun q0 hq0 => ⟨_, rfl, _, rfl, ?_⟩
            have hcq : l ≠ q0 := ne_of_none hl4 hq0
            refine ⟨upd_same, [(Sum.inr "cells", .ref l), (Sum.inr "at", .int 0), (Sum.inr "rest", .int 0), (Sum.inr "left", .int 0), (Sum.inr "small", .bl true), (Sum.inr "seed", .int sd), (Sum.inr "turn", .int 0)], rfl, show 7 ≤ 15 by decide, ?_⟩
            have e1 : mergeK [] [(Sum.inr "cells", V.ref l), (Sum.inr "at", .int 0), (Sum.inr "rest", .int 0), (Sum.inr "left", .int 0), (Sum.inr "small", .bl true), (Sum.inr "seed", .int sd), (Sum.inr "turn", .int 0)] = pkvs l 0 0 0 true sd 0 := by kernel_rfl
            rw [e1]
            refine k q0 l cs _ (Same.mut (Same.mut sH4 ?_) ?_) ?_
            · cases hz : H q0 with
              | none => rfl
              | some o => rw [sH4 _ _ hz] at hq0; cases hq0
            · cases hz : H q0 with
              | none => rfl
              | some o => rw [sH4 _ _ hz] at hq0; cases hq0
            · refine ⟨0, 0, 0, true, sd, 0, upd_same, ?_⟩
              rw [upd_ne hcq, upd_ne hcq]
              exact hl4
      · refine ifF (decide_eq_false (by omega)) ?_
        have sH3 := s1
        have hl3 := hl1
        have hl0 := hl00
        generalize zs = cs at hl3 sH3
        generalize l0 = l at hl3 sH3 hl0
        generalize upd H l (.lst (cs.map V.int)) = H3 at sH3 hl3
        refine ⟨_, rfl, l, _, rfl, .inl (.inl (.inl hl3)), _, _, rfl, rfl, _, rfl, ite2 (fun eL => ?_) (fun eL => ?_)⟩
        · have p0 : 0 < (cs.map V.int).length := by
            have := of_decide_eq_true eL
            omega
          obtain ⟨c0, cs', rfl⟩ : ∃ c0 cs', cs = c0 :: cs' := by
            cases cs with
            | nil => simp at p0
            | cons c0 cs' => exact ⟨c0, cs', rfl⟩
          refine ⟨_, rfl, l, _, 0, V.int c0, rfl, rfl, .inl (.inl hl3), atI_nat (j := 0) rfl, _, _, rfl, rfl, ⟨by decide, by decide⟩, ?_⟩
          refine ⟨_, rfl, l, _, 0, 0, rfl, rfl, hl3, ixN0 _ p0, ?_⟩
          have sH4 : Same H (upd H3 l (.lst ((c0 / 2 :: cs').map V.int))) := Same.mut sH3 hl0
          have hl4 : (upd H3 l (.lst ((c0 / 2 :: cs').map V.int))) l = some (.lst ((c0 / 2 :: cs').map V.int)) := upd_same
          refine at_heap (upd H3 l (.lst ((c0 / 2 :: cs').map V.int))) rfl ?_
          generalize (c0 / 2 :: cs') = cs at sH4 hl4
          generalize upd H3 l (.lst (cs.map V.int)) = H4 at sH4 hl4
          refine fun q0 hq0 => ⟨_, rfl, _, rfl, ?_⟩
          have hcq : l ≠ q0 := ne_of_none hl4 hq0
          refine ⟨upd_same, [(Sum.inr "cells", .ref l), (Sum.inr "at", .int 0), (Sum.inr "rest", .int 0), (Sum.inr "left", .int 0), (Sum.inr "small", .bl true), (Sum.inr "seed", .int sd), (Sum.inr "turn", .int 0)], rfl, show 7 ≤ 15 by decide, ?_⟩
          have e1 : mergeK [] [(Sum.inr "cells", V.ref l), (Sum.inr "at", .int 0), (Sum.inr "rest", .int 0), (Sum.inr "left", .int 0), (Sum.inr "small", .bl true), (Sum.inr "seed", .int sd), (Sum.inr "turn", .int 0)] = pkvs l 0 0 0 true sd 0 := by kernel_rfl
          rw [e1]
          refine k q0 l cs _ (Same.mut (Same.mut sH4 ?_) ?_) ?_
          · cases hz : H q0 with
            | none => rfl
            | some o => rw [sH4 _ _ hz] at hq0; cases hq0
          · cases hz : H q0 with
            | none => rfl
            | some o => rw [sH4 _ _ hz] at hq0; cases hq0
          · refine ⟨0, 0, 0, true, sd, 0, upd_same, ?_⟩
            rw [upd_ne hcq, upd_ne hcq]
            exact hl4
        · have sH4 := sH3
          have hl4 := hl3
          refine fun q0 hq0 => ⟨_, rfl, _, rfl, ?_⟩
          have hcq : l ≠ q0 := ne_of_none hl4 hq0
          refine ⟨upd_same, [(Sum.inr "cells", .ref l), (Sum.inr "at", .int 0), (Sum.inr "rest", .int 0), (Sum.inr "left", .int 0), (Sum.inr "small", .bl true), (Sum.inr "seed", .int sd), (Sum.inr "turn", .int 0)], rfl, show 7 ≤ 15 by decide, ?_⟩
          have e1 : mergeK [] [(Sum.inr "cells", V.ref l), (Sum.inr "at", .int 0), (Sum.inr "rest", .int 0), (Sum.inr "left", .int 0), (Sum.inr "small", .bl true), (Sum.inr "seed", .int sd), (Sum.inr "turn", .int 0)] = pkvs l 0 0 0 true sd 0 := by kernel_rfl
          rw [e1]
          refine k q0 l cs _ (Same.mut (Same.mut sH4 ?_) ?_) ?_
          · cases hz : H q0 with
            | none => rfl
            | some o => rw [sH4 _ _ hz] at hq0; cases hq0
          · cases hz : H q0 with
            | none => rfl
            | some o => rw [sH4 _ _ hz] at hq0; cases hq0
          · refine ⟨0, 0, 0, true, sd, 0, upd_same, ?_⟩
            rw [upd_ne hcq, upd_ne hcq]
            exact hl4
end
end K8
/-! K8P2: a draw from the law's pool. -/
namespace K8
open PySem PySem.Spec PyProof.Rows L2
section
variable {P : Program} {w : World} {K : PySem.W.Frag} {mg : Str → Option Value} {base : Heap}
section
variable {q c : Addr} {ns : List Int} {H0 H : Hp} {a : Nat} {r l : Int} {sm : Bool} {sd t : Int}
theorem PS.same {H1 : Hp} (p : PS q c ns H0 H a r l sm sd t) (s : Same H H1) : PS q c ns H0 H1 a r l sm sd t := ⟨p.kp.trans (Same.kp s), s _ _ p.hq, s _ _ p.hc⟩
theorem PS.gc (p : PS q c ns H0 H a r l sm sd t) : DGet H q (.str "cells") (some (.ref c)) := p.get "cells" (by kernel_rfl)
theorem PS.ga (p : PS q c ns H0 H a r l sm sd t) : DGet H q (.str "at") (some (.int (a : Int))) := p.get "at" (by kernel_rfl)
theorem PS.gr (p : PS q c ns H0 H a r l sm sd t) : DGet H q (.str "rest") (some (.int r)) := p.get "rest" (by kernel_rfl)
theorem PS.gl (p : PS q c ns H0 H a r l sm sd t) : DGet H q (.str "left") (some (.int l)) := p.get "left" (by kernel_rfl)
theorem PS.gs (p : PS q c ns H0 H a r l sm sd t) : DGet H q (.str "small") (some (.bl sm)) := p.get "small" (by kernel_rfl)
theorem PS.gd (p : PS q c ns H0 H a r l sm sd t) : DGet H q (.str "seed") (some (.int sd)) := p.get "seed" (by kernel_rfl)
theorem PS.gt (p : PS q c ns H0 H a r l sm sd t) : DGet H q (.str "turn") (some (.int t)) := p.get "turn" (by kernel_rfl)
theorem PS.sa (p : PS q c ns H0 H a r l sm sd t) (a' : Nat) : ∃ H1, DPut H q (.str "at") (.int (a' : Int)) H1 ∧ PS q c ns H0 H1 a' r l sm sd t := p.put "at" _ (by kernel_rfl)
theorem PS.sr (p : PS q c ns H0 H a r l sm sd t) (r' : Int) : ∃ H1, DPut H q (.str "rest") (.int r') H1 ∧ PS q c ns H0 H1 a r' l sm sd t := p.put "rest" _ (by kernel_rfl)
theorem PS.sl (p : PS q c ns H0 H a r l sm sd t) (l' : Int) : ∃ H1, DPut H q (.str "left") (.int l') H1 ∧ PS q c ns H0 H1 a r l' sm sd t := p.put "left" _ (by kernel_rfl)
theorem PS.ss (p : PS q c ns H0 H a r l sm sd t) (sm' : Bool) : ∃ H1, DPut H q (.str "small") (.bl sm') H1 ∧ PS q c ns H0 H1 a r l sm' sd t := p.put "small" _ (by kernel_rfl)
theorem PS.st (p : PS q c ns H0 H a r l sm sd t) (t' : Int) : ∃ H1, DPut H q (.str "turn") (.int t') H1 ∧ PS q c ns H0 H1 a r l sm sd t' := p.put "turn" _ (by kernel_rfl)
end
abbrev n_q_take : List Str := ["_law_pool_here", "_law_many", "_law_drawn"]
theorem sc_q_take : FnScope n_q_take ["_law_pool_here", "_law_many"] (defScope s_q_take) := ⟨rfl, rfl, rfl, by decide +kernel, rfl, by decide +kernel, by decide +kernel⟩

def spTake : Sp := fun vs H Q _ => ∃ (q c : Addr) (ns : List Int) (m : Int), vs = [.ref q, .int m] ∧ Pl q c ns H ∧ 0 < m ∧ m < 1073741824 ∧ ∀ (r : Int) H', 0 ≤ r → r < m → Kp (atA q) H H' → Pl q c ns H' → Q (.int r) H'
theorem ok_take {f : Addr} {fd : FuncData} (B : Bl mg) (c_q_mixed : Cal P w K mg base 1 "_law_mixed" ["_law_number", "_law_turn", "_law_many"] spMixed) (F : FnP K "_law_take" s_q_take f fd) (hm : mg "_law_take" = some (.ref f)) : Cal P w K mg base 2 "_law_take" ["_law_pool_here", "_law_many"] spTake := by
  refine cal_mk F (F.ok sc_q_take (fun vs H Q E h => ?_) (fun cdv A outer s H vs Q E hr h => ?_)) hm (fun _ _ _ _ _ _ us hl => match us, hl with | [_, _], _ => rfl) (fun _ _ _ _ _ _ us hl => match us, hl with | [_, _], _ => rfl)
  · obtain ⟨q, c, ns, m, rfl, _⟩ := h
    rfl
  · obtain ⟨q, c, ns, m, rfl, hp, hm0, hm1, k⟩ := h
    refine ⟨_, PSs.nox (pss_cons (ps_dput (hu1 hr) (pv 0) pe_str (pe_op op_add (pe_dget (hu1 hr) (pv 0) pe_str (fun _ _ => rfl)) pe_int) rfl) (pss_cons (ps_if (PW.pt (pw_and (pt_cmpR op_eq (pe_dget (hu1 hr) (pv 0) pe_str (fun _ _ => rfl)) pe_int (nomark _)) (pw_and1 (pt_cmpR op_lt (pe_dget (hu1 hr) (pv 0) pe_str (fun _ _ => rfl)) (pe_callB call_len_seq (by rfl) B.len (by decide +kernel) (pa_cons (pe_dget (hu1 hr) (pv 0) pe_str (fun _ _ => rfl)) pa_nil)) (nomark _))))) (pss_cons (ps_dput (hu1 hr) (pv 0) pe_str (pe_ix ix_list (pe_dget (hu1 hr) (pv 0) pe_str (fun _ _ => rfl)) (pe_dget (hu1 hr) (pv 0) pe_str (fun _ _ => rfl)) (fun _ _ => rfl)) rfl) (pss_cons (ps_dput (hu1 hr) (pv 0) pe_str (pe_op op_add (pe_dget (hu1 hr) (pv 0) pe_str (fun _ _ => rfl)) pe_int) rfl) (pss_cons (ps_dput (hu1 hr) (pv 0) pe_str (pe_cmpR op_lt (pe_dget (hu1 hr) (pv 0) pe_str (fun _ _ => rfl)) (pe_op op_pow pe_int pe_int) (nomark _)) rfl) (pss_one (ps_dput (hu1 hr) (pv 0) pe_str (pe_ix ix_list (pe_lst (pa_cons pe_int (pa_cons pe_int pa_nil))) (pe_callTy call_int1 (by rfl) B.int (by decide +kernel) (pa_cons (pe_dget (hu1 hr) (pv 0) pe_str (fun _ _ => rfl)) pa_nil)) (fun _ _ => rfl)) rfl))))) pss_nil) (pss_cons (ps_if (pt_cmpR op_eq (pe_dget (hu1 hr) (pv 0) pe_str (fun _ _ => rfl)) pe_int (nomark _)) (pss_one (ps_ret (pe_u c_q_mixed hr (by omega) (by rfl) (pa_cons (pe_dget (hu1 hr) (pv 0) pe_str (fun _ _ => rfl)) (pa_cons (pe_dget (hu1 hr) (pv 0) pe_str (fun _ _ => rfl)) (pa_cons (pv 1) pa_nil)))))) pss_nil) (pss_cons (ps_dput (hu1 hr) (pv 0) pe_str (pe_op op_sub (pe_dget (hu1 hr) (pv 0) pe_str (fun _ _ => rfl)) pe_int) rfl) (pss_cons (ps_if (pt_val (pe_dget (hu1 hr) (pv 0) pe_str (fun _ _ => rfl))) (pss_one (ps_ret (pe_u c_q_mixed hr (by omega) (by rfl) (pa_cons (pe_dget (hu1 hr) (pv 0) pe_str (fun _ _ => rfl)) (pa_cons (pe_dget (hu1 hr) (pv 0) pe_str (fun _ _ => rfl)) (pa_cons (pv 1) pa_nil)))))) pss_nil) (pss_cons (ps_set (i := 2) sc_q_take.nd rfl (.inl rfl) (pe_op op_mod (pe_callTy call_int1 (by rfl) B.int (by decide +kernel) (pa_cons (pe_dget (hu1 hr) (pv 0) pe_str (fun _ _ => rfl)) pa_nil)) (pv 1))) (pss_cons (ps_dput (hu1 hr) (pv 0) pe_str (pe_op op_fdiv (pe_dget (hu1 hr) (pv 0) pe_str (fun _ _ => rfl)) (pv 1)) rfl) (pss_cons (ps_if (pt_cmpR op_eq (pe_dget (hu1 hr) (pv 0) pe_str (fun _ _ => rfl)) pe_int (nomark _)) (pss_one (ps_dput (hu1 hr) (pv 0) pe_str pe_int rfl)) pss_nil) (pss_one (ps_ret (pv 2))))))))))), ?_⟩
    obtain ⟨a, r, l, sm, sd, t, hq, hc⟩ := hp
    have p0 : PS q c ns H H a r l sm sd t := ⟨Kp.refl, hq, hc⟩
    obtain ⟨H1, dp1, p1⟩ := p0.st (t + 1)
    refine ⟨_, rfl, q, _, rfl, p0.gt, _, _, rfl, rfl, _, rfl, q, H1, rfl, dp1, ?_⟩
    refine ⟨_, rfl, q, _, rfl, p1.gl, rfl, _, rfl, ite2 (fun e1 => ?_) (fun e1 => ?_)⟩
    · refine ⟨_, rfl, q, _, rfl, p1.ga, _, rfl, q, _, rfl, p1.gc, c, _, rfl, .inl (.inl (.inl p1.hc)), _, _, rfl, rfl, _, rfl, ite2 (fun e2 => ?_) (fun e2 => ?_)⟩
      · have lt : a < ns.length := by
          have h := of_decide_eq_true e2
          rw [List.length_map] at h
          omega
        obtain ⟨x, hx⟩ : ∃ x, ns[a]? = some x := ⟨_, List.getElem?_eq_getElem lt⟩
        have hx2 : (ns.map V.int)[a]? = some (.int x) := by
          rw [List.getElem?_map, hx]
          rfl
        obtain ⟨H2, dp2, p2⟩ := p1.sr x
        obtain ⟨H3, dp3, p3⟩ := p2.sa (a + 1)
        obtain ⟨H4, dp4, p4⟩ := p3.ss (decide (x < 1000000000000000000))
        refine ⟨_, rfl, q, _, rfl, p1.gc, _, rfl, q, _, rfl, p1.ga, c, _, _, _, rfl, rfl, .inl (.inl p1.hc), atI_nat hx2, _, rfl, q, H2, rfl, dp2, ?_⟩
        refine ⟨_, rfl, q, _, rfl, p2.ga, _, _, rfl, rfl, _, rfl, q, H3, rfl, dp3, ?_⟩
        refine ⟨_, rfl, q, _, rfl, p3.gr, _, _, rfl, rfl, ⟨by decide, by decide, by decide⟩, _, _, rfl, rfl, _, rfl, q, H4, rfl, dp4, ?_⟩
        refine ⟨sz2, fun T hT => ?_⟩
        have p5 := p4.same (Same.new (o := .lst [V.int 60, V.int 2]) hT)
        refine ⟨_, rfl, q, _, rfl, p5.gs, .inr ⟨_, rfl, T, _, _, if decide (x < 1000000000000000000) = true then .int 2 else .int 60, rfl, rfl, .inl (.inl upd_same), ?_, ?_⟩⟩
        · cases decide (x < 1000000000000000000) with
          | true => exact atI_nat (j := 1) rfl
          | false => exact atI_nat (j := 0) rfl
        · obtain ⟨l9, hl9⟩ : ∃ l9 : Int, (if decide (x < 1000000000000000000) = true then V.int 2 else V.int 60) = V.int l9 := by
            cases decide (x < 1000000000000000000) with
            | true => exact ⟨2, rfl⟩
            | false => exact ⟨60, rfl⟩
          rw [hl9]
          obtain ⟨H6, dp6, p6⟩ := p5.sl l9
          refine ⟨_, rfl, q, H6, rfl, dp6, ?_⟩
          generalize (decide (x < 1000000000000000000)) = sm9 at p6
          generalize x = r9 at p6
          have p9 := p6
          generalize H6 = H9 at p9
          refine ⟨_, rfl, q, _, rfl, p9.gl, rfl, _, rfl, ite2 (fun eL => ?_) (fun eL => ?_)⟩
          · exact ⟨_, rfl, q, _, rfl, p9.gd, _, rfl, q, _, rfl, p9.gt, _, rfl, _, _, _, rfl, hm0, fun x h0 h1 => k x H9 h0 h1 p9.kp p9.pl⟩
          · obtain ⟨H10, dp10, p10⟩ := p9.sl (l9 - 1)
            refine ⟨_, rfl, q, _, rfl, p9.gl, _, _, rfl, rfl, _, rfl, q, H10, rfl, dp10, ?_⟩
            refine ⟨_, rfl, q, _, rfl, p10.gs, sm9, rfl, ite2 (fun eS => ?_) (fun eS => ?_)⟩
            · exact ⟨_, rfl, q, _, rfl, p10.gr, _, rfl, q, _, rfl, p10.gt, _, rfl, _, _, _, rfl, hm0, fun x h0 h1 => k x H10 h0 h1 p10.kp p10.pl⟩
            · refine ⟨_, rfl, q, _, rfl, p10.gr, .inl ⟨_, rfl, _, rfl, _, _, rfl, rfl, hm0, ?_⟩⟩
              obtain ⟨H11, dp11, p11⟩ := p10.sr (r9 / m)
              refine ⟨_, rfl, q, _, rfl, p10.gr, _, rfl, _, _, rfl, rfl, ⟨hm0, hm1⟩, _, rfl, q, H11, rfl, dp11, ?_⟩
              refine ⟨_, rfl, q, _, rfl, p11.gr, rfl, _, rfl, ite2 (fun eR => ?_) (fun eR => ?_)⟩
              · obtain ⟨H12, dp12, p12⟩ := p11.sl 0
                exact ⟨_, rfl, q, H12, rfl, dp12, _, rfl, k _ H12 (Int.emod_nonneg _ (by omega)) (Int.emod_lt_of_pos _ hm0) p12.kp p12.pl⟩
              · exact ⟨_, rfl, k _ H11 (Int.emod_nonneg _ (by omega)) (Int.emod_lt_of_pos _ hm0) p11.kp p11.pl⟩
      · have p9 := p1
        generalize H1 = H9 at p9
        generalize sm = sm9 at p9
        generalize r = r9 at p9
        generalize l = l9 at p9
        refine ⟨_, rfl, q, _, rfl, p9.gl, rfl, _, rfl, ite2 (fun eL => ?_) (fun eL => ?_)⟩
        · exact ⟨_, rfl, q, _, rfl, p9.gd, _, rfl, q, _, rfl, p9.gt, _, rfl, _, _, _, rfl, hm0, fun x h0 h1 => k x H9 h0 h1 p9.kp p9.pl⟩
        · obtain ⟨H10, dp10, p10⟩ := p9.sl (l9 - 1)
          refine ⟨_, rfl, q, _, rfl, p9.gl, _, _, rfl, rfl, _, rfl, q, H10, rfl, dp10, ?_⟩
          refine ⟨_, rfl, q, _, rfl, p10.gs, sm9, rfl, ite2 (fun eS => ?_) (fun eS => ?_)⟩
          · exact ⟨_, rfl, q, _, rfl, p10.gr, _, rfl, q, _, rfl, p10.gt, _, rfl, _, _, _, rfl, hm0, fun x h0 h1 => k x H10 h0 h1 p10.kp p10.pl⟩
          · refine ⟨_, rfl, q, _, rfl, p10.gr, .inl ⟨_, rfl, _, rfl, _, _, rfl, rfl, hm0, ?_⟩⟩
            obtain ⟨H11, dp11, p11⟩ := p10.sr (r9 / m)
            refine ⟨_, rfl, q, _, rfl, p10.gr, _, rfl, _, _, rfl, rfl, ⟨hm0, hm1⟩, _, rfl, q, H11, rfl, dp11, ?_⟩
            refine ⟨_, rfl, q, _, rfl, p11.gr, rfl, _, rfl, ite2 (fun eR => ?_) (fun eR => ?_)⟩
            · obtain ⟨H12, dp12, p12⟩ := p11.sl 0
              exact ⟨_, rfl, q, H12, rfl, dp12, _, rfl, k _ H12 (Int.emod_nonneg _ (by omega)) (Int.emod_lt_of_pos _ hm0) p12.kp p12.pl⟩
            · exact ⟨_, rfl, k _ H11 (Int.emod_nonneg _ (by omega)) (Int.emod_lt_of_pos _ hm0) p11.kp p11.pl⟩
    · have p9 := p1
      generalize H1 = H9 at p9
      generalize sm = sm9 at p9
      generalize r = r9 at p9
      generalize l = l9 at p9
      refine ⟨_, rfl, q, _, rfl, p9.gl, rfl, _, rfl, ite2 (fun eL => ?_) (fun eL => ?_)⟩
      · exact ⟨_, rfl, q, _, rfl, p9.gd, _, rfl, q, _, rfl, p9.gt, _, rfl, _, _, _, rfl, hm0, fun x h0 h1 => k x H9 h0 h1 p9.kp p9.pl⟩
      · obtain ⟨H10, dp10, p10⟩ := p9.sl (l9 - 1)
        refine ⟨_, rfl, q, _, rfl, p9.gl, _, _, rfl, rfl, _, rfl, q, H10, rfl, dp10, ?_⟩
        refine ⟨_, rfl, q, _, rfl, p10.gs, sm9, rfl, ite2 (fun eS => ?_) (fun eS => ?_)⟩
        · exact ⟨_, rfl, q, _, rfl, p10.gr, _, rfl, q, _, rfl, p10.gt, _, rfl, _, _, _, rfl, hm0, fun x h0 h1 => k x H10 h0 h1 p10.kp p10.pl⟩
        · refine ⟨_, rfl, q, _, rfl, p10.gr, .inl ⟨_, rfl, _, rfl, _, _, rfl, rfl, hm0, ?_⟩⟩
          obtain ⟨H11, dp11, p11⟩ := p10.sr (r9 / m)
          refine ⟨_, rfl, q, _, rfl, p10.gr, _, rfl, _, _, rfl, rfl, ⟨hm0, hm1⟩, _, rfl, q, H11, rfl, dp11, ?_⟩
          refine ⟨_, rfl, q, _, rfl, p11.gr, rfl, _, rfl, ite2 (fun eR => ?_) (fun eR => ?_)⟩
          · obtain ⟨H12, dp12, p12⟩ := p11.sl 0
            exact ⟨_, rfl, q, H12, rfl, dp12, _, rfl, k _ H12 (Int.emod_nonneg _ (by omega)) (Int.emod_lt_of_pos _ hm0) p12.kp p12.pl⟩
          · exact ⟨_, rfl, k _ H11 (Int.emod_nonneg _ (by omega)) (Int.emod_lt_of_pos _ hm0) p11.kp p11.pl⟩
end
end K8
/-! K8Txt: tokens and words as texts. -/
namespace K8
open PySem PySem.Spec PyProof.Rows L2
theorem sok_of {x : Str} (h : PyData.strOk x = true) : SOk x := by
  unfold SOk SeqAt.shaped
  have : (PyData.str x).canLay0 = true := by
    show PyData.strOk x = true
    exact h
  rw [this]
  rfl
theorem sok_iff {x : Str} : PyData.strOk x = true ↔ ∀ c ∈ x.cps.toList, c < 0x110000 := by
  unfold PyData.strOk
  rw [Array.all_eq_true']
  constructor
  · intro h c hc
    exact of_decide_eq_true (h c (by simpa using hc))
  · intro h c hc
    exact decide_eq_true (h c (by simpa using hc))
theorem cps_append (a b : Str) : (a ++ b).cps.toList = a.cps.toList ++ b.cps.toList := by
  show (a.cps ++ b.cps).toList = _
  rw [Array.toList_append]
theorem ok_append {a b : Str} (ha : PyData.strOk a = true) (hb : PyData.strOk b = true) : PyData.strOk (a ++ b) = true := by
  rw [sok_iff] at ha hb ⊢
  intro c hc
  rw [cps_append, List.mem_append] at hc
  exact hc.elim (ha c) (hb c)
theorem ok_string (s : String) : PyData.strOk (Str.ofString s) = true := by
  rw [sok_iff, Str.ofString_eq_toList]
  intro c hc
  simp only [List.mem_map] at hc
  obtain ⟨ch, _, rfl⟩ := hc
  have h := ch.valid
  show ch.val.toNat < 0x110000
  rcases h with h | h
  · have : ch.val.toNat < 55296 := h
    omega
  · exact h.2
theorem ok_one {c : Nat} (h : c < 0x110000) : PyData.strOk ⟨#[c]⟩ = true := by
  rw [sok_iff]
  intro d hd
  have : d = c := by simpa using hd
  rw [this]
  exact h
def letters : Str := "abcdefghijklmnopqrstuvwxyz"
theorem letters_len : letters.cps.toList.length = 26 := by
  unfold letters
  rw [Str.ofString_eq_toList]
  decide +kernel
theorem letters_ok : PyData.strOk letters = true := ok_string _
theorem letter_at {r : Int} (h0 : 0 ≤ r) (h1 : r < 26) : ∃ c, atI letters.cps.toList r = some c ∧ c < 0x110000 := by
  obtain ⟨n, rfl⟩ := Int.eq_ofNat_of_zero_le h0
  have hn : n < letters.cps.toList.length := by
    rw [letters_len]
    omega
  refine ⟨_, atI_nat (List.getElem?_eq_getElem hn), ?_⟩
  exact sok_iff.mp letters_ok _ (List.getElem_mem hn)
/-- a token: a letter and a number -/
structure Tok1 (x : Str) : Prop where
  ok : SOk x
  ne : x ≠ ""
def tokAt (a : Str) (n : Nat) : Str := a ++ Str.ofString (toString ((n : Nat) : Int))
theorem num_len {n : Nat} (h : n < 16384) : (Str.ofString (toString ((n : Nat) : Int))).length ≤ 15 := by
  have h1 : (toString ((n : Nat) : Int)).length ≤ 14 + 1 := int_text_length_le (a := (n : Int)) (by decide) (by
    rw [Int.natAbs_natCast]
    by_cases z : n = 0
    · subst z
      decide
    · exact (Nat.log2_lt z).mpr (by omega))
  have h2 : (Str.ofString (toString ((n : Nat) : Int))).length = (toString ((n : Nat) : Int)).length := by
    rw [Str.ofString_eq_toList]
    show ((((toString ((n : Nat) : Int)).toList.map Char.toNat).toArray).size) = _
    rw [List.size_toArray, List.length_map]
    rfl
  rw [h2]
  exact h1
theorem tok1 {c : Nat} (hc : c < 0x110000) (n : Nat) : Tok1 (tokAt ⟨#[c]⟩ n) := by
  refine ⟨sok_of (ok_append (ok_one hc) (ok_string _)), fun h => ?_⟩
  have h2 := congrArg (fun x : Str => x.cps.toList) h
  have h3 : (tokAt ⟨#[c]⟩ n).cps.toList = [] := h2
  unfold tokAt at h3
  rw [cps_append] at h3
  cases h3
theorem tok_inj {a : Str} {n m : Nat} (h : tokAt a n = tokAt a m) : Str.ofString (toString ((n : Nat) : Int)) = Str.ofString (toString ((m : Nat) : Int)) := by
  have h2 := congrArg (fun x : Str => x.cps.toList) h
  have h3 : (tokAt a n).cps.toList = (tokAt a m).cps.toList := h2
  unfold tokAt at h3
  rw [cps_append, cps_append] at h3
  have h4 := List.append_cancel_left h3
  have key : ∀ {x y : Str}, x.cps.toList = y.cps.toList → x = y := by
    intro x y e
    cases x
    cases y
    congr 1
    exact Array.toList_inj.mp e
  exact key h4
theorem nums_nodup : ((List.range 39).map fun i => Str.ofString (toString ((1 + i : Nat) : Int))).Nodup := by
  decide +kernel
theorem nodup_sub {α : Type} [DecidableEq α] : ∀ {l m : List α}, l.Nodup → (∀ x ∈ l, x ∈ m) → l.length ≤ m.length
  | [], _, _, _ => Nat.zero_le _
  | x :: l, m, nd, h => by
    have nd' := List.nodup_cons.mp nd
    have hx := h x List.mem_cons_self
    have ih := nodup_sub (l := l) (m := m.erase x) nd'.2 fun y hy => by
      have : y ≠ x := fun e => nd'.1 (e ▸ hy)
      exact (List.mem_erase_of_ne this).mpr (h y (List.mem_cons_of_mem _ hy))
    rw [List.length_erase_of_mem hx] at ih
    have := List.length_pos_of_mem hx
    rw [List.length_cons]
    omega
/-- there is always a token left -/
theorem tok_left (a : Str) (found : List Str) (h : found.length < 39) : ∃ i, i < 39 ∧ tokAt a (1 + i) ∉ found := by
  apply Classical.byContradiction
  intro hn
  have all : ∀ i, i < 39 → tokAt a (1 + i) ∈ found := fun i hi => Classical.byContradiction fun z => hn ⟨i, hi, z⟩
  have nd : ((List.range 39).map fun i => tokAt a (1 + i)).Nodup := by
    have h0 := nums_nodup
    rw [List.Nodup, List.pairwise_map] at h0 ⊢
    exact h0.imp fun {x y} hxy e => hxy (tok_inj e)
  have l := nodup_sub nd (m := found) fun x hx => by
    obtain ⟨i, hi, rfl⟩ := List.mem_map.mp hx
    exact all i (List.mem_range.mp hi)
  rw [List.length_map, List.length_range] at l
  omega
/-- a word of signs -/
theorem ok_join : ∀ {ys : List Str}, (∀ y ∈ ys, PyData.strOk y = true) → PyData.strOk (Txt.join "" ys) = true := by
  intro ys h
  rw [TL.join_eq]
  induction ys with
  | nil => exact ok_string ""
  | cons y ys ih =>
    cases ys with
    | nil => exact h y List.mem_cons_self
    | cons z zs =>
      show PyData.strOk (y ++ "" ++ Str.join "" (z :: zs)) = true
      exact ok_append (ok_append (h y List.mem_cons_self) (ok_string "")) (ih fun x hx => h x (List.mem_cons_of_mem _ hx))
end K8
/-! K8P3: tokens and persons drawn. -/
namespace K8
open PySem PySem.Spec PyProof.Rows L2
section
variable {P : Program} {w : World} {K : PySem.W.Frag} {mg : Str → Option Value} {base : Heap}
abbrev n_q_listed : List Str := ["_law_pool_here", "_law_value"]
theorem sc_q_listed : FnScope n_q_listed ["_law_pool_here", "_law_value"] (defScope s_q_listed) := ⟨rfl, rfl, rfl, by decide +kernel, rfl, by decide +kernel, by decide +kernel⟩

def spListed (K : PySem.W.Frag) : Sp := fun vs H Q _ => ∃ (q c : Addr) (ns : List Int) (v : V) (d : PyData), vs = [.ref q, v] ∧ Pl q c ns H ∧ Dp K H v d ∧ d.depth < 5 ∧ nol d = true ∧ wid d = true ∧ ∀ v' H', Kp (atA q) H H' → Pl q c ns H' → Fm K H' v' d → Q v' H'
theorem ok_listed {f : Addr} {fd : FuncData} (B : Bl mg) (c_q_take : Cal P w K mg base 2 "_law_take" ["_law_pool_here", "_law_many"] spTake) (c_q_lists : Cal P w K mg base 6 "_law_lists" ["_law_value"] (spLists K 5)) (F : FnP K "_law_listed" s_q_listed f fd) (hm : mg "_law_listed" = some (.ref f)) : Cal P w K mg base 7 "_law_listed" ["_law_pool_here", "_law_value"] (spListed K) := by
  refine cal_mk F (F.ok sc_q_listed (fun vs H Q E h => ?_) (fun cdv A outer s H vs Q E hr h => ?_)) hm (fun _ _ _ _ _ _ us hl => match us, hl with | [_, _], _ => rfl) (fun _ _ _ _ _ _ us hl => match us, hl with | [_, _], _ => rfl)
  · obtain ⟨q, c, ns, v, d, rfl, _⟩ := h
    rfl
  · obtain ⟨q, c, ns, v, d, rfl, hp, hv, h1, h2, h3, k⟩ := h
    refine ⟨_, PSs.nox (pss_cons (ps_if (pt_cmpR op_gt (pe_u c_q_take hr (by omega) (by rfl) (pa_cons (pv 0) (pa_cons pe_int pa_nil))) pe_int (nomark _)) (pss_one (ps_ret (pv 1))) pss_nil) (pss_one (ps_ret (pe_u c_q_lists hr (by omega) (by rfl) (pa_cons (pv 1) pa_nil))))), ?_⟩
    refine ⟨_, rfl, q, c, ns, 3, rfl, hp, by decide, by decide, fun r H1 r0 r1 k1 p1 => ?_⟩
    have hv1 := dp_kp (envP.ns hp) k1 _ _ hv
    refine ⟨_, _, rfl, rfl, _, rfl, ite2 (fun e => ?_) (fun e => ?_)⟩
    · exact ⟨_, rfl, k _ _ k1 p1 (.inl hv1)⟩
    · exact ⟨_, rfl, v, d, rfl, hv1, h1, h2, h3, fun v' H' s1 d1 => k _ _ (k1.trans (Same.kp s1)) (envP.sm p1 s1) (.inr (d1 H' fun a u _ h => h))⟩
abbrev n_q_tokens : List Str := ["_law_pool_here", "_law_many", "_law_letters", "_law_letter", "_law_found", "_law_k", "_law_first", "_law_most", "_law_token", "_law_n"]
theorem sc_q_tokens : FnScope n_q_tokens ["_law_pool_here", "_law_many"] (defScope s_q_tokens) := ⟨rfl, rfl, rfl, by decide +kernel, rfl, by decide +kernel, by decide +kernel⟩

def spToks (K : PySem.W.Frag) : Sp := fun vs H Q _ => ∃ (q c : Addr) (ns : List Int) (m : Nat), vs = [.ref q, .int (m : Int)] ∧ Pl q c ns H ∧ m ≤ 5 ∧ ∀ (l : Addr) (ts : List Str) H', Kp (atA q) H H' → Pl q c ns H' → H' l = some (.lst (ts.map V.str)) → H l = none → ts.Nodup → (∀ t ∈ ts, Tok1 t) → ts.length ≤ 5 → Q (.ref l) H'
theorem ok_toks {f : Addr} {fd : FuncData} (B : Bl mg) (c_q_take : Cal P w K mg base 2 "_law_take" ["_law_pool_here", "_law_many"] spTake) (F : FnP K "_law_tokens" s_q_tokens f fd) (hm : mg "_law_tokens" = some (.ref f)) : Cal P w K mg base 3 "_law_tokens" ["_law_pool_here", "_law_many"] (spToks K) := by
  refine cal_mk F (F.ok sc_q_tokens (fun vs H Q E h => ?_) (fun cdv A outer s H vs Q E hr h => ?_)) hm (fun _ _ _ _ _ _ us hl => match us, hl with | [_, _], _ => rfl) (fun _ _ _ _ _ _ us hl => match us, hl with | [_, _], _ => rfl)
  · obtain ⟨q, c, ns, m, rfl, _⟩ := h
    rfl
  · obtain ⟨q, c, ns, m, rfl, hp, hm5, k⟩ := h
    refine ⟨_, PSs.nox (pss_cons (ps_set (i := 2) sc_q_tokens.nd rfl (.inl rfl) pe_str) (pss_cons (ps_set (i := 3) sc_q_tokens.nd rfl (.inl rfl) (pe_ix ix_str (pv 2) (pe_u c_q_take hr (by omega) (by rfl) (pa_cons (pv 0) (pa_cons pe_int pa_nil))) (fun _ _ => rfl))) (pss_cons (ps_set (i := 4) sc_q_tokens.nd rfl (.inr rfl) (pe_lst pa_nil)) (pss_cons (ps_for PassesOwn.never rfl (pi_range1 (by rfl) B.range (pa_cons (pv 1) pa_nil)) (pg_name (i := 5) sc_q_tokens.nd rfl (.inl rfl)) (pss_cons (ps_set (i := 6) sc_q_tokens.nd rfl (.inr rfl) (pe_ix ix_list (pe_lst (pa_cons (pv 3) (pa_cons (pv 3) (pa_cons (pe_ix ix_str (pv 2) (pe_u c_q_take hr (by omega) (by rfl) (pa_cons (pv 0) (pa_cons pe_int pa_nil))) (fun _ _ => rfl)) pa_nil)))) (pe_u c_q_take hr (by omega) (by rfl) (pa_cons (pv 0) (pa_cons pe_int pa_nil))) (fun _ _ => rfl))) (pss_cons (ps_set (i := 7) sc_q_tokens.nd rfl (.inl rfl) (pe_ix ix_list (pe_lst (pa_cons pe_int (pa_cons pe_int (pa_cons pe_int pa_nil)))) (pe_u c_q_take hr (by omega) (by rfl) (pa_cons (pv 0) (pa_cons pe_int pa_nil))) (fun _ _ => rfl))) (pss_cons (ps_set (i := 8) sc_q_tokens.nd rfl (.inl rfl) (pe_op op_add_str (pv 6) (pe_callTy call_str_int (by rfl) B.str (by decide +kernel) (pa_cons (pe_op op_add pe_int (pe_u c_q_take hr (by omega) (by rfl) (pa_cons (pv 0) (pa_cons (pv 7) pa_nil)))) pa_nil)))) (pss_cons (ps_if (pt_cmpR op_in_seq (pv 8) (pv 4) (by rfl)) (pss_one (ps_set (i := 8) sc_q_tokens.nd rfl (.inl rfl) (pe_ix ix_list (pe_lc (own := [("_law_n", 9)]) (g := _) (tt := (tTest (tOp (rIn K true) _ _))) (te := _) rfl sc_q_tokens.nd (pi_range2 (by rfl) B.range (pa_cons pe_int (pa_cons pe_int pa_nil))) (blkOk_by (N := n_q_tokens) (sc := defScope s_q_tokens) (by decide +kernel)) (fun _ _ _ _ _ => (pg_name (i := 9) sc_q_tokens.nd rfl (.inl rfl) (by first | exact .inl rfl | exact .inr rfl))) (fun _ _ _ _ _ => (pts_one (pt_cmpR op_notIn_seq (pe_op op_add_str (pv 6) (pe_callTy call_str_int (by rfl) B.str (by decide +kernel) (pa_cons (pv 9) pa_nil))) (pv 4) (by rfl)))) (fun _ _ _ _ _ => (pe_op op_add_str (pv 6) (pe_callTy call_str_int (by rfl) B.str (by decide +kernel) (pa_cons (pv 9) pa_nil))))) pe_int (fun _ _ => rfl)))) pss_nil) (pss_one (ps_expr (pe_bm PySem.F.plainAttrs_list PySem.F.slot_list_append PySem.F.type_list_append mt_append (pv 4) (pa_cons (pv 8) pa_nil))))))))) (pss_one (ps_ret (pv 4))))))), ?_⟩
    have lz : letters.length ≤ sizeLine := szn (by show letters.cps.size ≤ 100000; rw [← Array.length_toList, letters_len]; decide)
    refine ⟨_, rfl, _, rfl, q, c, ns, 26, rfl, hp, by decide, by decide, fun r H1 r0 r1 k1 p1 => ?_⟩
    obtain ⟨cc, hcc, hc1⟩ := letter_at r0 r1
    refine ⟨letters, r, cc, rfl, rfl, lz, hcc, ?_⟩
    refine ⟨Nat.zero_le _, fun l hl => ?_⟩
    have hl0 : H l = none := by
      cases hz : H l with
      | none => rfl
      | some o =>
        by_cases e : l = q
        · subst e
          obtain ⟨_, _, _, _, _, _, h, _⟩ := p1
          rw [h] at hl
          cases hl
        · rw [k1 l o e hz] at hl
          cases hl
    have p2 := envP.st p1 hl p1 (o := .lst [])
    have en : ((m : Nat) : Int).toNat = m := Int.toNat_natCast _
    refine ⟨_, rfl, (m : Int), rfl, by omega, by omega, for_it walk_range (fun i σ H2 => ∃ y5 y6 y7 y8 y9 ts, σ = [some (.ref q), some (.int (m : Int)), some (.str letters), some (.str ⟨#[cc]⟩), some (.ref l), y5, y6, y7, y8, y9] ∧ Kp (atA q) H H2 ∧ Pl q c ns H2 ∧ H2 l = some (.lst (ts.map V.str)) ∧ ts.Nodup ∧ (∀ t ∈ ts, Tok1 t) ∧ ts.length = i) ⟨_, _, _, _, _, [], rfl, k1.mut hl0, p2, upd_same, List.nodup_nil, fun _ h => by simp at h, rfl⟩ (fun _ _ _ _ _ => trivial) ?_ ?_⟩
    · rintro i x σ _ H2 hi ⟨y5, y6, y7, y8, y9, ts, rfl, k2, p2, h2, nd, ht, lt⟩ ⟨rfl, rfl⟩
      rw [en] at hi
      -- the first sign
      refine ⟨_, rfl, _, rfl, _, rfl, _, rfl, q, c, ns, 26, rfl, p2, by decide, by decide, fun r H3 r0 r1 k3 p3 => ?_⟩
      obtain ⟨c3, hc3, hcc3⟩ := letter_at r0 r1
      refine ⟨letters, r, c3, rfl, rfl, lz, hc3, sz3, fun l3 hl3 => ?_⟩
      have s3 := Same.new (o := .lst [V.str ⟨#[cc]⟩, V.str ⟨#[cc]⟩, V.str ⟨#[c3]⟩]) hl3
      refine ⟨_, rfl, q, c, ns, 3, rfl, envP.sm p3 s3, by decide, by decide, fun r4 H4 r40 r41 k4 p4 => ?_⟩
      have nl3 : l3 ≠ q := by
        obtain ⟨_, _, _, _, _, _, h, _⟩ := p3
        exact (ne_of_none h hl3).symm
      have h43 := k4 l3 _ nl3 (upd_same (H := H3) (a := l3) (o := .lst [V.str ⟨#[cc]⟩, V.str ⟨#[cc]⟩, V.str ⟨#[c3]⟩]))
      obtain ⟨cf, hcf, hcf1⟩ : ∃ cf, atI [V.str ⟨#[cc]⟩, V.str ⟨#[cc]⟩, V.str ⟨#[c3]⟩] r4 = some (V.str ⟨#[cf]⟩) ∧ cf < 0x110000 := by
        have : r4 = 0 ∨ r4 = 1 ∨ r4 = 2 := by omega
        rcases this with rfl | rfl | rfl
        · exact ⟨cc, atI_nat (j := 0) rfl, hc1⟩
        · exact ⟨cc, atI_nat (j := 1) rfl, hc1⟩
        · exact ⟨c3, atI_nat (j := 2) rfl, hcc3⟩
      refine ⟨l3, _, r4, _, rfl, rfl, .inl (.inl h43), hcf, ?_⟩
      -- the number
      refine ⟨sz3, fun l5 hl5 => ?_⟩
      have s5 := Same.new (o := .lst [V.int 12, V.int 130, V.int 9999]) hl5
      refine ⟨_, rfl, q, c, ns, 3, rfl, envP.sm p4 s5, by decide, by decide, fun r6 H6 r60 r61 k6 p6 => ?_⟩
      have nl5 : l5 ≠ q := by
        obtain ⟨_, _, _, _, _, _, h, _⟩ := p4
        exact (ne_of_none h hl5).symm
      have h65 := k6 l5 _ nl5 (upd_same (H := H4) (a := l5) (o := .lst [V.int 12, V.int 130, V.int 9999]))
      obtain ⟨mo, hmo, mo0, mo1⟩ : ∃ mo : Int, atI [V.int 12, V.int 130, V.int 9999] r6 = some (V.int mo) ∧ 0 < mo ∧ mo ≤ 9999 := by
        have : r6 = 0 ∨ r6 = 1 ∨ r6 = 2 := by omega
        rcases this with rfl | rfl | rfl
        · exact ⟨12, atI_nat (j := 0) rfl, by decide, by decide⟩
        · exact ⟨130, atI_nat (j := 1) rfl, by decide, by decide⟩
        · exact ⟨9999, atI_nat (j := 2) rfl, by decide, by decide⟩
      refine ⟨l5, _, r6, _, rfl, rfl, .inl (.inl h65), hmo, ?_⟩
      refine ⟨_, rfl, _, rfl, _, rfl, q, c, ns, mo, rfl, p6, mo0, by omega, fun r7 H7 r70 r71 k7 p7 => ?_⟩
      obtain ⟨nn, rfl⟩ := Int.eq_ofNat_of_zero_le r70
      have e1 : (1 : Int) + (nn : Int) = ((1 + nn : Nat) : Int) := by omega
      have nb : 1 + nn < 16384 := by omega
      have k27 : Kp (atA q) H2 H7 := (k3.trans (Same.kp s3)).trans (k4.trans ((Same.kp s5).trans (k6.trans k7)))
      have nlq : l ≠ q := by
        obtain ⟨_, _, _, _, _, _, h, _⟩ := p2
        exact ne_of h2 h (by intro z; cases z)
      have h7 := k27 l _ nlq h2
      have tl := num_len nb
      refine ⟨_, _, rfl, rfl, ((1 + nn : Nat) : Int), congrArg (fun z => [V.int z]) e1, ?_, _, _, rfl, rfl, ?_, ?_⟩
      · rw [Int.natAbs_natCast]
        exact (Nat.log2_lt (by omega)).mpr (Nat.lt_of_lt_of_le nb (by decide))
      · show 1 + (Str.ofString (toString ((1 + nn : Nat) : Int))).length ≤ sizeLine
        exact szn (by omega)
      refine ⟨_, rfl, _, rfl, l, _, rfl, .inl (.inl (.inl h7)), rfl, flat_strs _, _, rfl, ?_⟩
      show if inV (V.str (tokAt ⟨#[cf]⟩ (1 + nn))) (ts.map V.str) = true then _ else _
      rw [inV_strs]
      by_cases hin : tokAt ⟨#[cf]⟩ (1 + nn) ∈ ts
      · refine ifT (decide_eq_true hin) ?_
        refine ⟨1, 40, rfl, ⟨by decide, by decide, by decide, by decide⟩, ?_⟩
        have wk : Walk (Itr 1 ((40 : Int) - 1).toNat) 39 (fun _ => True) (YFn fun i => .int (1 + i)) := walk_range (lo := 1) (n := 39)
        refine lc_dat (K := K) wk env0 (H0 := H7) trivial (fun _ _ _ => trivial) PyData.str (fun _ => rfl) (fun i zs => (∀ z ∈ zs, z ∉ ts ∧ Tok1 z) ∧ (∀ j, j < i → tokAt ⟨#[cf]⟩ (1 + j) ∉ ts → zs ≠ [])) ⟨fun z h => by simp at h, fun j h => absurd h (Nat.not_lt_zero _)⟩ (by decide) ?_ ?_
        · rintro i2 x _ H8 zs Ry Rn hi2 ⟨iv1, iv2⟩ k8 _ ⟨rfl, rfl⟩ ry rn
          have e2 : (1 : Int) + (i2 : Int) = ((1 + i2 : Nat) : Int) := by omega
          have nb2 : 1 + i2 < 16384 := by omega
          have tl2 := num_len nb2
          have lg : ((1 + i2 : Nat) : Int).natAbs.log2 < 1920 := by
            rw [Int.natAbs_natCast]
            exact (Nat.log2_lt (by omega)).mpr (Nat.lt_of_lt_of_le nb2 (by decide))
          have ln : (⟨#[cf]⟩ : Str).length + (Str.ofString (toString ((1 + i2 : Nat) : Int))).length ≤ sizeLine := szn (by show 1 + _ ≤ 100000; omega)
          refine ⟨rfl, _, rfl, _, rfl, ((1 + i2 : Nat) : Int), congrArg (fun z => [V.int z]) e2, lg, _, _, rfl, rfl, ln, _, rfl, l, _, rfl, .inl (.inl (.inl (k8.same _ _ h7))), rfl, flat_strs _, _, rfl, ?_⟩
          show if (!inV (V.str (tokAt ⟨#[cf]⟩ (1 + i2))) (ts.map V.str)) = true then _ else _
          rw [inV_strs]
          by_cases hin2 : tokAt ⟨#[cf]⟩ (1 + i2) ∈ ts
          · refine ifF (by rw [decide_eq_true hin2]; rfl) (rn _ Kp.refl trivial ⟨iv1, fun j hj hn => ?_⟩)
            by_cases ej : j = i2
            · subst ej
              exact absurd hin2 hn
            · exact iv2 j (by omega) hn
          · refine ifT (by rw [decide_eq_false hin2]; rfl) ⟨_, rfl, _, rfl, ((1 + i2 : Nat) : Int), congrArg (fun z => [V.int z]) e2, lg, _, _, rfl, rfl, ln, ry _ _ (tokAt ⟨#[cf]⟩ (1 + i2)) Kp.refl trivial (.str _) ⟨fun z hz => ?_, fun j _ _ => by simp⟩⟩
            rcases List.mem_append.mp hz with hz | hz
            · exact iv1 z hz
            · obtain rfl : z = tokAt ⟨#[cf]⟩ (1 + i2) := by simpa using hz
              exact ⟨hin2, tok1 hcf1 _⟩
        · rintro D ws zs H8 hD k8 _ hw hz ⟨iv1, iv2⟩
          obtain ⟨j, hj, hjn⟩ := tok_left ⟨#[cf]⟩ ts (by omega)
          have hne := iv2 j hj hjn
          obtain ⟨z0, zr, rfl⟩ : ∃ z0 zr, zs = z0 :: zr := by
            cases zs with
            | nil => exact absurd rfl hne
            | cons z0 zr => exact ⟨z0, zr, rfl⟩
          have ew := dpl_strs_inv hz
          subst ew
          obtain ⟨hz0, hz1⟩ := iv1 z0 List.mem_cons_self
          refine ⟨D, _, 0, V.str z0, rfl, rfl, .inl (.inl hw), atI_nat (j := 0) rfl, ?_⟩
          have h8 := k8.same _ _ h7
          have kA := k2.trans (k27.trans (Same.kp k8.same))
          have pA := envP.sm p7 k8.same
          generalize z0 = tk at hz0 hz1
          refine ⟨_, rfl, .inl ⟨rfl, _, .inl (.inl h8)⟩, _, rfl, l, _, _, rfl, rfl, h8, ?_, ?_⟩
          · rw [List.length_map]
            exact szl (by omega)
          · refine ⟨_, _, _, _, _, ts ++ [tk], rfl, kA.mut hl0, envP.st p1 hl pA, ?_, ?_, ?_, ?_⟩
            · rw [upd_same, List.map_append]
              rfl
            · rw [List.nodup_append]
              exact ⟨nd, List.nodup_cons.mpr ⟨by simp, List.nodup_nil⟩, fun a ha b hb e => hz0 (by
                have : b = tk := by simpa using hb
                rw [← this, ← e]
                exact ha)⟩
            · intro t htm
              rcases List.mem_append.mp htm with htm | htm
              · exact ht t htm
              · obtain rfl : t = tk := by simpa using htm
                exact hz1
            · rw [List.length_append, lt]
              rfl
      · refine ifF (decide_eq_false hin) ?_
        have h8 := h7
        have kA := k2.trans k27
        have pA := p7
        have hz0 := hin
        have hz1 := tok1 hcf1 (1 + nn)
        generalize hT : tokAt ⟨#[cf]⟩ (1 + nn) = tk at hz0 hz1
        generalize H7 = H8 at h8 kA pA
        refine ⟨_, rfl, .inl ⟨rfl, _, .inl (.inl h8)⟩, _, rfl, l, _, V.str tk, rfl, congrArg (fun z => [V.str z]) hT, h8, ?_, ?_⟩
        · rw [List.length_map]
          exact szl (by omega)
        · refine ⟨_, _, _, _, _, ts ++ [tk], rfl, kA.mut hl0, envP.st p1 hl pA, ?_, ?_, ?_, ?_⟩
          · rw [upd_same, List.map_append]
            rfl
          · rw [List.nodup_append]
            exact ⟨nd, List.nodup_cons.mpr ⟨by simp, List.nodup_nil⟩, fun a ha b hb e => hz0 (by
              have : b = tk := by simpa using hb
              rw [← this, ← e]
              exact ha)⟩
          · intro t htm
            rcases List.mem_append.mp htm with htm | htm
            · exact ht t htm
            · obtain rfl : t = tk := by simpa using htm
              exact hz1
          · rw [List.length_append, lt]
            rfl
    · rintro σ H2 ⟨y5, y6, y7, y8, y9, ts, rfl, k2, p2, h2, nd, ht, lt⟩
      rw [en] at lt
      exact ⟨_, rfl, k l ts H2 k2 p2 h2 hl0 nd ht (by omega)⟩
end
end K8
/-! K8P4: persons, some of them, a value drawn. -/
namespace K8
open PySem PySem.Spec PyProof.Rows L2
section
variable {P : Program} {w : World} {K : PySem.W.Frag} {mg : Str → Option Value} {base : Heap}
theorem pl_ne {q c : Addr} {ns : List Int} {H : Hp} {l : Addr} {xs : List V} (p : Pl q c ns H) (h : H l = some (.lst xs)) : l ≠ q := by
  obtain ⟨_, _, _, _, _, _, hq, _⟩ := p
  exact ne_of h hq (by intro z; cases z)
theorem kp_none {M : Addr → Prop} {H H' : Hp} {a : Addr} (k : Kp M H H') (hm : ¬ M a) (h : H' a = none) : H a = none := by
  cases hz : H a with
  | none => rfl
  | some o =>
    rw [k a o hm hz] at h
    cases h
theorem pl_new {q c : Addr} {ns : List Int} {H : Hp} {l : Addr} (p : Pl q c ns H) (h : H l = none) : l ≠ q := by
  obtain ⟨_, _, _, _, _, _, hq, _⟩ := p
  exact (ne_of_none hq h).symm
abbrev n_q_persons : List Str := ["_law_pool_here", "_law_many", "_law_letters", "_law_found", "_law_k", "_law_word", "_law_j"]
theorem sc_q_persons : FnScope n_q_persons ["_law_pool_here", "_law_many"] (defScope s_q_persons) := ⟨rfl, rfl, rfl, by decide +kernel, rfl, by decide +kernel, by decide +kernel⟩

def spPersons (K : PySem.W.Frag) : Sp := fun vs H Q _ => ∃ (q c : Addr) (ns : List Int) (m : Nat), vs = [.ref q, .int (m : Int)] ∧ Pl q c ns H ∧ m ≤ 5 ∧ ∀ (v : V) (N : List Str) H', Kp (atA q) H H' → Pl q c ns H' → Dp K H' v (.tuple (N.map encStr.e)) → Pers N → N.length ≤ 5 → Q v H'
theorem ok_persons {f : Addr} {fd : FuncData} (B : Bl mg) (c_q_take : Cal P w K mg base 2 "_law_take" ["_law_pool_here", "_law_many"] spTake) (c_q_sorted : Cal P w K mg base 1 "_law_sorted" ["_law_rows"] (spSorted K)) (F : FnP K "_law_persons" s_q_persons f fd) (hm : mg "_law_persons" = some (.ref f)) : Cal P w K mg base 3 "_law_persons" ["_law_pool_here", "_law_many"] (spPersons K) := by
  refine cal_mk F (F.ok sc_q_persons (fun vs H Q E h => ?_) (fun cdv A outer s H vs Q E hr h => ?_)) hm (fun _ _ _ _ _ _ us hl => match us, hl with | [_, _], _ => rfl) (fun _ _ _ _ _ _ us hl => match us, hl with | [_, _], _ => rfl)
  · obtain ⟨q, c, ns, m, rfl, _⟩ := h
    rfl
  · obtain ⟨q, c, ns, m, rfl, hp, hm5, k⟩ := h
    refine ⟨_, PSs.nox (pss_cons (ps_set (i := 2) sc_q_persons.nd rfl (.inr rfl) pe_str) (pss_cons (ps_set (i := 3) sc_q_persons.nd rfl (.inl rfl) (pe_lst pa_nil)) (pss_cons (ps_for PassesOwn.never rfl (pi_range1 (by rfl) B.range (pa_cons (pv 1) pa_nil)) (pg_name (i := 4) sc_q_persons.nd rfl (.inl rfl)) (pss_cons (ps_set (i := 5) sc_q_persons.nd rfl (.inl rfl) (pe_join pe_str (pe_lc (own := [("_law_j", 6)]) (g := _) (tt := _) (te := (tOp _ _ (tU _ (tCons _ (tCons (tOp (rIxL K) _ _) _))))) rfl sc_q_persons.nd (pi_range1 (by rfl) B.range (pa_cons (pe_op op_add pe_int (pe_u c_q_take hr (by omega) (by rfl) (pa_cons (pv 0) (pa_cons pe_int pa_nil)))) pa_nil)) (blkOk_by (N := n_q_persons) (sc := defScope s_q_persons) (by decide +kernel)) (fun _ _ _ _ _ => (pg_name (i := 6) sc_q_persons.nd rfl (.inl rfl) (by first | exact .inl rfl | exact .inr rfl))) (fun _ _ _ _ _ => pts_nil) (fun _ _ _ _ _ => (pe_ix ix_str (pv 2) (pe_u c_q_take hr (by omega) (by rfl) (pa_cons (pv 0) (pa_cons (pe_ix ix_list (pe_lst (pa_cons pe_int (pa_cons pe_int pa_nil))) (pe_u c_q_take hr (by omega) (by rfl) (pa_cons (pv 0) (pa_cons pe_int pa_nil))) (fun _ _ => rfl)) pa_nil))) (fun _ _ => rfl)))))) (pss_one (ps_expr (pe_bm PySem.F.plainAttrs_list PySem.F.slot_list_append PySem.F.type_list_append mt_append (pv 3) (pa_cons (pv 5) pa_nil)))))) (pss_one (ps_ret (pe_callTy call_tuple_u (by rfl) B.tuple (by decide +kernel) (pa_cons (pe_u c_q_sorted hr (by omega) (by rfl) (pa_cons (pv 3) pa_nil)) pa_nil))))))), ?_⟩
    have lz : letters.length ≤ sizeLine := szn (by show letters.cps.size ≤ 100000; rw [← Array.length_toList, letters_len]; decide)
    refine ⟨Nat.zero_le _, fun l hl => ?_⟩
    have p1 := envP.st hp hl hp (o := .lst [])
    have en : ((m : Nat) : Int).toNat = m := Int.toNat_natCast _
    refine ⟨_, rfl, (m : Int), rfl, by omega, by omega, for_it walk_range (fun i σ H2 => ∃ y4 y5 y6 ts, σ = [some (.ref q), some (.int (m : Int)), some (.str letters), some (.ref l), y4, y5, y6] ∧ Kp (atA q) H H2 ∧ Pl q c ns H2 ∧ H2 l = some (.lst (ts.map V.str)) ∧ (∀ t ∈ ts, SOk t) ∧ ts.length = i) ⟨_, _, _, [], rfl, Kp.refl.mut hl, p1, upd_same, fun _ h => by simp at h, rfl⟩ (fun _ _ _ _ _ => trivial) ?_ ?_⟩
    · rintro i x σ _ H2 hi ⟨y4, y5, y6, ts, rfl, k2, p2, h2, ht, lt⟩ ⟨rfl, rfl⟩
      rw [en] at hi
      refine ⟨⟨_, rfl⟩, _, rfl, q, c, ns, 8, rfl, p2, by decide, by decide, fun r H3 r0 r1 k3 p3 => ?_⟩
      obtain ⟨nn, rfl⟩ := Int.eq_ofNat_of_zero_le r0
      refine ⟨_, _, rfl, rfl, (1 : Int) + (nn : Int), rfl, by omega, by omega, ?_⟩
      have en2 : ((1 : Int) + (nn : Int)).toNat = 1 + nn := by omega
      have wk : Walk (Itr 0 ((1 : Int) + (nn : Int)).toNat) (1 + nn) (fun _ => True) (YFn fun i => .int (0 + i)) := by
        rw [en2]
        exact walk_range
      refine lc_dat (K := K) wk (envP (q := q) (c := c) (ns := ns)) (H0 := H3) p3 (fun _ _ _ => trivial) PyData.str (fun _ => rfl) (fun i zs => zs.length ≤ i ∧ ∀ z ∈ zs, PyData.strOk z = true ∧ z.length = 1) ⟨Nat.le_refl _, fun z h => by simp at h⟩ (by omega) ?_ ?_
      · rintro j x _ H4 zs Ry Rn hj ⟨iv0, iv⟩ k4 p4 ⟨rfl, rfl⟩ ry rn
        refine ⟨rfl, _, rfl, _, rfl, sz2, fun l5 hl5 => ?_⟩
        have s5 := Same.new (o := .lst [V.int 3, V.int 26]) hl5
        refine ⟨_, rfl, q, c, ns, 2, rfl, envP.sm p4 s5, by decide, by decide, fun r6 H6 r60 r61 k6 p6 => ?_⟩
        have h65 := k6 l5 _ (pl_new p4 hl5) (upd_same (H := H4) (a := l5) (o := .lst [V.int 3, V.int 26]))
        obtain ⟨mo, hmo, mo0, mo1⟩ : ∃ mo : Int, atI [V.int 3, V.int 26] r6 = some (V.int mo) ∧ 0 < mo ∧ mo ≤ 26 := by
          have : r6 = 0 ∨ r6 = 1 := by omega
          rcases this with rfl | rfl
          · exact ⟨3, atI_nat (j := 0) rfl, by decide, by decide⟩
          · exact ⟨26, atI_nat (j := 1) rfl, by decide, by decide⟩
        refine ⟨l5, _, r6, _, rfl, rfl, .inl (.inl h65), hmo, q, c, ns, mo, rfl, p6, mo0, by omega, fun r7 H7 r70 r71 k7 p7 => ?_⟩
        obtain ⟨c7, hc7, hcc7⟩ := letter_at r70 (by omega : r7 < 26)
        refine ⟨letters, r7, c7, rfl, rfl, lz, hc7, ?_⟩
        refine ry _ H7 ⟨#[c7]⟩ ((Same.kp s5).trans (k6.trans k7)) p7 (.str _) ⟨by rw [List.length_append]; exact Nat.succ_le_succ iv0, fun z hz => ?_⟩
        rcases List.mem_append.mp hz with hz | hz
        · exact iv z hz
        · obtain rfl : z = ⟨#[c7]⟩ := by simpa using hz
          exact ⟨ok_one hcc7, rfl⟩
      · rintro D ws zs H4 hD k4 p4 hw hz ⟨iv0, iv⟩
        have ew := dpl_strs_inv hz
        subst ew
        have hsum : (zs.map (·.length)).sum ≤ zs.length := by
          have key : ∀ {ys : List Str}, (∀ z ∈ ys, z.length = 1) → (ys.map (·.length)).sum = ys.length := by
            intro ys h
            induction ys with
            | nil => rfl
            | cons y ys ih =>
              rw [List.map_cons, List.sum_cons, ih fun z hz => h z (List.mem_cons_of_mem _ hz), h y List.mem_cons_self, List.length_cons]
              omega
          rw [key fun z hz => (iv z hz).2]
          exact Nat.le_refl _
        have e0 : (Str.ofString "").length = 0 := by
          rw [Str.ofString_eq_toList]
          rfl
        refine ⟨_, D, zs, rfl, rfl, .inl (.inl (.inl hw)), by rw [e0]; omega, ?_⟩
        have ok := ok_join fun y hy => (iv y hy).1
        generalize Txt.join "" zs = wd at ok
        have k24 := k3.trans k4
        have h4 := k24 l _ (pl_ne p2 h2) h2
        refine ⟨_, rfl, .inl ⟨rfl, _, .inl (.inl h4)⟩, _, rfl, l, _, _, rfl, rfl, h4, ?_, ?_⟩
        · rw [List.length_map]
          exact szl (by omega)
        · refine ⟨_, _, _, ts ++ [wd], rfl, (k2.trans k24).mut hl, envP.st hp hl p4, ?_, ?_, ?_⟩
          · rw [upd_same, List.map_append]
            rfl
          · intro t htm
            rcases List.mem_append.mp htm with htm | htm
            · exact ht t htm
            · obtain rfl : t = wd := by simpa using htm
              exact sok_of ok
          · rw [List.length_append, lt]
            rfl
    · rintro σ H2 ⟨y4, y5, y6, ts, rfl, k2, p2, h2, ht, lt⟩
      rw [en] at lt
      refine ⟨_, rfl, l, Str, inferInstance, encStr, _, ts, rfl, .inl (.inl h2), dp_strs _, encOk_str ht, by omega, fun l2 ws H3 s3 hl2 hws => ?_⟩
      have ln := lsort_length (E := encStr) ts []
      simp only [List.length_nil, Nat.zero_add] at ln
      have ln2 : (lsort encStr ts).length ≤ 5 := Nat.le_trans ln (by omega)
      refine ⟨l2, ws, rfl, .inl (.inl (.inl hl2)), fun t H4 s4 h4 => ?_⟩
      have s34 := same_trans s3 s4
      exact k _ (lsort encStr ts) H4 (k2.trans (Same.kp s34)) (envP.sm p2 s34) (dp_tup h4 (hws.same s4)) ⟨lsort_rising ts, fun x hx => ht x (lsort_mem.mp hx), by omega⟩ ln2
theorem sub_filter {N : List Str} (nd : N.Nodup) (f : Str → Bool) (i : Nat) (x : Str) (hx : N[i]? = some x) (b : Bool) : (N.take i).filter f ++ (if b = true then [x] else []) = (N.take (i + 1)).filter (fun z => if z = x then b else f z) := by
  rw [take_snoc hx, List.filter_append]
  congr 1
  · refine List.filter_congr fun z hz => ?_
    rw [if_neg]
    intro e
    subst e
    have h1 : (N.take (i + 1)).Nodup := List.Sublist.nodup (List.take_sublist _ _) nd
    rw [take_snoc hx, List.nodup_append] at h1
    exact h1.2.2 z hz z List.mem_cons_self rfl
  · rw [List.filter_cons, List.filter_nil, if_pos rfl]
abbrev n_q_some : List Str := ["_law_pool_here", "_law_persons_here", "_law_one_here"]
theorem sc_q_some : FnScope n_q_some ["_law_pool_here", "_law_persons_here"] (defScope s_q_some) := ⟨rfl, rfl, rfl, by decide +kernel, rfl, by decide +kernel, by decide +kernel⟩

def spSome (K : PySem.W.Frag) : Sp := fun vs H Q _ => ∃ (q c : Addr) (ns : List Int) (v : V) (N : List Str), vs = [.ref q, v] ∧ Pl q c ns H ∧ Pers N ∧ Dp K H v (.tuple (N.map encStr.e)) ∧ ∀ (v' : V) (f : Str → Bool) H', Kp (atA q) H H' → Pl q c ns H' → Dp K H' v' (eSub N f) → Q v' H'
theorem ok_some {f : Addr} {fd : FuncData} (B : Bl mg) (c_q_take : Cal P w K mg base 2 "_law_take" ["_law_pool_here", "_law_many"] spTake) (F : FnP K "_law_some" s_q_some f fd) (hm : mg "_law_some" = some (.ref f)) : Cal P w K mg base 3 "_law_some" ["_law_pool_here", "_law_persons_here"] (spSome K) := by
  refine cal_mk F (F.ok sc_q_some (fun vs H Q E h => ?_) (fun cdv A outer s H vs Q E hr h => ?_)) hm (fun _ _ _ _ _ _ us hl => match us, hl with | [_, _], _ => rfl) (fun _ _ _ _ _ _ us hl => match us, hl with | [_, _], _ => rfl)
  · obtain ⟨q, c, ns, v, N, rfl, _⟩ := h
    rfl
  · obtain ⟨q, c, ns, v, N, rfl, hp, hN, hv, k⟩ := h
    refine ⟨_, PSs.nox (pss_one (ps_ret (pe_callTy call_tuple_u (by rfl) B.tuple (by decide +kernel) (pa_cons (pe_lc (own := [("_law_one_here", 2)]) (g := _) (tt := _) (te := _) rfl sc_q_some.nd (pi_seq (pv 1)) (blkOk_by (N := n_q_some) (sc := defScope s_q_some) (by decide +kernel)) (fun _ _ _ _ _ => (pg_name (i := 2) sc_q_some.nd rfl (.inl rfl) (by first | exact .inl rfl | exact .inr rfl))) (fun _ _ _ _ _ => (pts_one (pt_cmpR op_gt (pe_u c_q_take hr (by omega) (by rfl) (pa_cons (pv 0) (pa_cons pe_int pa_nil))) pe_int (nomark _)))) (fun _ _ _ _ _ => (pv 2))) pa_nil)))), ?_⟩
    obtain ⟨a, us, rfl, ha, hus⟩ := dp_tup_inv hv
    have eu := dpl_strs_inv hus
    subst eu
    refine ⟨_, rfl, a, rfl, .inr ⟨⟨_, ha⟩, ?_⟩⟩
    refine lc_dat (K := K) (walk_tup (K := K) (a := a) (xs := N.map V.str)) (envP (q := q) (c := c) (ns := ns)) (H0 := H) hp (fun H' k1 _ => kp_t (envP.ns hp) k1 ha) PyData.str (fun _ => rfl) (fun i zs => ∃ g : Str → Bool, zs = (N.take i).filter g) ⟨fun _ => true, rfl⟩ (by rw [List.length_map]; have := hN.len; omega) ?_ ?_
    · rintro i u _ H2 zs Ry Rn hi ⟨g, rfl⟩ k2 p2 ⟨rfl, hu⟩ ry rn
      rw [List.getElem?_map] at hu
      cases hz : N[i]? with
      | none =>
        rw [hz] at hu
        cases hu
      | some z =>
        rw [hz] at hu
        obtain rfl : V.str z = u := Option.some.inj hu
        refine ⟨rfl, _, rfl, q, c, ns, 3, rfl, p2, by decide, by decide, fun r H3 r0 r1 k3 p3 => ⟨_, _, rfl, rfl, _, rfl, ?_⟩⟩
        have nd := rising_nodup hN.up
        cases hd : decide ((0 : Int) < r) with
        | true =>
          refine iteT ⟨_, rfl, ry _ _ z k3 p3 (.str _) ⟨_, sub_filter nd g i z hz true⟩⟩
        | false =>
          refine iteF (rn _ k3 p3 ⟨fun y => if y = z then false else g y, ?_⟩)
          have := sub_filter nd g i z hz false
          rwa [if_neg Bool.false_ne_true, List.append_nil] at this
    · rintro D ws zs H2 hD k2 p2 hw hz ⟨g, rfl⟩
      rw [List.length_map, List.take_length] at hz
      refine ⟨D, ws, rfl, .inl (.inl (.inl hw)), fun t H3 s3 h3 => ?_⟩
      exact k _ g H3 (k2.trans (Same.kp s3)) (envP.sm p2 s3) (dp_tup h3 (hz.same s3))
abbrev n_q_drawn_value : List Str := ["_law_pool_here", "_law_measure", "_law_persons_here"]
theorem sc_q_drawn_value : FnScope n_q_drawn_value ["_law_pool_here", "_law_measure", "_law_persons_here"] (defScope s_q_drawn_value) := ⟨rfl, rfl, rfl, by decide +kernel, rfl, by decide +kernel, by decide +kernel⟩

def spDVal (K : PySem.W.Frag) : Sp := fun vs H Q _ => ∃ (q c : Addr) (ns : List Int) (m : Ms) (v : V) (N : List Str), vs = [.ref q, .str m.nm, v] ∧ Pl q c ns H ∧ Pers N ∧ Dp K H v (.tuple (N.map encStr.e)) ∧ ∀ (v' : V) (x : m.car) H', Kp (atA q) H H' → Pl q c ns H' → Dp K H' v' (m.enc N x) → m.sm x → Q v' H'
theorem cases4 {r : Int} (h0 : 0 ≤ r) (h1 : r < 4) : r = 0 ∨ r = 1 ∨ r = 2 ∨ r = 3 := by omega
theorem ok_dval {f : Addr} {fd : FuncData} (B : Bl mg) (c_q_take : Cal P w K mg base 2 "_law_take" ["_law_pool_here", "_law_many"] spTake) (c_q_some : Cal P w K mg base 3 "_law_some" ["_law_pool_here", "_law_persons_here"] (spSome K)) (F : FnP K "_law_drawn_value" s_q_drawn_value f fd) (hm : mg "_law_drawn_value" = some (.ref f)) : Cal P w K mg base 4 "_law_drawn_value" ["_law_pool_here", "_law_measure", "_law_persons_here"] (spDVal K) := by
  refine cal_mk F (F.ok sc_q_drawn_value (fun vs H Q E h => ?_) (fun cdv A outer s H vs Q E hr h => ?_)) hm (fun _ _ _ _ _ _ us hl => match us, hl with | [_, _, _], _ => rfl) (fun _ _ _ _ _ _ us hl => match us, hl with | [_, _, _], _ => rfl)
  · obtain ⟨q, c, ns, m, v, N, rfl, _⟩ := h
    rfl
  · obtain ⟨q, c, ns, m, v, N, rfl, hp, hN, hv, k⟩ := h
    refine ⟨_, PSs.nox (pss_cons (ps_if (pt_cmpR op_eq (pv 1) pe_str (nomark _)) (pss_one (ps_ret (pe_ix ix_list (pe_lst (pa_cons pe_int (pa_cons pe_int (pa_cons (pe_u c_q_take hr (by omega) (by rfl) (pa_cons (pv 0) (pa_cons pe_int pa_nil))) (pa_cons (pe_u c_q_take hr (by omega) (by rfl) (pa_cons (pv 0) (pa_cons (pe_op op_pow pe_int pe_int) pa_nil))) pa_nil))))) (pe_u c_q_take hr (by omega) (by rfl) (pa_cons (pv 0) (pa_cons pe_int pa_nil))) (fun _ _ => rfl)))) pss_nil) (pss_cons (ps_if (pt_cmpR op_eq (pv 1) pe_str (nomark _)) (pss_one (ps_ret (pe_ix ix_list (pe_lst (pa_cons pe_non (pa_cons pe_int (pa_cons (pe_u c_q_take hr (by omega) (by rfl) (pa_cons (pv 0) (pa_cons pe_int pa_nil))) (pa_cons (pe_u c_q_take hr (by omega) (by rfl) (pa_cons (pv 0) (pa_cons (pe_op op_pow pe_int pe_int) pa_nil))) pa_nil))))) (pe_u c_q_take hr (by omega) (by rfl) (pa_cons (pv 0) (pa_cons pe_int pa_nil))) (fun _ _ => rfl)))) pss_nil) (pss_cons (ps_if (pt_cmpR op_eq (pv 1) pe_str (nomark _)) (pss_one (ps_ret (pe_ix ix_list (pe_lst (pa_cons pe_int (pa_cons pe_int (pa_cons (pe_u c_q_take hr (by omega) (by rfl) (pa_cons (pv 0) (pa_cons pe_int pa_nil))) (pa_cons (pe_u c_q_take hr (by omega) (by rfl) (pa_cons (pv 0) (pa_cons pe_int pa_nil))) pa_nil))))) (pe_u c_q_take hr (by omega) (by rfl) (pa_cons (pv 0) (pa_cons pe_int pa_nil))) (fun _ _ => rfl)))) pss_nil) (pss_cons (ps_if (pt_cmpR op_eq (pv 1) pe_str (nomark _)) (pss_one (ps_ret (pe_cmpR op_gt (pe_u c_q_take hr (by omega) (by rfl) (pa_cons (pv 0) (pa_cons pe_int pa_nil))) pe_int (nomark _)))) pss_nil) (pss_one (ps_ret (pe_u c_q_some hr (by omega) (by rfl) (pa_cons (pv 0) (pa_cons (pv 2) pa_nil))))))))), ?_⟩
    cases m with
    | count =>
      refine ⟨_, rfl, rfl, _, rfl, ifT (by decide +kernel) ?_⟩
      refine ⟨_, rfl, q, c, ns, 9, rfl, hp, by decide, by decide, fun r1 H1 a1 b1 k1 p1 => ?_⟩
      refine ⟨_, rfl, _, _, rfl, rfl, ⟨by decide, by decide, by decide⟩, q, c, ns, 1000000, rfl, p1, by decide, by decide, fun r2 H2 a2 b2 k2 p2 => ?_⟩
      refine ⟨sz4, fun l hl => ?_⟩
      have s3 := Same.new (o := .lst [V.int 0, V.int 1, V.int r1, V.int r2]) hl
      refine ⟨_, rfl, q, c, ns, 4, rfl, envP.sm p2 s3, by decide, by decide, fun r4 H4 a4 b4 k4 p4 => ?_⟩
      have h4 := k4 l _ (pl_new p2 hl) (upd_same (H := H2) (a := l) (o := .lst [V.int 0, V.int 1, V.int r1, V.int r2]))
      have kA := k1.trans (k2.trans ((Same.kp s3).trans k4))
      obtain ⟨n, hn, hn6⟩ : ∃ n : Nat, atI [V.int 0, V.int 1, V.int r1, V.int r2] r4 = some (V.int (n : Int)) ∧ n ≤ 10 ^ 6 := by
        obtain ⟨n1, rfl⟩ := Int.eq_ofNat_of_zero_le a1
        obtain ⟨n2, rfl⟩ := Int.eq_ofNat_of_zero_le a2
        rcases cases4 a4 b4 with rfl | rfl | rfl | rfl
        · exact ⟨0, atI_nat (j := 0) rfl, by decide⟩
        · exact ⟨1, atI_nat (j := 1) rfl, by decide⟩
        · exact ⟨n1, atI_nat (j := 2) rfl, by omega⟩
        · exact ⟨n2, atI_nat (j := 3) rfl, by omega⟩
      exact ⟨l, _, r4, _, rfl, rfl, .inl (.inl h4), hn, k _ (show Nat from n) H4 kA p4 (.int _) hn6⟩
    | cost =>
      refine ⟨_, rfl, rfl, _, rfl, ifF (by decide +kernel) ⟨_, rfl, rfl, _, rfl, ifT (by decide +kernel) ?_⟩⟩
      refine ⟨_, rfl, q, c, ns, 20, rfl, hp, by decide, by decide, fun r1 H1 a1 b1 k1 p1 => ?_⟩
      refine ⟨_, rfl, _, _, rfl, rfl, ⟨by decide, by decide, by decide⟩, q, c, ns, 1000000, rfl, p1, by decide, by decide, fun r2 H2 a2 b2 k2 p2 => ?_⟩
      refine ⟨sz4, fun l hl => ?_⟩
      have s3 := Same.new (o := .lst [V.non, V.int 0, V.int r1, V.int r2]) hl
      refine ⟨_, rfl, q, c, ns, 4, rfl, envP.sm p2 s3, by decide, by decide, fun r4 H4 a4 b4 k4 p4 => ?_⟩
      have h4 := k4 l _ (pl_new p2 hl) (upd_same (H := H2) (a := l) (o := .lst [V.non, V.int 0, V.int r1, V.int r2]))
      have kA := k1.trans (k2.trans ((Same.kp s3).trans k4))
      obtain ⟨o, ho⟩ : ∃ o : Option Nat, atI [V.non, V.int 0, V.int r1, V.int r2] r4 = some (vOpt o) := by
        obtain ⟨n1, rfl⟩ := Int.eq_ofNat_of_zero_le a1
        obtain ⟨n2, rfl⟩ := Int.eq_ofNat_of_zero_le a2
        rcases cases4 a4 b4 with rfl | rfl | rfl | rfl
        · exact ⟨none, atI_nat (j := 0) rfl⟩
        · exact ⟨some 0, atI_nat (j := 1) rfl⟩
        · exact ⟨some n1, atI_nat (j := 2) rfl⟩
        · exact ⟨some n2, atI_nat (j := 3) rfl⟩
      exact ⟨l, _, r4, _, rfl, rfl, .inl (.inl h4), ho, k _ (show Option Nat from o) H4 kA p4 (dp_opt o) trivial⟩
    | trust =>
      refine ⟨_, rfl, rfl, _, rfl, ifF (by decide +kernel) ⟨_, rfl, rfl, _, rfl, ifF (by decide +kernel) ⟨_, rfl, rfl, _, rfl, ifT (by decide +kernel) ?_⟩⟩⟩
      refine ⟨_, rfl, q, c, ns, 101, rfl, hp, by decide, by decide, fun r1 H1 a1 b1 k1 p1 => ?_⟩
      refine ⟨_, rfl, q, c, ns, 101, rfl, p1, by decide, by decide, fun r2 H2 a2 b2 k2 p2 => ?_⟩
      refine ⟨sz4, fun l hl => ?_⟩
      have s3 := Same.new (o := .lst [V.int 0, V.int 100, V.int r1, V.int r2]) hl
      refine ⟨_, rfl, q, c, ns, 4, rfl, envP.sm p2 s3, by decide, by decide, fun r4 H4 a4 b4 k4 p4 => ?_⟩
      have h4 := k4 l _ (pl_new p2 hl) (upd_same (H := H2) (a := l) (o := .lst [V.int 0, V.int 100, V.int r1, V.int r2]))
      have kA := k1.trans (k2.trans ((Same.kp s3).trans k4))
      obtain ⟨n, hn, hn6⟩ : ∃ n : Nat, atI [V.int 0, V.int 100, V.int r1, V.int r2] r4 = some (V.int (n : Int)) ∧ n ≤ 100 := by
        obtain ⟨n1, rfl⟩ := Int.eq_ofNat_of_zero_le a1
        obtain ⟨n2, rfl⟩ := Int.eq_ofNat_of_zero_le a2
        rcases cases4 a4 b4 with rfl | rfl | rfl | rfl
        · exact ⟨0, atI_nat (j := 0) rfl, by decide⟩
        · exact ⟨100, atI_nat (j := 1) rfl, by decide⟩
        · exact ⟨n1, atI_nat (j := 2) rfl, by omega⟩
        · exact ⟨n2, atI_nat (j := 3) rfl, by omega⟩
      exact ⟨l, _, r4, _, rfl, rfl, .inl (.inl h4), hn, k _ (show Pct from ⟨n, hn6⟩) H4 kA p4 (.int _) trivial⟩
    | there =>
      refine ⟨_, rfl, rfl, _, rfl, ifF (by decide +kernel) ⟨_, rfl, rfl, _, rfl, ifF (by decide +kernel) ⟨_, rfl, rfl, _, rfl, ifF (by decide +kernel) ⟨_, rfl, rfl, _, rfl, ifT (by decide +kernel) ?_⟩⟩⟩⟩
      exact ⟨_, rfl, q, c, ns, 3, rfl, hp, by decide, by decide, fun r1 H1 a1 b1 k1 p1 => ⟨_, _, rfl, rfl, k _ (decide ((0 : Int) < r1)) H1 k1 p1 (.bl _) trivial⟩⟩
    | seen =>
      refine ⟨_, rfl, rfl, _, rfl, ifF (by decide +kernel) ⟨_, rfl, rfl, _, rfl, ifF (by decide +kernel) ⟨_, rfl, rfl, _, rfl, ifF (by decide +kernel) ⟨_, rfl, rfl, _, rfl, ifF (by decide +kernel) ?_⟩⟩⟩⟩
      exact ⟨_, rfl, _, rfl, q, c, ns, v, N, rfl, hp, hN, hv, fun v' g H' k1 p1 d1 => k v' (show Str → Bool from g) H' k1 p1 d1 trivial⟩
end
end K8
/-! K8P5: a polynomial drawn. -/
namespace K8
open PySem PySem.Spec PyProof.Rows L2
section
variable {P : Program} {w : World} {K : PySem.W.Frag} {mg : Str → Option Value} {base : Heap}
/-- what a drawn term is -/
structure TermOk (toks : List Str) (t : Mono × Nat) : Prop where
  ok : MonoOk t.1
  dg : csum t.1 ≤ 9
  ks : ∀ k ∈ keys t.1, k ∈ toks
  lo : 1 ≤ t.2
  hi : t.2 ≤ 4
theorem csum_le4 {toks : List Str} : ∀ {ts : Poly}, (∀ t ∈ ts, TermOk toks t) → csum ts ≤ 4 * ts.length
  | [], _ => Nat.le_refl _
  | t :: ts, h => by
    have a := (h t List.mem_cons_self).hi
    have b := csum_le4 (ts := ts) fun x hx => h x (List.mem_cons_of_mem _ hx)
    rw [csum_cons, List.length_cons]
    omega
theorem drawn_small {toks : List Str} {ts : Poly} (h : ∀ t ∈ ts, TermOk toks t) (hl : ts.length ≤ 5) : Small (fun k => k ∈ toks) 5 20 9 (canon encMono (tally [] ts)) := by
  have pos : PosN ts := fun t m => (h t m).lo
  refine ⟨canon_poly_ok pos fun t m => (h t m).ok, Nat.le_trans canon_len hl, ?_, fun t m => ?_, fun t m k hk => ?_⟩
  · rw [csum_canon encMono pos]
    have := csum_le4 h
    omega
  · obtain ⟨u, hu, e⟩ := List.mem_map.mp (mem_canon_tally m)
    rw [← e]
    exact (h u hu).dg
  · obtain ⟨u, hu, e⟩ := List.mem_map.mp (mem_canon_tally m)
    rw [← e] at hk
    exact (h u hu).ks k hk
theorem mono_nil : MonoOk [] := ⟨List.Pairwise.nil, fun _ h => by simp at h⟩
abbrev n_q_drawn_poly : List Str := ["_law_pool_here", "_law_tokens_here", "_law_most", "_law_terms", "_law_k", "_law_monomial", "_law_j"]
theorem sc_q_drawn_poly : FnScope n_q_drawn_poly ["_law_pool_here", "_law_tokens_here", "_law_most"] (defScope s_q_drawn_poly) := ⟨rfl, rfl, rfl, by decide +kernel, rfl, by decide +kernel, by decide +kernel⟩

def spDPoly (K : PySem.W.Frag) : Sp := fun vs H Q _ => ∃ (q c tl : Addr) (ns : List Int) (toks : List Str), vs = [.ref q, .ref tl, .int 5] ∧ Pl q c ns H ∧ H tl = some (.lst (toks.map V.str)) ∧ (∀ t ∈ toks, SOk t) ∧ toks.length ≤ 5 ∧ ∀ v' p H', Kp (atA q) H H' → Pl q c ns H' → Dp K H' v' (ePoly p) → Small (fun k => k ∈ toks) 5 20 9 p → Q v' H'
theorem ok_dpoly {f : Addr} {fd : FuncData} (B : Bl mg) (c_q_take : Cal P w K mg base 2 "_law_take" ["_law_pool_here", "_law_many"] spTake) (c_q_product : Cal P w K mg base 2 "_law_product" ["_law_one_here", "_law_other"] (spProd K)) (c_q_poly : Cal P w K mg base 2 "_law_poly" ["_law_terms"] (spPoly K)) (F : FnP K "_law_drawn_poly" s_q_drawn_poly f fd) (hm : mg "_law_drawn_poly" = some (.ref f)) : Cal P w K mg base 3 "_law_drawn_poly" ["_law_pool_here", "_law_tokens_here", "_law_most"] (spDPoly K) := by
  refine cal_mk F (F.ok sc_q_drawn_poly (fun vs H Q E h => ?_) (fun cdv A outer s H vs Q E hr h => ?_)) hm (fun _ _ _ _ _ _ us hl => match us, hl with | [_, _, _], _ => rfl) (fun _ _ _ _ _ _ us hl => match us, hl with | [_, _, _], _ => rfl)
  · obtain ⟨q, c, tl, ns, toks, rfl, _⟩ := h
    rfl
  · obtain ⟨q, c, tl, ns, toks, rfl, hp, htl, hok, htn, k⟩ := h
    refine ⟨_, PSs.nox (pss_cons (ps_set (i := 3) sc_q_drawn_poly.nd rfl (.inl rfl) (pe_lst pa_nil)) (pss_cons (ps_for PassesOwn.never rfl (pi_range1 (by rfl) B.range (pa_cons (pe_ix ix_list (pe_lst (pa_cons pe_int (pa_cons pe_int (pa_cons pe_int (pa_cons (pe_u c_q_take hr (by omega) (by rfl) (pa_cons (pv 0) (pa_cons (pe_op op_add (pv 2) pe_int) pa_nil))) (pa_cons (pv 2) pa_nil)))))) (pe_u c_q_take hr (by omega) (by rfl) (pa_cons (pv 0) (pa_cons pe_int pa_nil))) (fun _ _ => rfl)) pa_nil)) (pg_name (i := 4) sc_q_drawn_poly.nd rfl (.inl rfl)) (pss_cons (ps_set (i := 5) sc_q_drawn_poly.nd rfl (.inl rfl) (pe_tup pa_nil)) (pss_cons (ps_for PassesOwn.never rfl (pi_range1 (by rfl) B.range (pa_cons (pe_ix ix_list (pe_lst (pa_cons pe_int (pa_cons pe_int (pa_cons pe_int (pa_cons pe_int (pa_cons pe_int pa_nil)))))) (pe_u c_q_take hr (by omega) (by rfl) (pa_cons (pv 0) (pa_cons pe_int pa_nil))) (fun _ _ => rfl)) pa_nil)) (pg_name (i := 6) sc_q_drawn_poly.nd rfl (.inl rfl)) (pss_one (ps_if (pt_cmpR op_gt (pe_callB call_len_seq (by rfl) B.len (by decide +kernel) (pa_cons (pv 1) pa_nil)) pe_int (nomark _)) (pss_one (ps_set (i := 5) sc_q_drawn_poly.nd rfl (.inl rfl) (pe_u c_q_product hr (by omega) (by rfl) (pa_cons (pv 5) (pa_cons (pe_tup (pa_cons (pe_tup (pa_cons (pe_ix ix_list (pv 1) (pe_u c_q_take hr (by omega) (by rfl) (pa_cons (pv 0) (pa_cons (pe_callB call_len_seq (by rfl) B.len (by decide +kernel) (pa_cons (pv 1) pa_nil)) pa_nil))) (fun _ _ => rfl)) (pa_cons (pe_op op_add pe_int (pe_u c_q_take hr (by omega) (by rfl) (pa_cons (pv 0) (pa_cons pe_int pa_nil)))) pa_nil))) pa_nil)) pa_nil))))) pss_nil))) (pss_one (ps_expr (pe_bm PySem.F.plainAttrs_list PySem.F.slot_list_append PySem.F.type_list_append mt_append (pv 3) (pa_cons (pe_tup (pa_cons (pv 5) (pa_cons (pe_op op_add pe_int (pe_u c_q_take hr (by omega) (by rfl) (pa_cons (pv 0) (pa_cons pe_int pa_nil)))) pa_nil))) pa_nil))))))) (pss_one (ps_ret (pe_u c_q_poly hr (by omega) (by rfl) (pa_cons (pv 3) pa_nil)))))), ?_⟩
    refine ⟨Nat.zero_le _, fun l hl => ?_⟩
    have p0 := envP.st hp hl hp (o := .lst [])
    have k0 : Kp (atA q) H (upd H l (.lst [])) := Kp.refl.mut hl
    have ntl : tl ≠ l := ne_of_none htl hl
    have nql : tl ≠ q := pl_ne hp htl
    refine ⟨_, rfl, _, rfl, _, _, rfl, rfl, q, c, ns, 6, rfl, p0, by decide, by decide, fun r1 H1 a1 b1 k1 p1 => ?_⟩
    refine ⟨_, rfl, sz5, fun l2 hl2 => ?_⟩
    have s2 := Same.new (o := .lst [V.int 0, V.int 1, V.int 2, V.int r1, V.int 5]) hl2
    refine ⟨_, rfl, q, c, ns, 5, rfl, envP.sm p1 s2, by decide, by decide, fun r3 H3 a3 b3 k3 p3 => ?_⟩
    have h3 := k3 l2 _ (pl_new p1 hl2) (upd_same (H := H1) (a := l2) (o := .lst [V.int 0, V.int 1, V.int 2, V.int r1, V.int 5]))
    obtain ⟨n, hn, hn5⟩ : ∃ n : Nat, atI [V.int 0, V.int 1, V.int 2, V.int r1, V.int 5] r3 = some (V.int (n : Int)) ∧ n ≤ 5 := by
      obtain ⟨n1, rfl⟩ := Int.eq_ofNat_of_zero_le a1
      have : r3 = 0 ∨ r3 = 1 ∨ r3 = 2 ∨ r3 = 3 ∨ r3 = 4 := by omega
      rcases this with rfl | rfl | rfl | rfl | rfl
      · exact ⟨0, atI_nat (j := 0) rfl, by decide⟩
      · exact ⟨1, atI_nat (j := 1) rfl, by decide⟩
      · exact ⟨2, atI_nat (j := 2) rfl, by decide⟩
      · exact ⟨n1, atI_nat (j := 3) rfl, by omega⟩
      · exact ⟨5, atI_nat (j := 4) rfl, by decide⟩
    have k03 := k0.trans (k1.trans ((Same.kp s2).trans k3))
    have k13 := k1.trans ((Same.kp s2).trans k3)
    have hl3 : H3 l = some (.lst []) := k13 l _ (pl_new hp hl) upd_same
    refine ⟨l2, _, r3, _, rfl, rfl, .inl (.inl h3), hn, (n : Int), rfl, by omega, by omega, ?_⟩
    have en : ((n : Nat) : Int).toNat = n := Int.toNat_natCast _
    refine for_it walk_range (fun i σ H4 => ∃ y4 y5 y6 ws ts, σ = [some (.ref q), some (.ref tl), some (.int 5), some (.ref l), y4, y5, y6] ∧ Kp (atA q) H H4 ∧ Pl q c ns H4 ∧ H4 l = some (.lst ws) ∧ DpL K H4 eTerm ws ts ∧ (∀ t ∈ ts, TermOk toks t) ∧ ts.length = i) ⟨_, _, _, [], [], rfl, k03, p3, hl3, .nil, fun _ h => by simp at h, rfl⟩ (fun _ _ _ _ _ => trivial) ?_ ?_
    · rintro i x σ _ H4 hi ⟨y4, y5, y6, ws, ts, rfl, k4, p4, h4, hws, hts, lt⟩ ⟨rfl, rfl⟩
      rw [en] at hi
      refine ⟨Nat.zero_le _, fun u hu => ?_⟩
      have su := Same.new (o := .tup []) hu
      have d5 : Dp K (upd H4 u (.tup [])) (.ref u) (eMono []) := .tup (.inl (.inl upd_same)) .nil
      have k5 := k4.trans (Same.kp su)
      have p5 := envP.sm p4 su
      have h5 := su _ _ h4
      have hws5 := hws.same su
      generalize upd H4 u (.tup []) = H5 at d5 k5 p5 h5 hws5
      refine ⟨sz5, fun l6 hl6 => ?_⟩
      have s6 := Same.new (o := .lst [V.int 0, V.int 1, V.int 1, V.int 2, V.int 3]) hl6
      refine ⟨_, rfl, q, c, ns, 5, rfl, envP.sm p5 s6, by decide, by decide, fun r7 H7 a7 b7 k7 p7 => ?_⟩
      have h7 := k7 l6 _ (pl_new p5 hl6) (upd_same (H := H5) (a := l6) (o := .lst [V.int 0, V.int 1, V.int 1, V.int 2, V.int 3]))
      obtain ⟨n2, hn2, hn23⟩ : ∃ n2 : Nat, atI [V.int 0, V.int 1, V.int 1, V.int 2, V.int 3] r7 = some (V.int (n2 : Int)) ∧ n2 ≤ 3 := by
        have : r7 = 0 ∨ r7 = 1 ∨ r7 = 2 ∨ r7 = 3 ∨ r7 = 4 := by omega
        rcases this with rfl | rfl | rfl | rfl | rfl
        · exact ⟨0, atI_nat (j := 0) rfl, by decide⟩
        · exact ⟨1, atI_nat (j := 1) rfl, by decide⟩
        · exact ⟨1, atI_nat (j := 2) rfl, by decide⟩
        · exact ⟨2, atI_nat (j := 3) rfl, by decide⟩
        · exact ⟨3, atI_nat (j := 4) rfl, by decide⟩
      have k57 : Kp (atA q) H5 H7 := (Same.kp s6).trans k7
      have z5 := envP.ns p5
      refine ⟨l6, _, r7, _, rfl, rfl, .inl (.inl h7), hn2, (n2 : Int), rfl, by omega, by omega, ?_⟩
      have en2 : ((n2 : Nat) : Int).toNat = n2 := Int.toNat_natCast _
      refine for_it walk_range (fun j σ H8 => ∃ y4 mv y6 mo, σ = [some (.ref q), some (.ref tl), some (.int 5), some (.ref l), y4, some mv, y6] ∧ Kp (atA q) H5 H8 ∧ Pl q c ns H8 ∧ Dp K H8 mv (eMono mo) ∧ MonoOk mo ∧ csum mo ≤ 3 * j ∧ (∀ k ∈ keys mo, k ∈ toks)) ⟨_, _, _, [], rfl, k57, p7, dp_kp z5 k57 _ _ d5, mono_nil, Nat.le_refl _, fun k hk => by simp [keys] at hk⟩ (fun _ _ _ _ _ => trivial) ?_ ?_
      · rintro j x σ _ H8 hj ⟨y4, mv, y6, mo, rfl, k8, p8, d8, om, cs, km⟩ ⟨rfl, rfl⟩
        rw [en2] at hj
        have htl8 : H8 tl = some (.lst (toks.map V.str)) := k8 tl _ nql (k5 tl _ nql htl)
        refine ⟨_, rfl, tl, _, rfl, .inl (.inl (.inl htl8)), _, _, rfl, rfl, _, rfl, ite2 (fun eL => ?_) (fun eL => ?_)⟩
        · have tp : 0 < toks.length := by
            have h := of_decide_eq_true eL
            rw [List.length_map] at h
            omega
          refine ⟨_, rfl, _, rfl, _, rfl, _, rfl, tl, _, rfl, .inl (.inl (.inl htl8)), q, c, ns, ((toks.map V.str).length : Int), rfl, p8, by rw [List.length_map]; omega, by rw [List.length_map]; omega, fun r9 H9 a9 b9 k9 p9 => ?_⟩
          obtain ⟨n9, rfl⟩ := Int.eq_ofNat_of_zero_le a9
          rw [List.length_map] at b9
          have lt9 : n9 < toks.length := by omega
          obtain ⟨tk, htk⟩ : ∃ tk, toks[n9]? = some tk := ⟨_, List.getElem?_eq_getElem lt9⟩
          have htk2 : (toks.map V.str)[n9]? = some (.str tk) := by
            rw [List.getElem?_map, htk]
            rfl
          have tkm := List.mem_of_getElem? htk
          refine ⟨tl, _, _, _, rfl, rfl, .inl (.inl (k9 tl _ nql htl8)), atI_nat htk2, ?_⟩
          refine ⟨_, rfl, q, c, ns, 3, rfl, p9, by decide, by decide, fun r10 H10 a10 b10 k10 p10 => ?_⟩
          obtain ⟨n10, rfl⟩ := Int.eq_ofNat_of_zero_le a10
          refine ⟨_, _, rfl, rfl, sz2, fun T hT => ?_⟩
          have e10 : (fun i j => V.int (i + j)) (1 : Int) (n10 : Int) = V.int ((1 + n10 : Nat) : Int) := by
            show V.int ((1 : Int) + (n10 : Int)) = _
            congr 1
          have sT := Same.new (o := .tup [V.str tk, (fun i j => V.int (i + j)) (1 : Int) (n10 : Int)]) hT
          have dT : Dp K (upd H10 T (.tup [V.str tk, (fun i j => V.int (i + j)) (1 : Int) (n10 : Int)])) (.ref T) (ePair (tk, 1 + n10)) := dp_pair (.inl (.inl upd_same)) (.str _) (by rw [e10]; exact .int _)
          generalize (upd H10 T (.tup [V.str tk, (fun i j => V.int (i + j)) (1 : Int) (n10 : Int)])) = H11 at sT dT
          refine ⟨sz1, fun U hU => ?_⟩
          have sU := Same.new (o := .tup [V.ref T]) hU
          have dU : Dp K (upd H11 U (.tup [V.ref T])) (.ref U) (eMono [(tk, 1 + n10)]) := dp_tup (.inl (.inl upd_same)) (.cons (dp_same sU _ _ dT) .nil)
          have k8U : Kp (atA q) H8 (upd H11 U (.tup [V.ref T])) := k9.trans (k10.trans ((Same.kp sT).trans (Same.kp sU)))
          have p11 := envP.sm (envP.sm p10 sT) sU
          generalize (upd H11 U (.tup [V.ref T])) = H12 at dU k8U p11
          have d12 := dp_kp (envP.ns p8) k8U _ _ d8
          have pos1 : PosN [(tk, 1 + n10)] := fun t m => by
            obtain rfl : t = (tk, 1 + n10) := by simpa using m
            exact Nat.le_add_right 1 n10
          refine ⟨mv, .ref U, mo, [(tk, 1 + n10)], rfl, d12, dU, ?_, ?_, fun v' H13 s13 d13 => ?_⟩
          · intro k' hk'
            rw [keys_append] at hk'
            rcases List.mem_append.mp hk' with hk' | hk'
            · exact hok _ (km k' hk')
            · obtain rfl : k' = tk := by simpa [keys] using hk'
              exact hok _ tkm
          · rw [List.length_append]
            have := len_csum om.pos
            show mo.length + 1 ≤ 1000
            omega
          · refine ⟨_, v', _, mprod mo [(tk, 1 + n10)], rfl, k8.trans (k8U.trans (Same.kp s13)), envP.sm p11 s13, d13, mprod_ok om.pos pos1, ?_, fun k' hk' => ?_⟩
            · rw [csum_mprod om.pos pos1]
              show csum mo + ((1 + n10) + 0) ≤ _
              omega
            · rcases keys_mprod.mp hk' with hk' | hk'
              · exact km k' hk'
              · obtain rfl : k' = tk := by simpa [keys] using hk'
                exact tkm
        · exact ⟨_, mv, _, mo, rfl, k8, p8, d8, om, by omega, km⟩
      · rintro σ H8 ⟨y4, mv, y6, mo, rfl, k8, p8, d8, om, cs, km⟩
        rw [en2] at cs
        have h8 := k8 l _ (pl_ne p5 h5) h5
        have hws8 := hws5.kp z5 k8
        refine ⟨_, rfl, .inl ⟨rfl, _, .inl (.inl h8)⟩, _, rfl, _, rfl, q, c, ns, 4, rfl, p8, by decide, by decide, fun r9 H9 a9 b9 k9 p9 => ?_⟩
        obtain ⟨n9, rfl⟩ := Int.eq_ofNat_of_zero_le a9
        refine ⟨_, _, rfl, rfl, sz2, fun T hT => ?_⟩
        have e9 : (fun i j => V.int (i + j)) (1 : Int) (n9 : Int) = V.int ((1 + n9 : Nat) : Int) := by
          show V.int ((1 : Int) + (n9 : Int)) = _
          congr 1
        have sT := Same.new (o := .tup [mv, (fun i j => V.int (i + j)) (1 : Int) (n9 : Int)]) hT
        have k8T : Kp (atA q) H8 (upd H9 T (.tup [mv, (fun i j => V.int (i + j)) (1 : Int) (n9 : Int)])) := k9.trans (Same.kp sT)
        have dT : Dp K (upd H9 T (.tup [mv, (fun i j => V.int (i + j)) (1 : Int) (n9 : Int)])) (.ref T) (eTerm (mo, 1 + n9)) := dp_pair (.inl (.inl upd_same)) (dp_kp (envP.ns p8) k8T _ _ d8) (by rw [e9]; exact .int _)
        have p10 := envP.sm p9 sT
        generalize (upd H9 T (.tup [mv, (fun i j => V.int (i + j)) (1 : Int) (n9 : Int)])) = H10 at sT dT k8T p10
        have h10 := k8T l _ (pl_ne p8 h8) h8
        have hws10 := hws8.kp (envP.ns p8) k8T
        refine ⟨l, ws, _, rfl, rfl, h10, ?_, ?_⟩
        · have := hws.len
          exact szl (by omega)
        · refine ⟨_, _, _, ws ++ [.ref T], ts ++ [(mo, 1 + n9)], rfl, (k5.trans (k8.trans k8T)).mut hl, envP.st hp hl p10, upd_same, DpL.upd_lst h10 nol_term (hws10.snoc dT), ?_, ?_⟩
          · intro t htm
            rcases List.mem_append.mp htm with htm | htm
            · exact hts t htm
            · obtain rfl : t = (mo, 1 + n9) := by simpa using htm
              exact ⟨om, by show csum mo ≤ 9; omega, km, Nat.le_add_right 1 n9, by show 1 + n9 ≤ 4; omega⟩
          · rw [List.length_append, lt]
            rfl
    · rintro σ H4 ⟨y4, y5, y6, ws, ts, rfl, k4, p4, h4, hws, hts, lt⟩
      rw [en] at lt
      refine ⟨_, rfl, l, ws, ts, rfl, .inl (.inl h4), hws, by omega, fun t tm k' hk' => hok _ ((hts t tm).ks k' hk'), fun v' H' s5 d5 => ?_⟩
      exact k v' _ H' (k4.trans (Same.kp s5)) (envP.sm p4 s5) d5 (drawn_small hts (by omega))
end
end K8
/-! K8P6: what is given for a measure. -/
namespace K8
open PySem PySem.Spec PyProof.Rows L2
section
variable {P : Program} {w : World} {K : PySem.W.Frag} {mg : Str → Option Value} {base : Heap}
/-- plain data: no list, not deep, not wide -/
structure Plain (n : Nat) (d : PyData) : Prop where
  nol : nol d = true
  wid : wid d = true
  dep : d.depth ≤ n
theorem plain_strs {xs : List Str} (h : xs.length ≤ 1000) : Plain 1 (.tuple (xs.map encStr.e)) := by
  refine ⟨nolAll_map (fun _ => rfl) xs, wid_of (by rw [List.length_map]; exact h) (widAll_map fun _ _ => rfl), ?_⟩
  have := depthAll_le (e := encStr.e) (n := 0) (fun _ => Nat.le_refl _) xs
  simp only [PyData.depth]
  omega
theorem plain_enc {N : List Str} (hN : Pers N) (m : Ms) (x : m.car) : Plain 1 (m.enc N x) := by
  cases m with
  | count => exact ⟨rfl, rfl, Nat.zero_le _⟩
  | cost =>
    change Option Nat at x
    cases x with
    | none => exact ⟨rfl, rfl, Nat.zero_le _⟩
    | some n => exact ⟨rfl, rfl, Nat.zero_le _⟩
  | trust => exact ⟨rfl, rfl, Nat.zero_le _⟩
  | there => exact ⟨rfl, rfl, Nat.zero_le _⟩
  | seen =>
    change Str → Bool at x
    exact plain_strs (Nat.le_trans (List.length_filter_le ..) (Nat.le_trans hN.len (by decide)))
theorem plain_giv {g : Str × PyData} (h : Plain 1 g.2) : Plain 2 (eGiv g) := by
  refine ⟨?_, wid_of (show 2 ≤ 1000 by decide) ?_, ?_⟩
  · show (true && (K8.nol g.2 && true)) = true
    rw [h.nol]
    rfl
  · show (true && (K8.wid g.2 && true)) = true
    rw [h.wid]
    rfl
  · show PyData.depth (.tuple [.str g.1, g.2]) ≤ 2
    have := h.dep
    simp only [PyData.depth, PyData.depthAll]
    omega
theorem plain_givs {gs : List (Str × PyData)} (hl : gs.length ≤ 1000) (h : ∀ g ∈ gs, Plain 1 g.2) : Plain 3 (.tuple (gs.map eGiv)) := by
  have n1 : ∀ {gs : List (Str × PyData)}, (∀ g ∈ gs, Plain 1 g.2) → nolAll (gs.map eGiv) = true ∧ PyData.depthAll (gs.map eGiv) ≤ 2 := by
    intro gs h
    induction gs with
    | nil => exact ⟨rfl, Nat.zero_le _⟩
    | cons g gs ih =>
      obtain ⟨i1, i2⟩ := ih fun x hx => h x (List.mem_cons_of_mem _ hx)
      have p := plain_giv (h g List.mem_cons_self)
      refine ⟨?_, ?_⟩
      · show (K8.nol (eGiv g) && nolAll (gs.map eGiv)) = true
        rw [p.nol, i1]
        rfl
      · have := p.dep
        show PyData.depthAll (eGiv g :: gs.map eGiv) ≤ 2
        simp only [PyData.depthAll]
        omega
  obtain ⟨i1, i2⟩ := n1 h
  refine ⟨i1, wid_of (by rw [List.length_map]; exact hl) (widAll_map fun g hg => (plain_giv (h g hg)).wid), ?_⟩
  simp only [PyData.depth]
  omega
abbrev n_q_given : List Str := ["_law_pool_here", "_law_measure", "_law_tokens_here", "_law_persons_here", "_law_values", "_law_pairs", "_law_token"]
theorem sc_q_given : FnScope n_q_given ["_law_pool_here", "_law_measure", "_law_tokens_here", "_law_persons_here"] (defScope s_q_given) := ⟨rfl, rfl, rfl, by decide +kernel, rfl, by decide +kernel, by decide +kernel⟩

def spGiven (K : PySem.W.Frag) : Sp := fun vs H Q _ => ∃ (q c tl : Addr) (ns : List Int) (m : Ms) (v : V) (N toks : List Str), vs = [.ref q, .str m.nm, .ref tl, v] ∧ Pl q c ns H ∧ H tl = some (.lst (toks.map V.str)) ∧ toks.Nodup ∧ (∀ t ∈ toks, Tok1 t) ∧ toks.length ≤ 5 ∧ Pers N ∧ N.length ≤ 5 ∧ Dp K H v (.tuple (N.map encStr.e)) ∧
  ∀ (U d : Addr) (tv : V) (kvs : List (Str × V)) (gs : List (Str × PyData)) (val : Str → m.car) H', Kp (atA q) H H' → Pl q c ns H' → d ≠ q → SqT K H' U [.ref d, tv] → H' d = some (.dK (tK id kvs)) → Dp K H' tv (.tuple (gs.map eGiv)) → Given m N (fun k => k ∈ toks) val gs → Plain 3 (.tuple (gs.map eGiv)) →
    (∀ k ∈ toks, ∃ vv, get? kvs k = some vv ∧ Dp K H' vv (m.enc N (val k))) → Q (.ref U) H'
theorem ins_perm {α : Type} (gs : List α) (r : Nat) (g : α) : (gs.take r ++ [g] ++ gs.drop r).Perm (gs ++ [g]) := by
  have h1 : (gs.take r ++ [g] ++ gs.drop r).Perm (gs.take r ++ gs.drop r ++ [g]) := by
    rw [List.append_assoc, List.append_assoc]
    exact List.Perm.append_left _ List.perm_append_comm
  rwa [List.take_append_drop] at h1
theorem get?_mem' {κ β : Type} [DecidableEq κ] {kvs : List (κ × β)} (nd : (keys kvs).Nodup) {k : κ} {v : β} (h : (k, v) ∈ kvs) : get? kvs k = some v := get?_of_mem nd h
/-- what is drawn so far: a token, its value's object, the value -/
abbrev Ent3 (m : Ms) := List (Str × V × m.car)
def Ent3.kv {m : Ms} (es : Ent3 m) : List (Str × V) := es.map fun e => (e.1, e.2.1)
def Ent3.vl {m : Ms} (es : Ent3 m) : List (Str × m.car) := es.map fun e => (e.1, e.2.2)
def Ent3.dt {m : Ms} (N : List Str) (es : Ent3 m) : List (Str × PyData) := es.map fun e => (e.1, m.enc N e.2.2)
/-- the persons, under the empty word -/
def allG (N : List Str) : Str × PyData := (Str.ofString "", .tuple (N.map encStr.e))
theorem ent_fin {m : Ms} {N toks : List Str} {es : Ent3 m} {gs : List (Str × PyData)} {ex : List (Str × PyData)} (hN : Pers N) (hN5 : N.length ≤ 5) (nd : toks.Nodup) (ht : ∀ t ∈ toks, Tok1 t) (hl : toks.length ≤ 5) (ek : es.map (·.1) = toks) (hsm : ∀ e ∈ es, m.sm e.2.2) (hx : ex = [] ∨ ex = [allG N]) (hS : m = .seen → ex = [allG N]) (hp : gs.Perm (Ent3.dt N es ++ ex)) :
    Given m N (fun k => k ∈ toks) (fun k => (get? (Ent3.vl es) k).getD m.alg.A.un) gs ∧ Plain 3 (.tuple (gs.map eGiv)) ∧ ∀ k ∈ toks, ∃ e ∈ es, get? (Ent3.kv es) k = some e.2.1 ∧ (get? (Ent3.vl es) k).getD m.alg.A.un = e.2.2 := by
  have k1 : keys (Ent3.kv es) = toks := by
    rw [← ek]
    unfold keys Ent3.kv
    rw [List.map_map]
    rfl
  have k2 : keys (Ent3.vl es) = toks := by
    rw [← ek]
    unfold keys Ent3.vl
    rw [List.map_map]
    rfl
  have k3 : keys (Ent3.dt N es) = toks := by
    rw [← ek]
    unfold keys Ent3.dt
    rw [List.map_map]
    rfl
  have le : es.length = toks.length := by rw [← ek, List.length_map]
  have xl : ex.length ≤ 1 := by rcases hx with h | h <;> rw [h] <;> first | exact Nat.zero_le _ | exact Nat.le_refl _
  have ndg : (keys gs).Nodup := by
    have h1 : (keys gs).Perm (keys (Ent3.dt N es ++ ex)) := hp.map _
    refine h1.symm.nodup ?_
    rw [keys_append, k3]
    rcases hx with h | h
    · rw [h]
      show (toks ++ []).Nodup
      rw [List.append_nil]
      exact nd
    · rw [h]
      show (toks ++ [Str.ofString ""]).Nodup
      rw [List.nodup_append]
      refine ⟨nd, List.nodup_cons.mpr ⟨by simp, List.nodup_nil⟩, fun a ha b hb e => ?_⟩
      have : b = Str.ofString "" := by simpa using hb
      exact (ht a ha).ne (e.trans this)
  have lg : gs.length ≤ 6 := by
    have := hp.length_eq
    rw [List.length_append] at this
    unfold Ent3.dt at this
    rw [List.length_map] at this
    omega
  have look : ∀ k ∈ toks, ∃ e ∈ es, e.1 = k := fun k hk => by
    rw [← ek] at hk
    obtain ⟨e, he, rfl⟩ := List.mem_map.mp hk
    exact ⟨e, he, rfl⟩
  have vl : ∀ e ∈ es, (get? (Ent3.vl es) e.1).getD m.alg.A.un = e.2.2 := fun e he => by
    have h : get? (Ent3.vl es) e.1 = some e.2.2 := get?_of_mem (by rw [k2]; exact nd) (List.mem_map.mpr ⟨e, he, rfl⟩)
    rw [h]
    rfl
  refine ⟨⟨ndg, by omega, fun k hk => ?_, fun mS => ?_⟩, plain_givs (by omega) fun g hg => ?_, fun k hk => ?_⟩
  · obtain ⟨e, he, rfl⟩ := look k hk
    rw [vl e he]
    refine ⟨get?_of_mem ndg (hp.mem_iff.mpr (List.mem_append.mpr (.inl (List.mem_map.mpr ⟨e, he, rfl⟩)))), hsm e he⟩
  · exact get?_of_mem ndg (hp.mem_iff.mpr (List.mem_append.mpr (.inr (by rw [hS mS]; exact List.mem_cons_self))))
  · rcases List.mem_append.mp (hp.mem_iff.mp hg) with h | h
    · obtain ⟨e, _, rfl⟩ := List.mem_map.mp h
      exact plain_enc hN m _
    · rcases hx with z | z
      · rw [z] at h
        simp at h
      · rw [z] at h
        obtain rfl : g = allG N := by simpa using h
        exact plain_strs (by omega)
  · obtain ⟨e, he, rfl⟩ := look k hk
    exact ⟨e, he, get?_of_mem (by rw [k1]; exact nd) (List.mem_map.mpr ⟨e, he, rfl⟩), vl e he⟩
theorem nolG {gs : List (Str × PyData)} (h : ∀ g ∈ gs, Plain 1 g.2) : ∀ g ∈ gs, nol (eGiv g) = true := fun g hg => (plain_giv (h g hg)).nol
theorem dpl_upd_lst' {H : Hp} {D : Addr} {ws ws' : List V} {α : Type} {e : α → PyData} : ∀ {vs : List V} {xs : List α}, H D = some (.lst ws) → (∀ x ∈ xs, nol (e x) = true) → DpL K H e vs xs → DpL K (upd H D (.lst ws')) e vs xs
  | _, _, _, _, .nil => .nil
  | _, _, hD, hn, .cons h t => .cons (dp_upd_lst hD _ _ (hn _ List.mem_cons_self) h) (dpl_upd_lst' hD (fun x hx => hn x (List.mem_cons_of_mem _ hx)) t)
theorem ok_given {f : Addr} {fd : FuncData} (B : Bl mg) (c_q_take : Cal P w K mg base 2 "_law_take" ["_law_pool_here", "_law_many"] spTake) (c_q_drawn_value : Cal P w K mg base 4 "_law_drawn_value" ["_law_pool_here", "_law_measure", "_law_persons_here"] (spDVal K)) (F : FnP K "_law_given" s_q_given f fd) (hm : mg "_law_given" = some (.ref f)) : Cal P w K mg base 5 "_law_given" ["_law_pool_here", "_law_measure", "_law_tokens_here", "_law_persons_here"] (spGiven K) := by
  refine cal_mk F (F.ok sc_q_given (fun vs H Q E h => ?_) (fun cdv A outer s H vs Q E hr h => ?_)) hm (fun _ _ _ _ _ _ us hl => match us, hl with | [_, _, _, _], _ => rfl) (fun _ _ _ _ _ _ us hl => match us, hl with | [_, _, _, _], _ => rfl)
  · obtain ⟨q, c, tl, ns, m, v, N, toks, rfl, _⟩ := h
    rfl
  · obtain ⟨q, c, tl, ns, m, v, N, toks, rfl, hp, htl, nd, ht, htn, hN, hN5, hv, k⟩ := h
    refine ⟨_, PSs.nox (pss_cons (ps_set (i := 4) sc_q_given.nd rfl (.inl rfl) pe_dnewK) (pss_cons (ps_set (i := 5) sc_q_given.nd rfl (.inl rfl) (pe_lst pa_nil)) (pss_cons (ps_for PassesOwn.never rfl (pi_seq (pv 2)) (pg_name (i := 6) sc_q_given.nd rfl (.inl rfl)) (pss_cons (ps_dput (hu1 hr) (pv 4) (pv 6) (pe_u c_q_drawn_value hr (by omega) (by rfl) (pa_cons (pv 0) (pa_cons (pv 1) (pa_cons (pv 3) pa_nil)))) rfl) (pss_one (ps_expr (pe_bm PySem.F.plainAttrs_list PySem.F.slot_list_insert PySem.F.type_list_insert mt_insert (pv 5) (pa_cons (pe_u c_q_take hr (by omega) (by rfl) (pa_cons (pv 0) (pa_cons (pe_op op_add (pe_callB call_len_seq (by rfl) B.len (by decide +kernel) (pa_cons (pv 5) pa_nil)) pe_int) pa_nil))) (pa_cons (pe_tup (pa_cons (pv 6) (pa_cons (pe_dget (hu1 hr) (pv 4) (pv 6) (fun _ _ => rfl)) pa_nil))) pa_nil))))))) (pss_cons (ps_if (PW.pt (pw_or (pt_cmpR op_eq (pv 1) pe_str (nomark _)) (pw_or1 (pt_cmpR op_eq (pe_u c_q_take hr (by omega) (by rfl) (pa_cons (pv 0) (pa_cons pe_int pa_nil))) pe_int (nomark _))))) (pss_one (ps_expr (pe_bm PySem.F.plainAttrs_list PySem.F.slot_list_insert PySem.F.type_list_insert mt_insert (pv 5) (pa_cons (pe_u c_q_take hr (by omega) (by rfl) (pa_cons (pv 0) (pa_cons (pe_op op_add (pe_callB call_len_seq (by rfl) B.len (by decide +kernel) (pa_cons (pv 5) pa_nil)) pe_int) pa_nil))) (pa_cons (pe_tup (pa_cons pe_str (pa_cons (pv 3) pa_nil))) pa_nil))))) pss_nil) (pss_one (ps_ret (pe_tup (pa_cons (pv 4) (pa_cons (pe_callTy call_tuple_of (by rfl) B.tuple (by decide +kernel) (pa_cons (pv 5) pa_nil)) pa_nil))))))))), ?_⟩
    refine fun d hd => ?_
    have s0 := Same.new (o := .dK []) hd
    refine ⟨Nat.zero_le _, fun l hl1 => ?_⟩
    have hl : H l = none := kp_none (M := NoM) (Same.kp s0) id hl1
    have s1 := same_trans s0 (Same.new (o := .lst []) hl1)
    have hd1 : (upd (upd H d (.dK [])) l (.lst [])) d = some (.dK (tK id (Ent3.kv ([] : Ent3 m)))) := by
      rw [upd_ne (fun e => by rw [← e, upd_same] at hl1; cases hl1), upd_same]
      rfl
    have p1 := envP.sm hp s1
    have ndq : d ≠ q := by
      obtain ⟨_, _, _, _, _, _, hq, _⟩ := hp
      exact (ne_of_none hq hd).symm
    have ntq := pl_ne hp htl
    have hl11 : (upd (upd H d (.dK [])) l (.lst [])) l = some (.lst []) := upd_same
    have kA := Same.kp (M := atA q) s1
    generalize (upd (upd H d (.dK [])) l (.lst [])) = H1 at hd1 p1 hl11 kA
    refine ⟨_, rfl, tl, rfl, for_seq (M := fun a => a = q ∨ a = d ∨ a = l) (H0 := H) (fun a ma xs => ?_) (.inl (.inl (.inl htl))) (fun i σ H2 => ∃ y6 es gs ws, σ = [some (.ref q), some (.str m.nm), some (.ref tl), some v, some (.ref d), some (.ref l), y6] ∧ Kp (atA q) H H2 ∧ Pl q c ns H2 ∧ H2 d = some (.dK (tK id (Ent3.kv es))) ∧ H2 l = some (.lst ws) ∧ DpL K H2 eGiv ws gs ∧ gs.Perm (Ent3.dt N es) ∧ es.map (·.1) = toks.take i ∧ (∀ e ∈ es, m.sm e.2.2) ∧ (∀ e ∈ es, Dp K H2 e.2.1 (m.enc N e.2.2))) ⟨_, [], [], [], rfl, kA, p1, hd1, hl11, .nil, .nil, rfl, fun _ h => by simp at h, fun _ h => by simp at h⟩ ?_ ?_ ?_⟩
    · rcases ma with rfl | rfl | rfl
      · exact envP.ns hp a rfl xs
      · refine ⟨fun z => ?_, fun z => ?_⟩ <;> rcases z with z | ⟨o, z⟩ <;> rw [hd] at z <;> cases z
      · refine ⟨fun z => ?_, fun z => ?_⟩ <;> rcases z with z | ⟨o, z⟩ <;> rw [hl] at z <;> cases z
    · rintro i σ H2 _ ⟨_, _, _, _, _, k2, _⟩
      exact fun a u na h => k2 a u (fun e => na (.inl e)) h
    · rintro i x σ H2 hi ⟨y6, es, gs, ws, rfl, k2, p2, hd2, hl2, hg2, hpm, ek, hsm, hes⟩ hx
      rw [List.getElem?_map] at hx
      rw [List.length_map] at hi
      cases hz : toks[i]? with
      | none =>
        rw [hz] at hx
        cases hx
      | some tok =>
        rw [hz] at hx
        obtain rfl : V.str tok = x := Option.some.inj hx
        have z2 := envP.ns p2
        have le : es.length = i := by
          have := congrArg List.length ek
          rw [List.length_map, List.length_take] at this
          omega
        refine ⟨_, rfl, _, rfl, _, rfl, q, c, ns, m, v, N, rfl, p2, hN, dp_kp (envP.ns hp) k2 _ _ hv, fun v3 x3 H3 k3 p3 d3 sm3 => ?_⟩
        have hd3 := k3 d _ (fun e => ndq e) hd2
        have hl3 := k3 l _ (pl_ne p2 hl2) hl2
        have hg3 := hg2.kp z2 k3
        have hes3 : ∀ e ∈ es, Dp K H3 e.2.1 (m.enc N e.2.2) := fun e he => dp_kp z2 k3 _ _ (hes e he)
        have nk : tok ∉ keys (Ent3.kv es) := fun h => by
          have e1 : keys (Ent3.kv es) = toks.take i := by
            rw [← ek]
            unfold keys Ent3.kv
            rw [List.map_map]
            rfl
          rw [e1] at h
          have h1 : (toks.take (i + 1)).Nodup := List.Sublist.nodup (List.take_sublist _ _) nd
          rw [take_snoc hz, List.nodup_append] at h1
          exact h1.2.2 tok h tok List.mem_cons_self rfl
        have ep : putK (tK id (Ent3.kv es)) (Sum.inr tok) v3 = tK id (Ent3.kv (es ++ [(tok, v3, x3)])) := by
          have h1 := tK_put (f := (id : V → V)) tok v3 (Ent3.kv es)
          rw [put_new v3 nk] at h1
          refine h1.trans ?_
          unfold Ent3.kv
          rw [List.map_append]
          rfl
        refine ⟨_, rfl, _, rfl, d, _, rfl, DPut.k (k := Sum.inr tok) hd3 ?_, ?_⟩
        · rw [tK_len]
          unfold Ent3.kv
          rw [List.length_map]
          exact szl (by omega)
        refine at_heap (upd H3 d (.dK (tK id (Ent3.kv (es ++ [(tok, v3, x3)]))))) (by rw [ep]) ?_
        have zd : NoSeq (atA d) H3 := ns_dK (.inl hd3)
        have kd : Kp (atA d) H3 (upd H3 d (.dK (tK id (Ent3.kv (es ++ [(tok, v3, x3)]))))) := kp_upd
        have nld : l ≠ d := ne_of hl3 hd3 (by intro z; cases z)
        have h6 := kd l _ (fun e => nld e) hl3
        have hd6 : (upd H3 d (.dK (tK id (Ent3.kv (es ++ [(tok, v3, x3)]))))) d = some (.dK (tK id (Ent3.kv (es ++ [(tok, v3, x3)])))) := upd_same
        have hg6 := hg3.kp zd kd
        have p6 := envP.st hp hd p3 (o := .dK (tK id (Ent3.kv (es ++ [(tok, v3, x3)]))))
        have k6 := (k2.trans k3).mut hd (o := .dK (tK id (Ent3.kv (es ++ [(tok, v3, x3)]))))
        have hes6 : ∀ e ∈ es ++ [(tok, v3, x3)], Dp K (upd H3 d (.dK (tK id (Ent3.kv (es ++ [(tok, v3, x3)]))))) e.2.1 (m.enc N e.2.2) := fun e he => by
          rcases List.mem_append.mp he with he | he
          · exact dp_kp zd kd _ _ (hes3 e he)
          · obtain rfl : e = (tok, v3, x3) := by simpa using he
            exact dp_kp zd kd _ _ d3
        have hv6 := dp_kp zd kd _ _ d3
        generalize (upd H3 d (.dK (tK id (Ent3.kv (es ++ [(tok, v3, x3)]))))) = H6 at h6 hd6 hg6 p6 k6 hes6 hv6
        have lw : ws.length = i := by
          have h1 := hg2.len
          have h2 := hpm.length_eq
          unfold Ent3.dt at h2
          rw [List.length_map] at h2
          omega
        refine ⟨_, rfl, .inl ⟨rfl, _, .inl (.inl h6)⟩, _, rfl, _, rfl, l, _, rfl, .inl (.inl (.inl h6)), _, _, rfl, rfl, q, c, ns, (ws.length : Int) + 1, rfl, p6, by omega, by omega, fun r7 H7 a7 b7 k7 p7 => ?_⟩
        have hd7 := k7 d _ (fun e => ndq e) hd6
        have hget : get? (Ent3.kv (es ++ [(tok, v3, x3)])) tok = some v3 := by
          unfold Ent3.kv
          rw [List.map_append]
          have := get?_snoc tok tok v3 (Ent3.kv es) nk
          rw [if_pos rfl] at this
          exact this
        refine ⟨_, rfl, _, rfl, _, rfl, d, v3, rfl, dget_of hd7 (by rw [tK_val, hget]; rfl), sz2, fun T hT => ?_⟩
        have sT := Same.new (o := .tup [V.str tok, v3]) hT
        have k68 := k7.trans (Same.kp sT)
        have dT : Dp K (upd H7 T (.tup [V.str tok, v3])) (.ref T) (eGiv (tok, m.enc N x3)) := dp_pair (.inl (.inl upd_same)) (.str _) (dp_kp (envP.ns p6) k68 _ _ hv6)
        have p8 := envP.sm p7 sT
        have h8 := k68 l _ (pl_ne p6 h6) h6
        have hd8 := sT _ _ hd7
        have hg8 := hg6.kp (envP.ns p6) k68
        have hes8 : ∀ e ∈ es ++ [(tok, v3, x3)], Dp K (upd H7 T (.tup [V.str tok, v3])) e.2.1 (m.enc N e.2.2) := fun e he => dp_kp (envP.ns p6) k68 _ _ (hes6 e he)
        generalize (upd H7 T (.tup [V.str tok, v3])) = H8 at k68 dT p8 h8 hd8 hg8 hes8
        refine ⟨l, ws, r7, .ref T, rfl, rfl, h8, szl (by omega), a7, by omega, ?_⟩
        have pl2 : ∀ g ∈ gs, Plain 1 g.2 := fun g hg => by
          obtain ⟨e, _, rfl⟩ := List.mem_map.mp (hpm.mem_iff.mp hg)
          exact plain_enc hN m _
        refine ⟨_, es ++ [(tok, v3, x3)], gs.take r7.toNat ++ [(tok, m.enc N x3)] ++ gs.drop r7.toNat, ws.take r7.toNat ++ [V.ref T] ++ ws.drop r7.toNat, rfl, (k6.trans k68).mut hl, envP.st hp hl p8, ?_, upd_same, ?_, ?_, ?_, ?_, ?_⟩
        · rw [upd_ne nld.symm]
          exact hd8
        · refine dpl_upd_lst' h8 (fun x hx => ?_) (((dpl_take r7.toNat hg8).snoc dT).append (dpl_drop r7.toNat hg8))
          rcases List.mem_append.mp hx with hx | hx
          · rcases List.mem_append.mp hx with hx | hx
            · exact nolG pl2 x (List.mem_of_mem_take hx)
            · obtain rfl : x = (tok, m.enc N x3) := by simpa using hx
              exact (plain_giv (plain_enc hN m _)).nol
          · exact nolG pl2 x (List.mem_of_mem_drop hx)
        · refine (ins_perm gs r7.toNat (tok, m.enc N x3)).trans ?_
          have e9 : Ent3.dt N (es ++ [(tok, v3, x3)]) = Ent3.dt N es ++ [(tok, m.enc N x3)] := by
            unfold Ent3.dt
            rw [List.map_append]
            rfl
          rw [e9]
          exact hpm.append_right _
        · rw [List.map_append, ek, take_snoc hz]
          rfl
        · intro e he
          rcases List.mem_append.mp he with he | he
          · exact hsm e he
          · obtain rfl : e = (tok, v3, x3) := by simpa using he
            exact sm3
        · exact fun e he => dp_upd_lst h8 _ _ (plain_enc hN m _).nol (hes8 e he)
    · rintro σ H2 ⟨y6, es, gs6, ws6, rfl, k6, p6, hd6, h6, hg6, hp6, ek, hsm, hes6⟩
      rw [List.length_map, List.take_length] at ek
      have hv6 := dp_kp (envP.ns hp) k6 _ _ hv
      have lw6 : ws6.length ≤ 5 := by
        have h1 := hg6.len
        have h2 := hp6.length_eq
        have h3 := congrArg List.length ek
        unfold Ent3.dt at h2
        rw [List.length_map] at h2 h3
        omega
      refine ⟨_, rfl, rfl, _, rfl, ite2 (fun eS => ?_) (fun eS => ?_)⟩
      · refine iteT ?_
        refine ⟨_, rfl, .inl ⟨rfl, _, .inl (.inl h6)⟩, _, rfl, _, rfl, l, _, rfl, .inl (.inl (.inl h6)), _, _, rfl, rfl, q, c, ns, (ws6.length : Int) + 1, rfl, p6, by omega, by omega, fun r7 H7 a7 b7 k7 p7 => ?_⟩
        have h7 := k7 l _ (pl_ne p6 h6) h6
        have hv7 := dp_kp (envP.ns p6) k7 _ _ hv6
        refine ⟨_, rfl, sz2, fun T hT => ?_⟩
        have sT := Same.new (o := .tup [V.str "", v]) hT
        have dT : Dp K (upd H7 T (.tup [V.str "", v])) (.ref T) (eGiv (allG N)) := dp_pair (.inl (.inl upd_same)) (.str _) (dp_same sT _ _ hv7)
        have k8 := k7.trans (Same.kp sT)
        have p8 := envP.sm p7 sT
        have h8 := sT _ _ h7
        have hg8 := (hg6.kp (envP.ns p6) k8)
        have hd8 := k8 d _ (fun e => ndq e) hd6
        have hes8 : ∀ e ∈ es, Dp K (upd H7 T (.tup [V.str "", v])) e.2.1 (m.enc N e.2.2) := fun e he => dp_kp (envP.ns p6) k8 _ _ (hes6 e he)
        generalize upd H7 T (.tup [V.str "", v]) = H8 at dT k8 p8 h8 hg8 hd8 hes8
        refine ⟨l, ws6, r7, .ref T, rfl, rfl, h8, szl (by omega), a7, by omega, ?_⟩
        have pl6 : ∀ g ∈ gs6, Plain 1 g.2 := fun g hg => by
          obtain ⟨e, _, rfl⟩ := List.mem_map.mp (hp6.mem_iff.mp hg)
          exact plain_enc hN m _
        have hg9 : DpL K (upd H8 l (.lst (ws6.take r7.toNat ++ [V.ref T] ++ ws6.drop r7.toNat))) eGiv (ws6.take r7.toNat ++ [V.ref T] ++ ws6.drop r7.toNat) (gs6.take r7.toNat ++ [allG N] ++ gs6.drop r7.toNat) := by
          refine dpl_upd_lst' h8 (fun x hx => ?_) (((dpl_take r7.toNat hg8).snoc dT).append (dpl_drop r7.toNat hg8))
          rcases List.mem_append.mp hx with hx | hx
          · rcases List.mem_append.mp hx with hx | hx
            · exact nolG pl6 x (List.mem_of_mem_take hx)
            · obtain rfl : x = allG N := by simpa using hx
              exact (plain_giv (plain_strs (by omega))).nol
          · exact nolG pl6 x (List.mem_of_mem_drop hx)
        have hp9 : (gs6.take r7.toNat ++ [allG N] ++ gs6.drop r7.toNat).Perm (Ent3.dt N es ++ [allG N]) := (ins_perm gs6 r7.toNat (allG N)).trans (hp6.append_right _)
        have nld : l ≠ d := ne_of h8 hd8 (by intro z; cases z)
        have hd9 : (upd H8 l (.lst (ws6.take r7.toNat ++ [V.ref T] ++ ws6.drop r7.toNat))) d = some (.dK (tK id (Ent3.kv es))) := by
          rw [upd_ne nld.symm]
          exact hd8
        have hes9 : ∀ e ∈ es, Dp K (upd H8 l (.lst (ws6.take r7.toNat ++ [V.ref T] ++ ws6.drop r7.toNat))) e.2.1 (m.enc N e.2.2) := fun e he => dp_upd_lst h8 _ _ (plain_enc hN m _).nol (hes8 e he)
        have k9 := (k6.trans k8).mut hl (o := .lst (ws6.take r7.toNat ++ [V.ref T] ++ ws6.drop r7.toNat))
        have p9 := envP.st hp hl p8 (o := .lst (ws6.take r7.toNat ++ [V.ref T] ++ ws6.drop r7.toNat))
        have h9 : (upd H8 l (.lst (ws6.take r7.toNat ++ [V.ref T] ++ ws6.drop r7.toNat))) l = some (.lst (ws6.take r7.toNat ++ [V.ref T] ++ ws6.drop r7.toNat)) := upd_same
        have hx9 : ([allG N] : List (Str × PyData)) = [] ∨ [allG N] = [allG N] := .inr rfl
        have hS9 : m = .seen → [allG N] = [allG N] := fun _ => rfl
        generalize (ws6.take r7.toNat ++ [V.ref T] ++ ws6.drop r7.toNat) = ws9 at hg9 hd9 hes9 k9 p9 h9
        generalize (gs6.take r7.toNat ++ [allG N] ++ gs6.drop r7.toNat) = gs9 at hg9 hp9
        refine ⟨_, rfl, _, rfl, l, _, rfl, .inl ⟨.inl (.inl h9), fun t ht9 => ?_⟩⟩
        have s10 := Same.new (o := .tup ws9) ht9
        refine ⟨sz2, fun U hU => ?_⟩
        have s11 := Same.new (o := .tup [V.ref d, V.ref t]) hU
        have s12 := same_trans s10 s11
        obtain ⟨gv, pl3, lk⟩ := ent_fin (m := m) (N := N) (toks := toks) hN hN5 nd ht htn ek hsm hx9 hS9 hp9
        refine k U d _ (Ent3.kv es) gs9 _ _ (k9.trans (Same.kp s12)) (envP.sm p9 s12) ndq (.inl (.inl upd_same)) (s12 _ _ hd9) ?_ gv pl3 fun x hx => ?_
        · refine dp_same s11 _ _ (dp_tup (.inl (.inl upd_same)) (hg9.same s10))
        · obtain ⟨e, he, h1, h2⟩ := lk x hx
          exact ⟨e.2.1, h1, by rw [h2]; exact dp_same s12 _ _ (hes9 e he)⟩
      · refine ⟨_, rfl, q, c, ns, 4, rfl, p6, by decide, by decide, fun r5 H5 a5 b5 k5 p5 => ⟨rfl, _, rfl, ite2 (fun eT => ?_) (fun eT => ?_)⟩⟩
        · have h6' := k5 l _ (pl_ne p6 h6) h6
          have hg6' := hg6.kp (envP.ns p6) k5
          have hd6' := k5 d _ (fun e => ndq e) hd6
          have hes6' : ∀ e ∈ es, Dp K H5 e.2.1 (m.enc N e.2.2) := fun e he => dp_kp (envP.ns p6) k5 _ _ (hes6 e he)
          have hv6' := dp_kp (envP.ns p6) k5 _ _ hv6
          have k6' := k6.trans k5
          clear h6 hg6 hd6 hes6 hv6 k6 k5 p6
          have h6 := h6'
          have hg6 := hg6'
          have hd6 := hd6'
          have hes6 := hes6'
          have hv6 := hv6'
          have k6 := k6'
          have p6 := p5
          refine ⟨_, rfl, .inl ⟨rfl, _, .inl (.inl h6)⟩, _, rfl, _, rfl, l, _, rfl, .inl (.inl (.inl h6)), _, _, rfl, rfl, q, c, ns, (ws6.length : Int) + 1, rfl, p6, by omega, by omega, fun r7 H7 a7 b7 k7 p7 => ?_⟩
          have h7 := k7 l _ (pl_ne p6 h6) h6
          have hv7 := dp_kp (envP.ns p6) k7 _ _ hv6
          refine ⟨_, rfl, sz2, fun T hT => ?_⟩
          have sT := Same.new (o := .tup [V.str "", v]) hT
          have dT : Dp K (upd H7 T (.tup [V.str "", v])) (.ref T) (eGiv (allG N)) := dp_pair (.inl (.inl upd_same)) (.str _) (dp_same sT _ _ hv7)
          have k8 := k7.trans (Same.kp sT)
          have p8 := envP.sm p7 sT
          have h8 := sT _ _ h7
          have hg8 := (hg6.kp (envP.ns p6) k8)
          have hd8 := k8 d _ (fun e => ndq e) hd6
          have hes8 : ∀ e ∈ es, Dp K (upd H7 T (.tup [V.str "", v])) e.2.1 (m.enc N e.2.2) := fun e he => dp_kp (envP.ns p6) k8 _ _ (hes6 e he)
          generalize upd H7 T (.tup [V.str "", v]) = H8 at dT k8 p8 h8 hg8 hd8 hes8
          refine ⟨l, ws6, r7, .ref T, rfl, rfl, h8, szl (by omega), a7, by omega, ?_⟩
          have pl6 : ∀ g ∈ gs6, Plain 1 g.2 := fun g hg => by
            obtain ⟨e, _, rfl⟩ := List.mem_map.mp (hp6.mem_iff.mp hg)
            exact plain_enc hN m _
          have hg9 : DpL K (upd H8 l (.lst (ws6.take r7.toNat ++ [V.ref T] ++ ws6.drop r7.toNat))) eGiv (ws6.take r7.toNat ++ [V.ref T] ++ ws6.drop r7.toNat) (gs6.take r7.toNat ++ [allG N] ++ gs6.drop r7.toNat) := by
            refine dpl_upd_lst' h8 (fun x hx => ?_) (((dpl_take r7.toNat hg8).snoc dT).append (dpl_drop r7.toNat hg8))
            rcases List.mem_append.mp hx with hx | hx
            · rcases List.mem_append.mp hx with hx | hx
              · exact nolG pl6 x (List.mem_of_mem_take hx)
              · obtain rfl : x = allG N := by simpa using hx
                exact (plain_giv (plain_strs (by omega))).nol
            · exact nolG pl6 x (List.mem_of_mem_drop hx)
          have hp9 : (gs6.take r7.toNat ++ [allG N] ++ gs6.drop r7.toNat).Perm (Ent3.dt N es ++ [allG N]) := (ins_perm gs6 r7.toNat (allG N)).trans (hp6.append_right _)
          have nld : l ≠ d := ne_of h8 hd8 (by intro z; cases z)
          have hd9 : (upd H8 l (.lst (ws6.take r7.toNat ++ [V.ref T] ++ ws6.drop r7.toNat))) d = some (.dK (tK id (Ent3.kv es))) := by
            rw [upd_ne nld.symm]
            exact hd8
          have hes9 : ∀ e ∈ es, Dp K (upd H8 l (.lst (ws6.take r7.toNat ++ [V.ref T] ++ ws6.drop r7.toNat))) e.2.1 (m.enc N e.2.2) := fun e he => dp_upd_lst h8 _ _ (plain_enc hN m _).nol (hes8 e he)
          have k9 := (k6.trans k8).mut hl (o := .lst (ws6.take r7.toNat ++ [V.ref T] ++ ws6.drop r7.toNat))
          have p9 := envP.st hp hl p8 (o := .lst (ws6.take r7.toNat ++ [V.ref T] ++ ws6.drop r7.toNat))
          have h9 : (upd H8 l (.lst (ws6.take r7.toNat ++ [V.ref T] ++ ws6.drop r7.toNat))) l = some (.lst (ws6.take r7.toNat ++ [V.ref T] ++ ws6.drop r7.toNat)) := upd_same
          have hx9 : ([allG N] : List (Str × PyData)) = [] ∨ [allG N] = [allG N] := .inr rfl
          have hS9 : m = .seen → [allG N] = [allG N] := fun _ => rfl
          generalize (ws6.take r7.toNat ++ [V.ref T] ++ ws6.drop r7.toNat) = ws9 at hg9 hd9 hes9 k9 p9 h9
          generalize (gs6.take r7.toNat ++ [allG N] ++ gs6.drop r7.toNat) = gs9 at hg9 hp9
          refine ⟨_, rfl, _, rfl, l, _, rfl, .inl ⟨.inl (.inl h9), fun t ht9 => ?_⟩⟩
          have s10 := Same.new (o := .tup ws9) ht9
          refine ⟨sz2, fun U hU => ?_⟩
          have s11 := Same.new (o := .tup [V.ref d, V.ref t]) hU
          have s12 := same_trans s10 s11
          obtain ⟨gv, pl3, lk⟩ := ent_fin (m := m) (N := N) (toks := toks) hN hN5 nd ht htn ek hsm hx9 hS9 hp9
          refine k U d _ (Ent3.kv es) gs9 _ _ (k9.trans (Same.kp s12)) (envP.sm p9 s12) ndq (.inl (.inl upd_same)) (s12 _ _ hd9) ?_ gv pl3 fun x hx => ?_
          · refine dp_same s11 _ _ (dp_tup (.inl (.inl upd_same)) (hg9.same s10))
          · obtain ⟨e, he, h1, h2⟩ := lk x hx
            exact ⟨e.2.1, h1, by rw [h2]; exact dp_same s12 _ _ (hes9 e he)⟩
        · have h9 := k5 l _ (pl_ne p6 h6) h6
          have hg9 := hg6.kp (envP.ns p6) k5
          have hd9 := k5 d _ (fun e => ndq e) hd6
          have hes9 : ∀ e ∈ es, Dp K H5 e.2.1 (m.enc N e.2.2) := fun e he => dp_kp (envP.ns p6) k5 _ _ (hes6 e he)
          have k9 := k6.trans k5
          have p9 := p5
          have hp9 : gs6.Perm (Ent3.dt N es ++ []) := by rw [List.append_nil]; exact hp6
          have hx9 : ([] : List (Str × PyData)) = [] ∨ ([] : List (Str × PyData)) = [allG N] := .inl rfl
          have hS9 : m = .seen → ([] : List (Str × PyData)) = [allG N] := fun mS => absurd (nm_seen.mpr mS) eS
          generalize ws6 = ws9 at hg9 h9
          generalize gs6 = gs9 at hg9 hp9
          refine ⟨_, rfl, _, rfl, l, _, rfl, .inl ⟨.inl (.inl h9), fun t ht9 => ?_⟩⟩
          have s10 := Same.new (o := .tup ws9) ht9
          refine ⟨sz2, fun U hU => ?_⟩
          have s11 := Same.new (o := .tup [V.ref d, V.ref t]) hU
          have s12 := same_trans s10 s11
          obtain ⟨gv, pl3, lk⟩ := ent_fin (m := m) (N := N) (toks := toks) hN hN5 nd ht htn ek hsm hx9 hS9 hp9
          refine k U d _ (Ent3.kv es) gs9 _ _ (k9.trans (Same.kp s12)) (envP.sm p9 s12) ndq (.inl (.inl upd_same)) (s12 _ _ hd9) ?_ gv pl3 fun x hx => ?_
          · refine dp_same s11 _ _ (dp_tup (.inl (.inl upd_same)) (hg9.same s10))
          · obtain ⟨e, he, h1, h2⟩ := lk x hx
            exact ⟨e.2.1, h1, by rw [h2]; exact dp_same s12 _ _ (hes9 e he)⟩
end
end K8
/-! K8W1: one measure met. -/
namespace K8
open PySem PySem.Spec PyProof.Rows L2
section
variable {P : Program} {w : World} {K : PySem.W.Frag} {mg : Str → Option Value} {base : Heap}
/-- a drawn polynomial -/
abbrev Dr (toks : List Str) (p : Poly) : Prop := Small (fun k => k ∈ toks) 5 20 9 p
theorem pval_ok {T : Str → Prop} {n c d : Nat} {m : Ms} {val : Str → m.car} {p : Poly} (h : Small T n c d p) (hc : c ≤ 10 ^ 9) (hd : d ≤ 100) (hv : ∀ k, T k → m.sm (val k)) : m.ok (pval m.alg val p) := by
  cases m with
  | count =>
    change Str → Nat at val
    have h1 : pval gCount val p ≤ csum p * (10 ^ 6) ^ 100 := pval_le (by decide) fun t tm => ⟨Nat.le_trans (h.deg t tm) hd, fun k hk' => hv k (h.tok t tm k hk')⟩
    refine pow10_small (n := pval gCount val p) (Nat.le_trans h1 ?_)
    have h2 : csum p * (10 ^ 6) ^ 100 ≤ 10 ^ 9 * 10 ^ 600 := Nat.mul_le_mul (Nat.le_trans h.sum hc) (by rw [← Nat.pow_mul]; exact Nat.le_refl _)
    refine Nat.le_trans h2 ?_
    rw [← Nat.pow_add]
    exact Nat.pow_le_pow_right (by decide) (by decide)
  | cost => trivial
  | trust => trivial
  | there => trivial
  | seen => trivial
theorem Given.of {m : Ms} {N toks : List Str} {val : Str → m.car} {gs : List (Str × PyData)} {n c d : Nat} {p : Poly} (g : Given m N (fun k => k ∈ toks) val gs) (h : Small (fun k => k ∈ toks) n c d p) : Given m N (fun k => ∃ t ∈ p, k ∈ keys t.1) val gs :=
  ⟨g.nd, g.len, fun k ⟨t, tm, hk⟩ => g.tok k (h.tok t tm k hk), g.all⟩
theorem plain_poly {p : Poly} (h : Fit p) : Plain 4 (ePoly p) := ⟨nol_poly p, wid_poly h, depth_poly p⟩
/-- what stands while a measure is met -/
structure MetC (K : PySem.W.Frag) (q c : Addr) (ns : List Int) (pl d : Addr) (tv vp v0 v1 v2 : V) (m : Ms) (N toks : List Str) (kvs : List (Str × V)) (gs : List (Str × PyData)) (val : Str → m.car) (p0 p1 p2 : Poly) (H : Hp) : Prop where
  pool : Pl q c ns H
  hpl : H pl = some (.lst [v0, v1, v2])
  d0 : Dp K H v0 (ePoly p0)
  d1 : Dp K H v1 (ePoly p1)
  d2 : Dp K H v2 (ePoly p2)
  hd : H d = some (.dK (tK id kvs))
  ndq : d ≠ q
  dt : Dp K H tv (.tuple (gs.map eGiv))
  dv : Dp K H vp (.tuple (N.map encStr.e))
  lk : ∀ k ∈ toks, ∃ vv, get? kvs k = some vv ∧ Dp K H vv (m.enc N (val k))
structure MetF (m : Ms) (N toks : List Str) (gs : List (Str × PyData)) (val : Str → m.car) (p0 p1 p2 : Poly) : Prop where
  hN : Pers N
  gv : Given m N (fun k => k ∈ toks) val gs
  pg : Plain 3 (.tuple (gs.map eGiv))
  s0 : Dr toks p0
  s1 : Dr toks p1
  s2 : Dr toks p2
theorem MetC.kp {q c : Addr} {ns : List Int} {pl d : Addr} {tv vp v0 v1 v2 : V} {m : Ms} {N toks : List Str} {kvs : List (Str × V)} {gs : List (Str × PyData)} {val : Str → m.car} {p0 p1 p2 : Poly} {H H' : Hp}
    (M : MetC K q c ns pl d tv vp v0 v1 v2 m N toks kvs gs val p0 p1 p2 H) (k : Kp (atA q) H H') (p : Pl q c ns H') : MetC K q c ns pl d tv vp v0 v1 v2 m N toks kvs gs val p0 p1 p2 H' := by
  have z := envP.ns M.pool
  exact ⟨p, k _ _ (pl_ne M.pool M.hpl) M.hpl, dp_kp z k _ _ M.d0, dp_kp z k _ _ M.d1, dp_kp z k _ _ M.d2, k _ _ (fun e => M.ndq e) M.hd, M.ndq, dp_kp z k _ _ M.dt, dp_kp z k _ _ M.dv, fun x hx => by
    obtain ⟨vv, h1, h2⟩ := M.lk x hx
    exact ⟨vv, h1, dp_kp z k _ _ h2⟩⟩
theorem MetC.sm {q c : Addr} {ns : List Int} {pl d : Addr} {tv vp v0 v1 v2 : V} {m : Ms} {N toks : List Str} {kvs : List (Str × V)} {gs : List (Str × PyData)} {val : Str → m.car} {p0 p1 p2 : Poly} {H H' : Hp}
    (M : MetC K q c ns pl d tv vp v0 v1 v2 m N toks kvs gs val p0 p1 p2 H) (s : Same H H') : MetC K q c ns pl d tv vp v0 v1 v2 m N toks kvs gs val p0 p1 p2 H' := M.kp (Same.kp s) (envP.sm M.pool s)
theorem Dr.fit {toks : List Str} {p : Poly} (h : Dr toks p) : Fit p := Small.fit h (by decide) (by decide) (by decide)
theorem Dr.sok {toks : List Str} {p : Poly} {n c d : Nat} (h : Small (fun k => k ∈ toks) n c d p) (ht : ∀ t ∈ toks, SOk t) : PSok p := fun t tm k hk => ht k (h.tok t tm k hk)
theorem fitx {toks : List Str} {p q : Poly} {n c d n' c' d' : Nat} (h : Small (fun k => k ∈ toks) n c d p) (h' : Small (fun k => k ∈ toks) n' c' d' q) (hn : n * n' ≤ 400) (h1 : n ≤ 400) (h2 : n' ≤ 400) (hc : c ≤ 10 ^ 9) (hc' : c' ≤ 10 ^ 9) (hd : d ≤ 100) (hd' : d' ≤ 100) : FitX p q :=
  ⟨Small.fit h h1 hc hd, Small.fit h' h2 hc' hd', Nat.le_trans (Nat.mul_le_mul h.len h'.len) hn⟩
abbrev n_q_met : List Str := ["_law_pool_here", "_law_measure", "_law_polys", "_law_values", "_law_pairs", "_law_persons_here", "_law_p", "_law_q", "_law_r", "_law_parts", "_law_one_here", "_law_k", "_law_both_here", "_law_product_here", "_law_due"]
theorem sc_q_met : FnScope n_q_met ["_law_pool_here", "_law_measure", "_law_polys", "_law_values", "_law_pairs", "_law_persons_here"] (defScope s_q_met) := ⟨rfl, rfl, rfl, by decide +kernel, rfl, by decide +kernel, by decide +kernel⟩

def spMet (K : PySem.W.Frag) : Sp := fun vs H Q _ => ∃ (q c : Addr) (ns : List Int) (pl d : Addr) (tv vp v0 v1 v2 : V) (m : Ms) (N toks : List Str) (kvs : List (Str × V)) (gs : List (Str × PyData)) (val : Str → m.car) (p0 p1 p2 : Poly), vs = [.ref q, .str m.nm, .ref pl, .ref d, tv, vp] ∧ MetC K q c ns pl d tv vp v0 v1 v2 m N toks kvs gs val p0 p1 p2 H ∧ MetF m N toks gs val p0 p1 p2 ∧
  ∀ H', Kp (atA q) H H' → Pl q c ns H' → Q (.bl true) H'
theorem ok_met {f : Addr} {fd : FuncData} (B : Bl mg) (c_q_listed : Cal P w K mg base 7 "_law_listed" ["_law_pool_here", "_law_value"] (spListed K)) (c_q_valued : Cal P w K mg base 3 "_law_valued" ["_law_p", "_law_measure", "_law_values", "_law_persons_here"] (spLValued K)) (c_d_valued : Cal P w K mg base 3 "valued" ["p", "measure", "given"] (spValued K)) (c_q_same : Cal P w K mg base 6 "_law_same" ["_law_actual", "_law_due"] (spSame K 5)) (c_q_sum : Cal P w K mg base 2 "_law_sum" ["_law_measure", "_law_a", "_law_b"] (spLSum K)) (c_q_both : Cal P w K mg base 1 "_law_both" ["_law_measure", "_law_a", "_law_b"] (spLBoth K)) (c_d_measured_plus : Cal P w K mg base 1 "measured_plus" ["measure", "a", "b"] (spMPlus K)) (c_d_measured_times : Cal P w K mg base 1 "measured_times" ["measure", "a", "b"] (spMTimes K)) (c_d_plus : Cal P w K mg base 3 "plus" ["p", "q"] (spPlus K)) (c_d_times : Cal P w K mg base 3 "times" ["p", "q"] (spTimes K)) (F : FnP K "_law_met" s_q_met f fd) (hm : mg "_law_met" = some (.ref f)) : Cal P w K mg base 8 "_law_met" ["_law_pool_here", "_law_measure", "_law_polys", "_law_values", "_law_pairs", "_law_persons_here"] (spMet K) := by
  refine cal_mk F (F.ok sc_q_met (fun vs H Q E h => ?_) (fun cdv A outer s H vs Q E hr h => ?_)) hm (fun _ _ _ _ _ _ us hl => match us, hl with | [_, _, _, _, _, _], _ => rfl) (fun _ _ _ _ _ _ us hl => match us, hl with | [_, _, _, _, _, _], _ => rfl)
  · obtain ⟨q, c, ns, pl, d, tv, vp, v0, v1, v2, m, N, toks, kvs, gs, val, p0, p1, p2, rfl, _⟩ := h
    rfl
  · obtain ⟨q, c, ns, pl, d, tv, vp, v0, v1, v2, m, N, toks, kvs, gs, val, p0, p1, p2, rfl, M, Fc, k⟩ := h
    refine ⟨_, PSs.nox (pss_cons (ps_asg (pv 2) (pg_seq rfl (pgs_cons (pg_name (i := 6) sc_q_met.nd rfl (.inl rfl)) (pgs_cons (pg_name (i := 7) sc_q_met.nd rfl (.inl rfl)) (pgs_cons (pg_name (i := 8) sc_q_met.nd rfl (.inl rfl)) pgs_nil))))) (pss_cons (ps_setLc (i := 9) (own := [("_law_one_here", 10)]) (g := _) (tt := _) (te := _) rfl sc_q_met.nd rfl rfl (sw_true rfl rfl rfl (by decide +kernel)) (pi_seq (pv 2)) (blkOk_by (N := n_q_met) (sc := defScope s_q_met) (by decide +kernel)) (fun _ _ _ _ _ => (pg_name (i := 10) sc_q_met.nd rfl (.inl rfl) (by first | exact .inl rfl | exact .inr rfl))) (fun _ _ _ _ _ => pts_nil) (fun _ _ _ _ _ => (pe_u c_q_valued hr (by omega) (by rfl) (pa_cons (pv 10) (pa_cons (pv 1) (pa_cons (pv 3) (pa_cons (pv 5) pa_nil))))))) (pss_cons (ps_for PassesOwn.never rfl (pi_range1 (by rfl) B.range (pa_cons pe_int pa_nil)) (pg_name (i := 11) sc_q_met.nd rfl (.inl rfl)) (pss_one (ps_if (pt_not (pt_val (pe_u c_q_same hr (by omega) (by rfl) (pa_cons (pe_u c_d_valued hr (by omega) (by rfl) (pa_cons (pe_u c_q_listed hr (by omega) (by rfl) (pa_cons (pv 0) (pa_cons (pe_ix ix_list (pv 2) (pv 11) (fun _ _ => rfl)) pa_nil))) (pa_cons (pv 1) (pa_cons (pe_u c_q_listed hr (by omega) (by rfl) (pa_cons (pv 0) (pa_cons (pv 4) pa_nil))) pa_nil)))) (pa_cons (pe_ix ix_list (pv 9) (pv 11) (fun _ _ => rfl)) pa_nil))))) (pss_one (ps_ret pe_bl)) pss_nil))) (pss_cons (ps_set (i := 12) sc_q_met.nd rfl (.inl rfl) (pe_u c_q_sum hr (by omega) (by rfl) (pa_cons (pv 1) (pa_cons (pe_ix ix_list (pv 9) pe_int (fun _ _ => rfl)) (pa_cons (pe_ix ix_list (pv 9) pe_int (fun _ _ => rfl)) pa_nil))))) (pss_cons (ps_if (pt_not (pt_val (pe_u c_q_same hr (by omega) (by rfl) (pa_cons (pe_u c_d_measured_plus hr (by omega) (by rfl) (pa_cons (pv 1) (pa_cons (pe_ix ix_list (pv 9) pe_int (fun _ _ => rfl)) (pa_cons (pe_ix ix_list (pv 9) pe_int (fun _ _ => rfl)) pa_nil)))) (pa_cons (pv 12) pa_nil))))) (pss_one (ps_ret pe_bl)) pss_nil) (pss_cons (ps_if (pt_not (pt_val (pe_u c_q_same hr (by omega) (by rfl) (pa_cons (pe_u c_d_valued hr (by omega) (by rfl) (pa_cons (pe_u c_d_plus hr (by omega) (by rfl) (pa_cons (pv 6) (pa_cons (pv 7) pa_nil))) (pa_cons (pv 1) (pa_cons (pv 4) pa_nil)))) (pa_cons (pv 12) pa_nil))))) (pss_one (ps_ret pe_bl)) pss_nil) (pss_cons (ps_set (i := 13) sc_q_met.nd rfl (.inl rfl) (pe_u c_q_both hr (by omega) (by rfl) (pa_cons (pv 1) (pa_cons (pe_ix ix_list (pv 9) pe_int (fun _ _ => rfl)) (pa_cons (pe_ix ix_list (pv 9) pe_int (fun _ _ => rfl)) pa_nil))))) (pss_cons (ps_if (pt_not (pt_val (pe_u c_q_same hr (by omega) (by rfl) (pa_cons (pe_uk c_d_measured_times hr (by omega) (by rfl) (pk_cons (pv 1) (pk_cons (pe_ix ix_list (pv 9) pe_int (fun _ _ => rfl)) (pk_cons (pe_ix ix_list (pv 9) pe_int (fun _ _ => rfl)) pk_nil))) (by rfl)) (pa_cons (pv 13) pa_nil))))) (pss_one (ps_ret pe_bl)) pss_nil) (pss_cons (ps_if (pt_not (pt_val (pe_u c_q_same hr (by omega) (by rfl) (pa_cons (pe_u c_d_valued hr (by omega) (by rfl) (pa_cons (pe_u c_d_times hr (by omega) (by rfl) (pa_cons (pv 6) (pa_cons (pv 7) pa_nil))) (pa_cons (pv 1) (pa_cons (pv 4) pa_nil)))) (pa_cons (pv 13) pa_nil))))) (pss_one (ps_ret pe_bl)) pss_nil) (pss_cons (ps_set (i := 14) sc_q_met.nd rfl (.inl rfl) (pe_u c_q_both hr (by omega) (by rfl) (pa_cons (pv 1) (pa_cons (pv 12) (pa_cons (pe_ix ix_list (pv 9) pe_int (fun _ _ => rfl)) pa_nil))))) (pss_cons (ps_if (pt_not (pt_val (pe_u c_q_same hr (by omega) (by rfl) (pa_cons (pe_u c_d_valued hr (by omega) (by rfl) (pa_cons (pe_u c_d_times hr (by omega) (by rfl) (pa_cons (pe_u c_d_plus hr (by omega) (by rfl) (pa_cons (pv 6) (pa_cons (pv 7) pa_nil))) (pa_cons (pv 8) pa_nil))) (pa_cons (pv 1) (pa_cons (pv 4) pa_nil)))) (pa_cons (pv 14) pa_nil))))) (pss_one (ps_ret pe_bl)) pss_nil) (pss_one (ps_ret (pe_u c_q_same hr (by omega) (by rfl) (pa_cons (pe_u c_d_valued hr (by omega) (by rfl) (pa_cons (pe_u c_d_plus hr (by omega) (by rfl) (pa_cons (pe_u c_d_times hr (by omega) (by rfl) (pa_cons (pv 6) (pa_cons (pv 8) pa_nil))) (pa_cons (pe_u c_d_times hr (by omega) (by rfl) (pa_cons (pv 7) (pa_cons (pv 8) pa_nil))) pa_nil))) (pa_cons (pv 1) (pa_cons (pv 4) pa_nil)))) (pa_cons (pv 14) pa_nil)))))))))))))))), ?_⟩
    have hN := Fc.hN
    have f0 := Dr.fit Fc.s0
    have f1 := Dr.fit Fc.s1
    have f2 := Dr.fit Fc.s2
    have sm : ∀ k, k ∈ toks → m.sm (val k) := fun k hk => (Fc.gv.tok k hk).2
    have pe := fun (x : m.car) => plain_enc hN m x
    have pd : ∀ x : m.car, (m.enc N x).depth < 5 := fun x => Nat.lt_of_le_of_lt (pe x).dep (by decide)
    -- p, q, r
    refine ⟨_, rfl, pl, _, rfl, .inl (.inl (.inl M.hpl)), rfl, v0, _, rfl, v1, _, rfl, v2, _, rfl, rfl, ?_⟩
    -- parts
    have h3 : DpL K H ePoly [v0, v1, v2] [p0, p1, p2] := .cons M.d0 (.cons M.d1 (.cons M.d2 .nil))
    refine ⟨_, rfl, pl, rfl, .inl ⟨⟨_, .inl (.inl M.hpl)⟩, ?_⟩⟩
    refine lc_map (K := K) (xs := [p0, p1, p2]) (ev := fun H v p => Dp K H v (ePoly p)) (walk_list (K := K) (a := pl) (xs := [v0, v1, v2])) (fun H' e => .inl (.inl (e _ _ M.hpl))) h3 (m.enc N) (fun z => (pe z).nol) (pval m.alg val) (show 3 ≤ 100000 by decide) ?_ ?_
    · rintro v p H1 Ry Rn hpm hv s1 ry
      have M1 := M.sm s1
      have sp : Dr toks p := by
        rcases List.mem_cons.mp hpm with rfl | hpm
        · exact Fc.s0
        · rcases List.mem_cons.mp hpm with rfl | hpm
          · exact Fc.s1
          · obtain rfl : p = p2 := by simpa using hpm
            exact Fc.s2
      exact ⟨rfl, _, rfl, _, rfl, _, rfl, _, rfl, v, vp, m, N, p, d, kvs, val, rfl, dp_same s1 _ _ hv, Dr.fit sp, M1.hd, M1.dv, hN, fun t tm k' hk' => ⟨M1.lk k' (sp.tok t tm k' hk'), sm k' (sp.tok t tm k' hk')⟩, fun v' H' s2 d2 => ry v' H' s2 d2⟩
    · rintro pa ws H1 hpa s1 hpw hdw
      have M1 := M.sm s1
      obtain ⟨w0, w1, w2, rfl, e0, e1, e2⟩ : ∃ w0 w1 w2, ws = [w0, w1, w2] ∧ Dp K H1 w0 (m.enc N (pval m.alg val p0)) ∧ Dp K H1 w1 (m.enc N (pval m.alg val p1)) ∧ Dp K H1 w2 (m.enc N (pval m.alg val p2)) := by
        cases hdw with
        | cons a t =>
          cases t with
          | cons b t =>
            cases t with
            | cons c t =>
              cases t
              exact ⟨_, _, _, rfl, a, b, c⟩
      have k01 : Kp (atA q) H H1 := Same.kp s1
      -- the three
      refine ⟨3, rfl, by decide, by decide, ?_⟩
      refine for_it walk_range (fun i σ H2 => ∃ y10 y11, σ = [some (.ref q), some (.str m.nm), some (.ref pl), some (.ref d), some tv, some vp, some v0, some v1, some v2, some (.ref pa), y10, y11, none, none, none] ∧ Kp (atA q) H1 H2 ∧ Pl q c ns H2) ⟨_, _, rfl, Kp.refl, M1.pool⟩ (fun _ _ _ _ _ => trivial) ?_ ?_
      · rintro i x σ _ H2 hi ⟨y10, y11, rfl, k2, p2'⟩ ⟨rfl, rfl⟩
        have hi3 : i < 3 := hi
        have M2 := M1.kp k2 p2'
        have z1 := envP.ns M1.pool
        have hpa2 := k2 _ _ (pl_ne M1.pool hpw) hpw
        obtain ⟨vi, wi, pi, hvi, hwi, dvi, dwi, spi⟩ : ∃ vi wi pi, [v0, v1, v2][i]? = some vi ∧ [w0, w1, w2][i]? = some wi ∧ Dp K H2 vi (ePoly pi) ∧ Dp K H2 wi (m.enc N (pval m.alg val pi)) ∧ Dr toks pi := by
          have : i = 0 ∨ i = 1 ∨ i = 2 := by omega
          rcases this with rfl | rfl | rfl
          · exact ⟨v0, w0, p0, rfl, rfl, M2.d0, dp_kp z1 k2 _ _ e0, Fc.s0⟩
          · exact ⟨v1, w1, p1, rfl, rfl, M2.d1, dp_kp z1 k2 _ _ e1, Fc.s1⟩
          · exact ⟨v2, w2, p2, rfl, rfl, M2.d2, dp_kp z1 k2 _ _ e2, Fc.s2⟩
        have ix : ∀ {xs : List V} {v : V}, xs[i]? = some v → atI xs (0 + (i : Int)) = some v := fun h => by
          rw [Int.zero_add]
          exact atI_nat h
        have pp := plain_poly (Dr.fit spi)
        refine ⟨_, rfl, _, rfl, _, rfl, pl, _, _, vi, rfl, rfl, .inl (.inl M2.hpl), ix hvi, q, c, ns, vi, ePoly pi, rfl, M2.pool, dvi, Nat.lt_of_le_of_lt pp.dep (by decide), pp.nol, pp.wid, fun a3 H3 k3 p3 f3 => ?_⟩
        have M3 := M2.kp k3 p3
        refine ⟨_, rfl, _, rfl, _, rfl, q, c, ns, tv, _, rfl, p3, M3.dt, Nat.lt_of_le_of_lt Fc.pg.dep (by decide), Fc.pg.nol, Fc.pg.wid, fun a4 H4 k4 p4 f4 => ?_⟩
        refine ⟨a3, a4, m, N, pi, gs, val, rfl, f3.kp (envP.ns p3) k4, Dr.fit spi, f4, hN, Given.of Fc.gv spi, fun a5 H5 s5 d5 => ?_⟩
        have k25 := k3.trans (k4.trans (Same.kp s5))
        have hpa5 := k25 _ _ (pl_ne p2' hpa2) hpa2
        have dw5 := dp_kp (envP.ns p2') k25 _ _ dwi
        exact ⟨_, rfl, _, rfl, pa, _, _, wi, rfl, rfl, .inl (.inl hpa5), ix hwi, a5, wi, _, rfl, d5, dw5, pd _, (pe _).nol, (pe _).wid, _, rfl, ifF rfl ⟨_, _, rfl, k2.trans k25, envP.sm p4 s5⟩⟩
      · rintro σ H2 ⟨y10, y11, rfl, k2, p2'⟩
        have M2 := M1.kp k2 p2'
        have z1 := envP.ns M1.pool
        have hpa2 := k2 _ _ (pl_ne M1.pool hpw) hpw
        have g0 := dp_kp z1 k2 _ _ e0
        have g1 := dp_kp z1 k2 _ _ e1
        have g2 := dp_kp z1 k2 _ _ e2
        have k02 := k01.trans k2
        have x0 := atI_nat (xs := [w0, w1, w2]) (j := 0) rfl
        have x1 := atI_nat (xs := [w0, w1, w2]) (j := 1) rfl
        have x2 := atI_nat (xs := [w0, w1, w2]) (j := 2) rfl
        have pos0 := f0.ok.pos
        have pos1 := f1.ok.pos
        have pos2 := f2.ok.pos
        have mp0 := f0.ok.mpos
        have mp1 := f1.ok.mpos
        have mp2 := f2.ok.mpos
        have sPQ := small_plus Fc.s0 Fc.s1
        have sTQ := small_times Fc.s0 Fc.s1
        have sPR := small_times Fc.s0 Fc.s2
        have sQR := small_times Fc.s1 Fc.s2
        have sL := small_times sPQ Fc.s2
        have sR := small_plus sPR sQR
        have ePQ := pval_pplus m.alg val pos0 pos1
        have eTQ := pval_ptimes m.alg val pos0 mp0 pos1 mp1
        have ePR := pval_ptimes m.alg val pos0 mp0 pos2 mp2
        have eQR := pval_ptimes m.alg val pos1 mp1 pos2 mp2
        have eL := pval_ptimes m.alg val sPQ.ok.pos sPQ.ok.mpos pos2 mp2
        have eR := pval_pplus m.alg val sPR.ok.pos sQR.ok.pos
        -- the sum
        refine ⟨_, rfl, _, rfl, pa, _, _, w0, rfl, rfl, .inl (.inl hpa2), x0, _, rfl, pa, _, _, w1, rfl, rfl, .inl (.inl hpa2), x1, m, N, w0, w1, _, _, rfl, hN, g0, g1, fun b3 H3 s3 d3 => ?_⟩
        have hpa3 := s3 _ _ hpa2
        refine ⟨_, rfl, _, rfl, pa, _, _, w0, rfl, rfl, .inl (.inl hpa3), x0, _, rfl, pa, _, _, w1, rfl, rfl, .inl (.inl hpa3), x1, m, N, w0, w1, _, _, rfl, hN, .inl (dp_same s3 _ _ g0), .inl (dp_same s3 _ _ g1), fun b4 H4 s4 d4 => ?_⟩
        refine ⟨_, rfl, b4, b3, _, rfl, d4, dp_same s4 _ _ d3, pd _, (pe _).nol, (pe _).wid, _, rfl, ifF rfl ?_⟩
        have s24 := same_trans s3 s4
        have M4 := M2.sm s24
        refine ⟨_, rfl, _, rfl, v0, v1, p0, p1, rfl, .inl M4.d0, .inl M4.d1, f0, f1, by have a := Fc.s0.len; have b := Fc.s1.len; omega, Small.fit sPQ (by decide) (by decide) (by decide), fun b5 H5 s5 d5 => ?_⟩
        have M5 := M4.sm s5
        refine ⟨_, rfl, _, rfl, b5, tv, m, N, _, gs, val, rfl, .inl d5, Small.fit sPQ (by decide) (by decide) (by decide), .inl M5.dt, hN, Given.of Fc.gv sPQ, fun b6 H6 s6 d6 => ?_⟩
        rw [ePQ] at d6
        have s36 := same_trans s4 (same_trans s5 s6)
        refine ⟨_, rfl, b6, b3, _, rfl, d6, dp_same s36 _ _ d3, pd _, (pe _).nol, (pe _).wid, _, rfl, ifF rfl ?_⟩
        have s26 := same_trans s3 s36
        have hpa6 := s26 _ _ hpa2
        -- the product
        have o0 := pval_ok (val := val) Fc.s0 (by decide) (by decide) sm
        have o1 := pval_ok (val := val) Fc.s1 (by decide) (by decide) sm
        have o2 := pval_ok (val := val) Fc.s2 (by decide) (by decide) sm
        have oPQ := pval_ok (val := val) sPQ (by decide) (by decide) sm
        rw [ePQ] at oPQ
        refine ⟨_, rfl, _, rfl, pa, _, _, w0, rfl, rfl, .inl (.inl hpa6), x0, _, rfl, pa, _, _, w1, rfl, rfl, .inl (.inl hpa6), x1, m, N, w0, w1, _, _, rfl, hN, dp_same s26 _ _ g0, dp_same s26 _ _ g1, o0, o1, fun b7 H7 s7 d7 => ?_⟩
        have s27 := same_trans s26 s7
        have hpa7 := s7 _ _ hpa6
        refine ⟨_, rfl, _, rfl, pa, _, _, w0, rfl, rfl, .inl (.inl hpa7), x0, _, rfl, pa, _, _, w1, rfl, rfl, .inl (.inl hpa7), x1, m, N, w0, w1, _, _, rfl, hN, .inl (dp_same s27 _ _ g0), .inl (dp_same s27 _ _ g1), o0, o1, fun b8 H8 s8 d8 => ?_⟩
        refine ⟨_, rfl, b8, b7, _, rfl, d8, dp_same s8 _ _ d7, pd _, (pe _).nol, (pe _).wid, _, rfl, ifF rfl ?_⟩
        have M8 := M2.sm (same_trans s27 s8)
        refine ⟨_, rfl, _, rfl, v0, v1, p0, p1, rfl, .inl M8.d0, .inl M8.d1, fitx Fc.s0 Fc.s1 (by decide) (by decide) (by decide) (by decide) (by decide) (by decide) (by decide), Small.fit sTQ (by decide) (by decide) (by decide), fun b9 H9 s9 d9 => ?_⟩
        have M9 := M8.sm s9
        refine ⟨_, rfl, _, rfl, b9, tv, m, N, _, gs, val, rfl, .inl d9, Small.fit sTQ (by decide) (by decide) (by decide), .inl M9.dt, hN, Given.of Fc.gv sTQ, fun c1 I1 t1 j1 => ?_⟩
        rw [eTQ] at j1
        refine ⟨_, rfl, c1, b7, _, rfl, j1, dp_same (same_trans s8 (same_trans s9 t1)) _ _ d7, pd _, (pe _).nol, (pe _).wid, _, rfl, ifF rfl ?_⟩
        have s2i := same_trans s27 (same_trans s8 (same_trans s9 t1))
        have s3i : Same H3 I1 := same_trans s36 (same_trans s7 (same_trans s8 (same_trans s9 t1)))
        have hpai := s2i _ _ hpa2
        -- both ways
        refine ⟨_, rfl, _, rfl, _, rfl, pa, _, _, w2, rfl, rfl, .inl (.inl hpai), x2, m, N, b3, w2, _, _, rfl, hN, dp_same s3i _ _ d3, dp_same s2i _ _ g2, oPQ, o2, fun c2 I2 t2 j2 => ?_⟩
        have Mi := M2.sm (same_trans s2i t2)
        refine ⟨_, rfl, _, rfl, v0, v1, p0, p1, rfl, .inl Mi.d0, .inl Mi.d1, f0, f1, by have a := Fc.s0.len; have b := Fc.s1.len; omega, Small.fit sPQ (by decide) (by decide) (by decide), fun c3 I3 t3 j3 => ?_⟩
        have Mi3 := Mi.sm t3
        refine ⟨_, rfl, c3, v2, pplus p0 p1, p2, rfl, .inl j3, .inl Mi3.d2, fitx sPQ Fc.s2 (by decide) (by decide) (by decide) (by decide) (by decide) (by decide) (by decide), Small.fit sL (by decide) (by decide) (by decide), fun c4 I4 t4 j4 => ?_⟩
        have Mi4 := Mi3.sm t4
        refine ⟨_, rfl, _, rfl, c4, tv, m, N, _, gs, val, rfl, .inl j4, Small.fit sL (by decide) (by decide) (by decide), .inl Mi4.dt, hN, Given.of Fc.gv sL, fun c5 I5 t5 j5 => ?_⟩
        rw [eL, ePQ] at j5
        have t25 := same_trans t3 (same_trans t4 t5)
        refine ⟨_, rfl, c5, c2, _, rfl, j5, dp_same t25 _ _ j2, pd _, (pe _).nol, (pe _).wid, _, rfl, ifF rfl ?_⟩
        have Mi5 := Mi4.sm t5
        refine ⟨_, rfl, _, rfl, v0, v2, p0, p2, rfl, .inl Mi5.d0, .inl Mi5.d2, fitx Fc.s0 Fc.s2 (by decide) (by decide) (by decide) (by decide) (by decide) (by decide) (by decide), Small.fit sPR (by decide) (by decide) (by decide), fun c6 I6 t6 j6 => ?_⟩
        have Mi6 := Mi5.sm t6
        refine ⟨_, rfl, _, rfl, v1, v2, p1, p2, rfl, .inl Mi6.d1, .inl Mi6.d2, fitx Fc.s1 Fc.s2 (by decide) (by decide) (by decide) (by decide) (by decide) (by decide) (by decide), Small.fit sQR (by decide) (by decide) (by decide), fun c7 I7 t7 j7 => ?_⟩
        have Mi7 := Mi6.sm t7
        refine ⟨c6, c7, ptimes p0 p2, ptimes p1 p2, rfl, .inl (dp_same t7 _ _ j6), .inl j7, Small.fit sPR (by decide) (by decide) (by decide), Small.fit sQR (by decide) (by decide) (by decide), by have a := sPR.len; have b := sQR.len; omega, Small.fit sR (by decide) (by decide) (by decide), fun c8 I8 t8 j8 => ?_⟩
        have Mi8 := Mi7.sm t8
        refine ⟨_, rfl, _, rfl, c8, tv, m, N, _, gs, val, rfl, .inl j8, Small.fit sR (by decide) (by decide) (by decide), .inl Mi8.dt, hN, Given.of Fc.gv sR, fun c9 I9 t9 j9 => ?_⟩
        have edist : m.alg.A.op (m.alg.M.op (pval m.alg val p0) (pval m.alg val p2)) (m.alg.M.op (pval m.alg val p1) (pval m.alg val p2)) = m.alg.M.op (m.alg.A.op (pval m.alg val p0) (pval m.alg val p1)) (pval m.alg val p2) := by
          rw [m.alg.M.comm (m.alg.A.op _ _), m.alg.dist, m.alg.M.comm (pval m.alg val p2), m.alg.M.comm (pval m.alg val p2)]
        rw [eR, ePR, eQR, edist] at j9
        have t29 := same_trans t25 (same_trans t6 (same_trans t7 (same_trans t8 t9)))
        have sZ := same_trans s2i (same_trans t2 t29)
        exact ⟨_, rfl, c9, c2, _, rfl, j9, dp_same t29 _ _ j2, pd _, (pe _).nol, (pe _).wid, k _ (k02.trans (Same.kp sZ)) (envP.sm p2' sZ)⟩
end
end K8
/-! K8W2: the law. -/
namespace K8
open PySem PySem.Spec PyProof.Rows L2
section
variable {P : Program} {w : World} {K : PySem.W.Frag} {mg : Str → Option Value} {base : Heap}
theorem polyOk_nil : PolyOk [] := ⟨List.Pairwise.nil, fun _ h => by simp at h, fun _ h => by simp at h⟩
theorem polyOk_one : PolyOk [([], 1)] := by
  refine ⟨List.pairwise_singleton _ _, fun t h => ?_, fun t h => ?_⟩
  · obtain rfl : t = ([], 1) := by simpa using h
    exact Nat.le_refl _
  · obtain rfl : t = ([], 1) := by simpa using h
    exact mono_nil
theorem fit_nil : Fit [] := ⟨polyOk_nil, Nat.zero_le _, Nat.zero_le _, fun _ h => by simp at h, fun _ h => by simp at h⟩
theorem fit_one : Fit [([], 1)] := by
  refine ⟨polyOk_one, (show 1 ≤ 400 by decide), (show 1 ≤ 10 ^ 9 by decide), fun t h => ?_, fun _ _ _ _ => trivial⟩
  obtain rfl : t = ([], 1) := by simpa using h
  exact Nat.zero_le _
theorem pval_nil {m : Ms} (val : Str → m.car) : pval m.alg val [] = m.alg.A.un := rfl
theorem pval_one {m : Ms} (val : Str → m.car) : pval m.alg val [([], 1)] = m.alg.M.un := by
  have h := pval_snoc m.alg val [] ([], 1)
  rw [List.nil_append] at h
  rw [h, pval_nil, m.alg.A.unit, m.alg.act_one]
  rfl
theorem Given.none {m : Ms} {N toks : List Str} {val : Str → m.car} {gs : List (Str × PyData)} {p : Poly} (g : Given m N (fun k => k ∈ toks) val gs) (h : ∀ k, ¬ ∃ t ∈ p, k ∈ keys t.1) : Given m N (fun k => ∃ t ∈ p, k ∈ keys t.1) val gs :=
  ⟨g.nd, g.len, fun k hk => absurd hk (h k), g.all⟩
/-- what stands while the measures are walked -/
structure LawC (K : PySem.W.Frag) (q c : Addr) (ns : List Int) (tl pl : Addr) (vp v0 v1 v2 : V) (N toks : List Str) (p0 p1 p2 : Poly) (H : Hp) : Prop where
  pool : Pl q c ns H
  htl : H tl = some (.lst (toks.map V.str))
  hpl : H pl = some (.lst [v0, v1, v2])
  d0 : Dp K H v0 (ePoly p0)
  d1 : Dp K H v1 (ePoly p1)
  d2 : Dp K H v2 (ePoly p2)
  dv : Dp K H vp (.tuple (N.map encStr.e))
theorem LawC.kp {q c : Addr} {ns : List Int} {tl pl : Addr} {vp v0 v1 v2 : V} {N toks : List Str} {p0 p1 p2 : Poly} {H H' : Hp} (M : LawC K q c ns tl pl vp v0 v1 v2 N toks p0 p1 p2 H) (k : Kp (atA q) H H') (p : Pl q c ns H') : LawC K q c ns tl pl vp v0 v1 v2 N toks p0 p1 p2 H' := by
  have z := envP.ns M.pool
  exact ⟨p, k _ _ (pl_ne M.pool M.htl) M.htl, k _ _ (pl_ne M.pool M.hpl) M.hpl, dp_kp z k _ _ M.d0, dp_kp z k _ _ M.d1, dp_kp z k _ _ M.d2, dp_kp z k _ _ M.dv⟩
theorem LawC.sm {q c : Addr} {ns : List Int} {tl pl : Addr} {vp v0 v1 v2 : V} {N toks : List Str} {p0 p1 p2 : Poly} {H H' : Hp} (M : LawC K q c ns tl pl vp v0 v1 v2 N toks p0 p1 p2 H) (s : Same H H') : LawC K q c ns tl pl vp v0 v1 v2 N toks p0 p1 p2 H' := M.kp (Same.kp s) (envP.sm M.pool s)
abbrev n_q_law : List Str := ["_law_script", "_law_pool_here", "_law_tokens_here", "_law_persons_here", "_law_polys", "_law_k", "_law_measure", "_law_values", "_law_pairs", "_law_zero_here", "_law_one_here"]
theorem sc_q_law : FnScope n_q_law ["_law_script"] (defScope s_q_law) := ⟨rfl, rfl, rfl, by decide +kernel, rfl, by decide +kernel, by decide +kernel⟩

def spLaw (K : PySem.W.Frag) : Sp := fun vs H Q _ => ∃ (a : Addr) (zs : List Int), vs = [.ref a] ∧ SqL K H a (zs.map V.int) ∧ zs.length ≤ 63 ∧ ∀ H', Q (.bl true) H'
theorem ok_law {f za oa : Addr} {fd : FuncData} (B : Bl mg) (g_ZERO : mg "ZERO" = some (.ref za)) (g_ONE : mg "ONE" = some (.ref oa)) (hZ : ∀ H, Dp K H (.ref za) (ePoly [])) (hO : ∀ H, Dp K H (.ref oa) (ePoly [([], 1)]))
    (c_q_pool : Cal P w K mg base 1 "_law_pool" ["_law_script"] (spPool K)) (c_q_take : Cal P w K mg base 2 "_law_take" ["_law_pool_here", "_law_many"] spTake) (c_q_tokens : Cal P w K mg base 3 "_law_tokens" ["_law_pool_here", "_law_many"] (spToks K)) (c_q_persons : Cal P w K mg base 3 "_law_persons" ["_law_pool_here", "_law_many"] (spPersons K))
    (c_q_drawn_poly : Cal P w K mg base 3 "_law_drawn_poly" ["_law_pool_here", "_law_tokens_here", "_law_most"] (spDPoly K)) (c_q_same : Cal P w K mg base 6 "_law_same" ["_law_actual", "_law_due"] (spSame K 5)) (c_d_plus : Cal P w K mg base 3 "plus" ["p", "q"] (spPlus K)) (c_d_times : Cal P w K mg base 3 "times" ["p", "q"] (spTimes K))
    (c_q_listed : Cal P w K mg base 7 "_law_listed" ["_law_pool_here", "_law_value"] (spListed K)) (c_q_plus : Cal P w K mg base 3 "_law_plus" ["_law_p", "_law_q"] (spLPlus K)) (c_q_times : Cal P w K mg base 3 "_law_times" ["_law_p", "_law_q"] (spLTimes K)) (c_q_given : Cal P w K mg base 5 "_law_given" ["_law_pool_here", "_law_measure", "_law_tokens_here", "_law_persons_here"] (spGiven K))
    (c_q_met : Cal P w K mg base 8 "_law_met" ["_law_pool_here", "_law_measure", "_law_polys", "_law_values", "_law_pairs", "_law_persons_here"] (spMet K)) (c_d_measured_zero : Cal P w K mg base 1 "measured_zero" ["measure", "persons"] (spMZero K)) (c_d_measured_one : Cal P w K mg base 1 "measured_one" ["measure", "persons"] (spMOne K)) (c_q_zero : Cal P w K mg base 1 "_law_zero" ["_law_measure", "_law_persons_here"] (spMZero K)) (c_q_one : Cal P w K mg base 1 "_law_one" ["_law_measure", "_law_persons_here"] (spLOne K))
    (c_d_valued : Cal P w K mg base 3 "valued" ["p", "measure", "given"] (spValued K)) (F : FnP K "law" s_q_law f fd) : FnOk P w K mg base CX0 9 f fd ["_law_script"] (spLaw K) := by
  have r_ZERO : RelV (.ref za) (.ref za) := rfl
  have r_ONE : RelV (.ref oa) (.ref oa) := rfl
  refine F.ok sc_q_law (fun vs H Q E h => ?_) (fun cdv A outer s H vs Q E hr h => ?_)
  · obtain ⟨a, zs, rfl, _⟩ := h
    rfl
  · obtain ⟨a, zs, rfl, ha, hl63, k⟩ := h
    refine ⟨_, PSs.nox (pss_cons (ps_set (i := 1) sc_q_law.nd rfl (.inr rfl) (pe_u c_q_pool hr (by omega) (by rfl) (pa_cons (pv 0) pa_nil))) (pss_cons (ps_set (i := 2) sc_q_law.nd rfl (.inr rfl) (pe_u c_q_tokens hr (by omega) (by rfl) (pa_cons (pv 1) (pa_cons (pe_u c_q_take hr (by omega) (by rfl) (pa_cons (pv 1) (pa_cons pe_int pa_nil))) pa_nil)))) (pss_cons (ps_set (i := 3) sc_q_law.nd rfl (.inl rfl) (pe_u c_q_persons hr (by omega) (by rfl) (pa_cons (pv 1) (pa_cons (pe_u c_q_take hr (by omega) (by rfl) (pa_cons (pv 1) (pa_cons pe_int pa_nil))) pa_nil)))) (pss_cons (ps_setLc (i := 4) (own := [("_law_k", 5)]) (g := _) (tt := _) (te := _) rfl sc_q_law.nd rfl rfl (sw_true rfl rfl rfl (by decide +kernel)) (pi_range1 (by rfl) B.range (pa_cons pe_int pa_nil)) (blkOk_by (N := n_q_law) (sc := defScope s_q_law) (by decide +kernel)) (fun _ _ _ _ _ => (pg_name (i := 5) sc_q_law.nd rfl (.inl rfl) (by first | exact .inl rfl | exact .inr rfl))) (fun _ _ _ _ _ => pts_nil) (fun _ _ _ _ _ => (pe_u c_q_drawn_poly hr (by omega) (by rfl) (pa_cons (pv 1) (pa_cons (pv 2) (pa_cons pe_int pa_nil)))))) (pss_cons (ps_if (pt_not (pt_val (pe_u c_q_same hr (by omega) (by rfl) (pa_cons (pe_tup (pa_cons (pe_glob rfl g_ZERO r_ZERO) (pa_cons (pe_glob rfl g_ONE r_ONE) pa_nil))) (pa_cons (pe_tup (pa_cons (pe_tup pa_nil) (pa_cons (pe_tup (pa_cons (pe_tup (pa_cons (pe_tup pa_nil) (pa_cons pe_int pa_nil))) pa_nil)) pa_nil))) pa_nil))))) (pss_one (ps_ret pe_bl)) pss_nil) (pss_cons (ps_if (pt_not (pt_val (pe_u c_q_same hr (by omega) (by rfl) (pa_cons (pe_uk c_d_plus hr (by omega) (by rfl) (pk_cons (pe_ix ix_list (pv 4) pe_int (fun _ _ => rfl)) (pk_cons (pe_u c_q_listed hr (by omega) (by rfl) (pa_cons (pv 1) (pa_cons (pe_ix ix_list (pv 4) pe_int (fun _ _ => rfl)) pa_nil))) pk_nil)) (by rfl)) (pa_cons (pe_u c_q_plus hr (by omega) (by rfl) (pa_cons (pe_ix ix_list (pv 4) pe_int (fun _ _ => rfl)) (pa_cons (pe_ix ix_list (pv 4) pe_int (fun _ _ => rfl)) pa_nil))) pa_nil))))) (pss_one (ps_ret pe_bl)) pss_nil) (pss_cons (ps_if (pt_not (pt_val (pe_u c_q_same hr (by omega) (by rfl) (pa_cons (pe_uk c_d_times hr (by omega) (by rfl) (pk_cons (pe_u c_q_listed hr (by omega) (by rfl) (pa_cons (pv 1) (pa_cons (pe_ix ix_list (pv 4) pe_int (fun _ _ => rfl)) pa_nil))) (pk_cons (pe_ix ix_list (pv 4) pe_int (fun _ _ => rfl)) pk_nil)) (by rfl)) (pa_cons (pe_u c_q_times hr (by omega) (by rfl) (pa_cons (pe_ix ix_list (pv 4) pe_int (fun _ _ => rfl)) (pa_cons (pe_ix ix_list (pv 4) pe_int (fun _ _ => rfl)) pa_nil))) pa_nil))))) (pss_one (ps_ret pe_bl)) pss_nil) (pss_cons (ps_for PassesOwn.never rfl (pi_seq (pe_lst (pa_cons pe_str (pa_cons pe_str (pa_cons pe_str (pa_cons pe_str (pa_cons pe_str pa_nil))))))) (pg_name (i := 6) sc_q_law.nd rfl (.inl rfl)) (pss_cons (ps_asg (pe_u c_q_given hr (by omega) (by rfl) (pa_cons (pv 1) (pa_cons (pv 6) (pa_cons (pv 2) (pa_cons (pv 3) pa_nil))))) (pg_seq rfl (pgs_cons (pg_name (i := 7) sc_q_law.nd rfl (.inl rfl)) (pgs_cons (pg_name (i := 8) sc_q_law.nd rfl (.inl rfl)) pgs_nil)))) (pss_cons (ps_if (pt_not (pt_val (pe_u c_q_met hr (by omega) (by rfl) (pa_cons (pv 1) (pa_cons (pv 6) (pa_cons (pv 4) (pa_cons (pv 7) (pa_cons (pv 8) (pa_cons (pv 3) pa_nil))))))))) (pss_one (ps_ret pe_bl)) pss_nil) (pss_cons (ps_set (i := 9) sc_q_law.nd rfl (.inl rfl) (pe_u c_d_measured_zero hr (by omega) (by rfl) (pa_cons (pv 6) (pa_cons (pe_u c_q_listed hr (by omega) (by rfl) (pa_cons (pv 1) (pa_cons (pv 3) pa_nil))) pa_nil)))) (pss_cons (ps_set (i := 10) sc_q_law.nd rfl (.inl rfl) (pe_uk c_d_measured_one hr (by omega) (by rfl) (pk_cons (pv 6) (pk_cons (pv 3) pk_nil)) (by rfl))) (pss_cons (ps_if (PW.pt (pw_or (pt_not (pt_val (pe_u c_q_same hr (by omega) (by rfl) (pa_cons (pv 9) (pa_cons (pe_u c_q_zero hr (by omega) (by rfl) (pa_cons (pv 6) (pa_cons (pv 3) pa_nil))) pa_nil))))) (pw_or1 (pt_not (pt_val (pe_u c_q_same hr (by omega) (by rfl) (pa_cons (pv 10) (pa_cons (pe_u c_q_one hr (by omega) (by rfl) (pa_cons (pv 6) (pa_cons (pv 3) pa_nil))) pa_nil)))))))) (pss_one (ps_ret pe_bl)) pss_nil) (pss_one (ps_if (PW.pt (pw_or (pt_not (pt_val (pe_u c_q_same hr (by omega) (by rfl) (pa_cons (pe_u c_d_valued hr (by omega) (by rfl) (pa_cons (pe_glob rfl g_ZERO r_ZERO) (pa_cons (pv 6) (pa_cons (pv 8) pa_nil)))) (pa_cons (pv 9) pa_nil))))) (pw_or1 (pt_not (pt_val (pe_u c_q_same hr (by omega) (by rfl) (pa_cons (pe_u c_d_valued hr (by omega) (by rfl) (pa_cons (pe_glob rfl g_ONE r_ONE) (pa_cons (pv 6) (pa_cons (pv 8) pa_nil)))) (pa_cons (pv 10) pa_nil)))))))) (pss_one (ps_ret pe_bl)) pss_nil)))))))) (pss_one (ps_ret pe_bl)))))))))), ?_⟩
    refine ⟨_, rfl, a, zs, rfl, ha, hl63, fun q c ns H1 s1 P1 => ?_⟩
    -- tokens
    refine ⟨_, rfl, _, rfl, q, c, ns, 6, rfl, P1, by decide, by decide, fun r2 H2 a2 b2 k2 P2 => ?_⟩
    obtain ⟨n2, rfl⟩ := Int.eq_ofNat_of_zero_le a2
    refine ⟨q, c, ns, n2, rfl, P2, by omega, fun tl toks H3 k3 P3 htl _ nd ht htn => ?_⟩
    have htok : ∀ t ∈ toks, SOk t := fun t h => (ht t h).ok
    -- persons
    refine ⟨_, rfl, _, rfl, q, c, ns, 5, rfl, P3, by decide, by decide, fun r4 H4 a4 b4 k4 P4 => ?_⟩
    obtain ⟨n4, rfl⟩ := Int.eq_ofNat_of_zero_le a4
    refine ⟨q, c, ns, n4, rfl, P4, by omega, fun vp N H5 k5 P5 dv hN hN5 => ?_⟩
    have k35 := k4.trans k5
    have htl5 := k35 _ _ (pl_ne P3 htl) htl
    -- polys
    refine ⟨3, rfl, by decide, by decide, ?_⟩
    refine lc_dat (K := K) (walk_range (lo := 0) (n := ((3 : Int)).toNat)) (envP (q := q) (c := c) (ns := ns)) (H0 := H5) P5 (fun _ _ _ => trivial) ePoly nol_poly (fun i zs => zs.length = i ∧ ∀ z ∈ zs, Dr toks z) ⟨rfl, fun z h => by simp at h⟩ (by decide) ?_ ?_
    · rintro i x _ H6 zs Ry Rn hi ⟨iv0, iv⟩ k6 P6 ⟨rfl, rfl⟩ ry rn
      refine ⟨rfl, _, rfl, _, rfl, q, c, tl, ns, toks, rfl, P6, k6 _ _ (pl_ne P5 htl5) htl5, htok, htn, fun v' p H7 k7 P7 d7 s7 => ry v' H7 p k7 P7 d7 ⟨by rw [List.length_append, iv0]; rfl, fun z hz => ?_⟩⟩
      rcases List.mem_append.mp hz with hz | hz
      · exact iv z hz
      · obtain rfl : z = p := by simpa using hz
        exact s7
    · rintro pl ws ps H6 hpl k6 P6 hpw hdw ⟨iv0, iv⟩
      have l3 : ps.length = 3 := iv0
      obtain ⟨p0, p1, p2, rfl⟩ : ∃ p0 p1 p2, ps = [p0, p1, p2] := by
        match ps, l3 with
        | [p0, p1, p2], _ => exact ⟨p0, p1, p2, rfl⟩
      have s0 := iv p0 List.mem_cons_self
      have s1' := iv p1 (List.mem_cons_of_mem _ List.mem_cons_self)
      have s2 := iv p2 (List.mem_cons_of_mem _ (List.mem_cons_of_mem _ List.mem_cons_self))
      obtain ⟨v0, v1, v2, rfl, e0, e1, e2⟩ : ∃ v0 v1 v2, ws = [v0, v1, v2] ∧ Dp K H6 v0 (ePoly p0) ∧ Dp K H6 v1 (ePoly p1) ∧ Dp K H6 v2 (ePoly p2) := by
        cases hdw with
        | cons a t =>
          cases t with
          | cons b t =>
            cases t with
            | cons c t =>
              cases t
              exact ⟨_, _, _, rfl, a, b, c⟩
      have L6 : LawC K q c ns tl pl vp v0 v1 v2 N toks p0 p1 p2 H6 := ⟨P6, k6 _ _ (pl_ne P5 htl5) htl5, hpw, e0, e1, e2, dp_kp (envP.ns P5) k6 _ _ dv⟩
      clear k6 P6 hpw hdw e0 e1 e2 hpl
      have f0 := Dr.fit s0
      have f1 := Dr.fit s1'
      have sPQ := small_plus s0 s1'
      have sTQ := small_times s0 s1'
      have fPQ : Fit (pplus p0 p1) := Small.fit sPQ (by decide) (by decide) (by decide)
      have fTQ : Fit (ptimes p0 p1) := Small.fit sTQ (by decide) (by decide) (by decide)
      have x0 := atI_nat (xs := [v0, v1, v2]) (j := 0) rfl
      have x1 := atI_nat (xs := [v0, v1, v2]) (j := 1) rfl
      have pp0 := plain_poly f0
      have pp1 := plain_poly f1
      have ppPQ := plain_poly fPQ
      have ppTQ := plain_poly fTQ
      -- zero and one
      refine ⟨sz2, fun T hT => ?_⟩
      have t1 := Same.new (o := .tup [V.ref za, V.ref oa]) hT
      have dT : Dp K (upd H6 T (.tup [V.ref za, V.ref oa])) (.ref T) (.tuple [ePoly [], ePoly [([], 1)]]) := dp_pair (.inl (.inl upd_same)) (hZ _) (hO _)
      have L7 := L6.sm t1
      generalize (upd H6 T (.tup [V.ref za, V.ref oa])) = H7 at dT L7
      refine ⟨Nat.zero_le _, fun a1 ha1 => ?_⟩
      have t2 := Same.new (o := .tup []) ha1
      have dA : Dp K (upd H7 a1 (.tup [])) (.ref a1) (ePoly []) := .tup (.inl (.inl upd_same)) .nil
      generalize (upd H7 a1 (.tup [])) = H8 at t2 dA
      refine ⟨Nat.zero_le _, fun a2 ha2 => ?_⟩
      have t3 := Same.new (o := .tup []) ha2
      have dB : Dp K (upd H8 a2 (.tup [])) (.ref a2) (eMono []) := .tup (.inl (.inl upd_same)) .nil
      generalize (upd H8 a2 (.tup [])) = H9 at t3 dB
      refine ⟨sz2, fun a3 ha3 => ?_⟩
      have t4 := Same.new (o := .tup [V.ref a2, V.int 1]) ha3
      have dC : Dp K (upd H9 a3 (.tup [V.ref a2, V.int 1])) (.ref a3) (eTerm ([], 1)) := dp_pair (.inl (.inl upd_same)) (dp_same t4 _ _ dB) (.int 1)
      generalize (upd H9 a3 (.tup [V.ref a2, V.int 1])) = H10 at t4 dC
      refine ⟨sz1, fun a4' ha4 => ?_⟩
      have t5 := Same.new (o := .tup [V.ref a3]) ha4
      have dD : Dp K (upd H10 a4' (.tup [V.ref a3])) (.ref a4') (ePoly [([], 1)]) := dp_tup (.inl (.inl upd_same)) (.cons (dp_same t5 _ _ dC) .nil)
      generalize (upd H10 a4' (.tup [V.ref a3])) = H11 at t5 dD
      refine ⟨sz2, fun a5 ha5 => ?_⟩
      have t6 := Same.new (o := .tup [V.ref a1, V.ref a4']) ha5
      have tAll := same_trans t2 (same_trans t3 (same_trans t4 (same_trans t5 t6)))
      have dE : Dp K (upd H11 a5 (.tup [V.ref a1, V.ref a4'])) (.ref a5) (.tuple [ePoly [], ePoly [([], 1)]]) := dp_pair (.inl (.inl upd_same)) (dp_same (same_trans t3 (same_trans t4 (same_trans t5 t6))) _ _ dA) (dp_same t6 _ _ dD)
      refine ⟨.ref T, .ref a5, _, rfl, dp_same tAll _ _ dT, dE, by decide, rfl, rfl, _, rfl, ifF rfl ?_⟩
      have L12 := L7.sm tAll
      generalize (upd H11 a5 (.tup [V.ref a1, V.ref a4'])) = H12 at L12
      clear dT dA dB dC dD dE tAll t2 t3 t4 t5 t6 L7 L6
      -- plus
      refine ⟨_, rfl, pl, _, _, v0, rfl, rfl, .inl (.inl L12.hpl), x0, _, rfl, _, rfl, pl, _, _, v1, rfl, rfl, .inl (.inl L12.hpl), x1, q, c, ns, v1, ePoly p1, rfl, L12.pool, L12.d1, Nat.lt_of_le_of_lt pp1.dep (by decide), pp1.nol, pp1.wid, fun b1 I1 m1 Q1 g1 => ?_⟩
      have L13 := L12.kp m1 Q1
      refine ⟨v0, b1, p0, p1, rfl, .inl L13.d0, g1, f0, f1, by have a := s0.len; have b := s1'.len; omega, fPQ, fun b2 I2 u2 g2 => ?_⟩
      have L14 := L13.sm u2
      refine ⟨_, rfl, pl, _, _, v0, rfl, rfl, .inl (.inl L14.hpl), x0, _, rfl, pl, _, _, v1, rfl, rfl, .inl (.inl L14.hpl), x1, v0, v1, p0, p1, rfl, L14.d0, L14.d1, by have a := s0.len; have b := s1'.len; omega, Dr.sok s0 htok, Dr.sok s1' htok, fun b3 I3 u3 g3 => ?_⟩
      refine ⟨b2, b3, _, rfl, dp_same u3 _ _ g2, g3, Nat.lt_of_le_of_lt ppPQ.dep (by decide), ppPQ.nol, ppPQ.wid, _, rfl, ifF rfl ?_⟩
      have L15 := L14.sm u3
      clear L12 L13 L14 g1 g2 g3
      -- times
      refine ⟨_, rfl, _, rfl, pl, _, _, v0, rfl, rfl, .inl (.inl L15.hpl), x0, q, c, ns, v0, ePoly p0, rfl, L15.pool, L15.d0, Nat.lt_of_le_of_lt pp0.dep (by decide), pp0.nol, pp0.wid, fun b4 I4 m4 Q4 g4 => ?_⟩
      have L16 := L15.kp m4 Q4
      have fx := fitx s0 s1' (by decide) (by decide) (by decide) (by decide) (by decide) (by decide) (by decide)
      refine ⟨_, rfl, pl, _, _, v1, rfl, rfl, .inl (.inl L16.hpl), x1, b4, v1, p0, p1, rfl, g4, .inl L16.d1, fx, fTQ, fun b5 I5 u5 g5 => ?_⟩
      have L17 := L16.sm u5
      refine ⟨_, rfl, pl, _, _, v0, rfl, rfl, .inl (.inl L17.hpl), x0, _, rfl, pl, _, _, v1, rfl, rfl, .inl (.inl L17.hpl), x1, v0, v1, p0, p1, rfl, L17.d0, L17.d1, fx, Dr.sok s0 htok, Dr.sok s1' htok, fun b6 I6 u6 g6 => ?_⟩
      refine ⟨b5, b6, _, rfl, dp_same u6 _ _ g5, g6, Nat.lt_of_le_of_lt ppTQ.dep (by decide), ppTQ.nol, ppTQ.wid, _, rfl, ifF rfl ?_⟩
      have L18 := L17.sm u6
      clear L15 L16 L17 g4 g5 g6
      -- the measures
      refine ⟨sz5, fun ml hml => ?_⟩
      have t9 := Same.new (o := .lst [V.str "count", V.str "cost", V.str "trust", V.str "there", V.str "seen"]) hml
      have hml9 : (upd I6 ml (.lst [V.str "count", V.str "cost", V.str "trust", V.str "there", V.str "seen"])) ml = some (.lst [V.str "count", V.str "cost", V.str "trust", V.str "there", V.str "seen"]) := upd_same
      have L19 := L18.sm t9
      generalize (upd I6 ml (.lst [V.str "count", V.str "cost", V.str "trust", V.str "there", V.str "seen"])) = J0 at hml9 L19
      refine ⟨ml, rfl, for_seq (M := atA q) (envP.ns L19.pool) (.inl (.inl (.inl hml9))) (fun i σ J1 => ∃ y5 y6 y7 y8 y9 y10, σ = [some (.ref a), some (.ref q), some (.ref tl), some vp, some (.ref pl), y5, y6, y7, y8, y9, y10] ∧ Kp (atA q) J0 J1 ∧ Pl q c ns J1) ⟨_, _, _, _, _, _, rfl, Kp.refl, L19.pool⟩ ?_ ?_ ?_⟩
      · rintro i σ J1 _ ⟨_, _, _, _, _, _, _, kk, _⟩
        exact kk
      · rintro i x σ J1 hi ⟨y5, y6, y7, y8, y9, y10, rfl, kk, PP⟩ hx
        obtain ⟨m, rfl⟩ : ∃ m : Ms, x = .str m.nm := by
          have hi5 : i < 5 := hi
          have : i = 0 ∨ i = 1 ∨ i = 2 ∨ i = 3 ∨ i = 4 := by omega
          rcases this with rfl | rfl | rfl | rfl | rfl
          · exact ⟨.count, (Option.some.inj hx).symm⟩
          · exact ⟨.cost, (Option.some.inj hx).symm⟩
          · exact ⟨.trust, (Option.some.inj hx).symm⟩
          · exact ⟨.there, (Option.some.inj hx).symm⟩
          · exact ⟨.seen, (Option.some.inj hx).symm⟩
        have L1 := L19.kp kk PP
        have pe := fun (x : m.car) => plain_enc hN m x
        have pd : ∀ x : m.car, (m.enc N x).depth < 5 := fun x => Nat.lt_of_le_of_lt (pe x).dep (by decide)
        -- given
        refine ⟨_, rfl, _, rfl, _, rfl, _, rfl, q, c, tl, ns, m, vp, N, toks, rfl, PP, L1.htl, nd, ht, htn, hN, hN5, L1.dv, fun U d tv kvs gs val J2 k2 P2 ndq hU hd dt gv pg lk => ?_⟩
        have L2 := L1.kp k2 P2
        refine ⟨U, _, rfl, .inr hU, rfl, _, _, rfl, _, _, rfl, rfl, ?_⟩
        -- met
        have MC : MetC K q c ns pl d tv vp v0 v1 v2 m N toks kvs gs val p0 p1 p2 J2 := ⟨P2, L2.hpl, L2.d0, L2.d1, L2.d2, hd, ndq, dt, L2.dv, lk⟩
        refine ⟨_, rfl, _, rfl, _, rfl, _, rfl, _, rfl, _, rfl, q, c, ns, pl, d, tv, vp, v0, v1, v2, m, N, toks, kvs, gs, val, p0, p1, p2, rfl, MC, ⟨hN, gv, pg, s0, s1', s2⟩, fun J3 k3 P3 => ⟨_, rfl, ifF rfl ?_⟩⟩
        have L3 := L2.kp k3 P3
        have dt3 := dp_kp (envP.ns P2) k3 _ _ dt
        -- zero and one of it
        have ps := plain_strs (xs := N) (by omega)
        refine ⟨_, rfl, _, rfl, _, rfl, q, c, ns, vp, _, rfl, P3, L3.dv, Nat.lt_of_le_of_lt ps.dep (by decide), ps.nol, ps.wid, fun b7 J4 k4 P4 g7 => ?_⟩
        have L4 := L3.kp k4 P4
        have dt4 := dp_kp (envP.ns P3) k4 _ _ dt3
        refine ⟨m, N, b7, rfl, fun b8 J5 u5 g8 => ?_⟩
        have L5 := L4.sm u5
        refine ⟨_, rfl, _, rfl, m, N, vp, rfl, fun _ => .inl L5.dv, fun b9 J6 u6 g9 => ?_⟩
        have L6 := L5.sm u6
        refine ⟨_, rfl, _, rfl, _, rfl, m, N, vp, rfl, fun b10 J7 u7 g10 => ?_⟩
        have u67 := same_trans u6 u7
        refine ⟨b8, b10, _, rfl, dp_same u67 _ _ g8, g10, pd _, (pe _).nol, (pe _).wid, _, rfl, ifF rfl ?_⟩
        have L7 := L6.sm u7
        refine ⟨_, rfl, _, rfl, _, rfl, m, N, vp, rfl, L7.dv, fun b11 J8 u8 g11 => ?_⟩
        refine ⟨b9, b11, _, rfl, dp_same (same_trans u7 u8) _ _ g9, g11, pd _, (pe _).nol, (pe _).wid, _, rfl, ifF rfl ?_⟩
        have u58 := same_trans u67 u8
        have dt8 := dp_same (same_trans u5 u58) _ _ dt4
        have g88 := dp_same u58 _ _ g8
        have g98 := dp_same (same_trans u7 u8) _ _ g9
        have none0 : ∀ k, ¬ ∃ t ∈ ([] : Poly), k ∈ keys t.1 := fun k ⟨t, h, _⟩ => by simp at h
        have none1 : ∀ k, ¬ ∃ t ∈ ([([], 1)] : Poly), k ∈ keys t.1 := fun k ⟨t, h, h2⟩ => by
          obtain rfl : t = ([], 1) := by simpa using h
          simp [keys] at h2
        refine ⟨_, rfl, _, rfl, .ref za, tv, m, N, [], gs, val, rfl, .inl (hZ _), fit_nil, .inl dt8, hN, Given.none gv none0, fun b12 J9 u9 g12 => ?_⟩
        rw [pval_nil] at g12
        refine ⟨_, rfl, b12, b8, _, rfl, g12, dp_same u9 _ _ g88, pd _, (pe _).nol, (pe _).wid, _, rfl, ifF rfl ?_⟩
        refine ⟨_, rfl, _, rfl, .ref oa, tv, m, N, [([], 1)], gs, val, rfl, .inl (hO _), fit_one, .inl (dp_same u9 _ _ dt8), hN, Given.none gv none1, fun b13 J10 u10 g13 => ?_⟩
        rw [pval_one] at g13
        have u910 := same_trans u9 u10
        refine ⟨_, rfl, b13, b9, _, rfl, g13, dp_same u910 _ _ g98, pd _, (pe _).nol, (pe _).wid, _, rfl, ifF rfl ?_⟩
        have uZ := same_trans u5 (same_trans u58 u910)
        exact ⟨_, _, _, _, _, _, rfl, kk.trans (k2.trans (k3.trans (k4.trans (Same.kp uZ)))), envP.sm P4 uZ⟩
      · rintro σ J1 ⟨y5, y6, y7, y8, y9, y10, rfl, kk, PP⟩
        exact k J1
end
end K8
set_option maxHeartbeats 0
/-! K8Head: what the top leaves, by one run: each def's function object by its name, the constants, the built-ins that no name hides. -/
namespace K8
open PySem PySem.Spec PyProof.Rows L2
def D_d_frozen : He.DefD := ⟨("frozen", none), "frozen", "frozen", defArgs s_d_frozen, defBody s_d_frozen, defScope s_d_frozen, [], []⟩
def D_d_checked : He.DefD := ⟨("checked", none), "checked", "checked", defArgs s_d_checked, defBody s_d_checked, defScope s_d_checked, [], []⟩
def D_d_need_figures : He.DefD := ⟨("need_figures", none), "need_figures", "need_figures", defArgs s_d_need_figures, defBody s_d_need_figures, defScope s_d_need_figures, [], []⟩
def D_d_monomial_product : He.DefD := ⟨("monomial_product", none), "monomial_product", "monomial_product", defArgs s_d_monomial_product, defBody s_d_monomial_product, defScope s_d_monomial_product, [], []⟩
def D_d_plus : He.DefD := ⟨("plus", none), "plus", "plus", defArgs s_d_plus, defBody s_d_plus, defScope s_d_plus, [], []⟩
def D_d_times : He.DefD := ⟨("times", none), "times", "times", defArgs s_d_times, defBody s_d_times, defScope s_d_times, [], []⟩
def D_d_added : He.DefD := ⟨("added", none), "added", "added", defArgs s_d_added, defBody s_d_added, defScope s_d_added, [], []⟩
def D_d_multiplied : He.DefD := ⟨("multiplied", none), "multiplied", "multiplied", defArgs s_d_multiplied, defBody s_d_multiplied, defScope s_d_multiplied, [], []⟩
def D_d_tokens_of : He.DefD := ⟨("tokens_of", none), "tokens_of", "tokens_of", defArgs s_d_tokens_of, defBody s_d_tokens_of, defScope s_d_tokens_of, [], []⟩
def D_d_raised_within : He.DefD := ⟨("raised_within", none), "raised_within", "raised_within", defArgs s_d_raised_within, defBody s_d_raised_within, defScope s_d_raised_within, [], []⟩
def D_d_measured_zero : He.DefD := ⟨("measured_zero", none), "measured_zero", "measured_zero", defArgs s_d_measured_zero, defBody s_d_measured_zero, defScope s_d_measured_zero, [], []⟩
def D_d_measured_one : He.DefD := ⟨("measured_one", none), "measured_one", "measured_one", defArgs s_d_measured_one, defBody s_d_measured_one, defScope s_d_measured_one, [], []⟩
def D_d_measured_plus : He.DefD := ⟨("measured_plus", none), "measured_plus", "measured_plus", defArgs s_d_measured_plus, defBody s_d_measured_plus, defScope s_d_measured_plus, [], []⟩
def D_d_measured_times : He.DefD := ⟨("measured_times", none), "measured_times", "measured_times", defArgs s_d_measured_times, defBody s_d_measured_times, defScope s_d_measured_times, [], []⟩
def D_d_counted : He.DefD := ⟨("counted", none), "counted", "counted", defArgs s_d_counted, defBody s_d_counted, defScope s_d_counted, [], []⟩
def D_d_measured_power : He.DefD := ⟨("measured_power", none), "measured_power", "measured_power", defArgs s_d_measured_power, defBody s_d_measured_power, defScope s_d_measured_power, [], []⟩
def D_d_valued : He.DefD := ⟨("valued", none), "valued", "valued", defArgs s_d_valued, defBody s_d_valued, defScope s_d_valued, [], []⟩
def D_q_mixed : He.DefD := ⟨("_law_mixed", none), "_law_mixed", "_law_mixed", defArgs s_q_mixed, defBody s_q_mixed, defScope s_q_mixed, [], []⟩
def D_q_pool : He.DefD := ⟨("_law_pool", none), "_law_pool", "_law_pool", defArgs s_q_pool, defBody s_q_pool, defScope s_q_pool, [], []⟩
def D_q_take : He.DefD := ⟨("_law_take", none), "_law_take", "_law_take", defArgs s_q_take, defBody s_q_take, defScope s_q_take, [], []⟩
def D_q_tokens : He.DefD := ⟨("_law_tokens", none), "_law_tokens", "_law_tokens", defArgs s_q_tokens, defBody s_q_tokens, defScope s_q_tokens, [], []⟩
def D_q_sorted : He.DefD := ⟨("_law_sorted", none), "_law_sorted", "_law_sorted", defArgs s_q_sorted, defBody s_q_sorted, defScope s_q_sorted, [], []⟩
def D_q_poly : He.DefD := ⟨("_law_poly", none), "_law_poly", "_law_poly", defArgs s_q_poly, defBody s_q_poly, defScope s_q_poly, [], []⟩
def D_q_product : He.DefD := ⟨("_law_product", none), "_law_product", "_law_product", defArgs s_q_product, defBody s_q_product, defScope s_q_product, [], []⟩
def D_q_plus : He.DefD := ⟨("_law_plus", none), "_law_plus", "_law_plus", defArgs s_q_plus, defBody s_q_plus, defScope s_q_plus, [], []⟩
def D_q_times : He.DefD := ⟨("_law_times", none), "_law_times", "_law_times", defArgs s_q_times, defBody s_q_times, defScope s_q_times, [], []⟩
def D_q_drawn_poly : He.DefD := ⟨("_law_drawn_poly", none), "_law_drawn_poly", "_law_drawn_poly", defArgs s_q_drawn_poly, defBody s_q_drawn_poly, defScope s_q_drawn_poly, [], []⟩
def D_q_tokens_of : He.DefD := ⟨("_law_tokens_of", none), "_law_tokens_of", "_law_tokens_of", defArgs s_q_tokens_of, defBody s_q_tokens_of, defScope s_q_tokens_of, [], []⟩
def D_q_listed : He.DefD := ⟨("_law_listed", none), "_law_listed", "_law_listed", defArgs s_q_listed, defBody s_q_listed, defScope s_q_listed, [], []⟩
def D_q_lists : He.DefD := ⟨("_law_lists", none), "_law_lists", "_law_lists", defArgs s_q_lists, defBody s_q_lists, defScope s_q_lists, [], []⟩
def D_q_persons : He.DefD := ⟨("_law_persons", none), "_law_persons", "_law_persons", defArgs s_q_persons, defBody s_q_persons, defScope s_q_persons, [], []⟩
def D_q_some : He.DefD := ⟨("_law_some", none), "_law_some", "_law_some", defArgs s_q_some, defBody s_q_some, defScope s_q_some, [], []⟩
def D_q_drawn_value : He.DefD := ⟨("_law_drawn_value", none), "_law_drawn_value", "_law_drawn_value", defArgs s_q_drawn_value, defBody s_q_drawn_value, defScope s_q_drawn_value, [], []⟩
def D_q_zero : He.DefD := ⟨("_law_zero", none), "_law_zero", "_law_zero", defArgs s_q_zero, defBody s_q_zero, defScope s_q_zero, [], []⟩
def D_q_one : He.DefD := ⟨("_law_one", none), "_law_one", "_law_one", defArgs s_q_one, defBody s_q_one, defScope s_q_one, [], []⟩
def D_q_sum : He.DefD := ⟨("_law_sum", none), "_law_sum", "_law_sum", defArgs s_q_sum, defBody s_q_sum, defScope s_q_sum, [], []⟩
def D_q_both : He.DefD := ⟨("_law_both", none), "_law_both", "_law_both", defArgs s_q_both, defBody s_q_both, defScope s_q_both, [], []⟩
def D_q_valued : He.DefD := ⟨("_law_valued", none), "_law_valued", "_law_valued", defArgs s_q_valued, defBody s_q_valued, defScope s_q_valued, [], []⟩
def D_q_given : He.DefD := ⟨("_law_given", none), "_law_given", "_law_given", defArgs s_q_given, defBody s_q_given, defScope s_q_given, [], []⟩
def D_q_same : He.DefD := ⟨("_law_same", none), "_law_same", "_law_same", defArgs s_q_same, defBody s_q_same, defScope s_q_same, [], []⟩
def D_q_met : He.DefD := ⟨("_law_met", none), "_law_met", "_law_met", defArgs s_q_met, defBody s_q_met, defScope s_q_met, [], []⟩
def D_q_law : He.DefD := ⟨("law", none), "law", "law", defArgs s_q_law, defBody s_q_law, defScope s_q_law, [], []⟩
def fnL : List He.DefD := [D_d_frozen, D_d_checked, D_d_need_figures, D_d_monomial_product, D_d_plus, D_d_times, D_d_added, D_d_multiplied, D_d_tokens_of, D_d_raised_within, D_d_measured_zero, D_d_measured_one, D_d_measured_plus, D_d_measured_times, D_d_counted, D_d_measured_power, D_d_valued, D_q_mixed, D_q_pool, D_q_take, D_q_tokens, D_q_sorted, D_q_poly, D_q_product, D_q_plus, D_q_times, D_q_drawn_poly, D_q_listed, D_q_lists, D_q_persons, D_q_some, D_q_drawn_value, D_q_zero, D_q_one, D_q_sum, D_q_both, D_q_valued, D_q_given, D_q_same, D_q_met, D_q_law]
def faL : List He.Fa := [.glo "frozen", .glo "checked", .glo "need_figures", .glo "monomial_product", .glo "plus", .glo "times", .glo "added", .glo "multiplied", .glo "tokens_of", .glo "raised_within", .glo "measured_zero", .glo "measured_one", .glo "measured_plus", .glo "measured_times", .glo "counted", .glo "measured_power", .glo "valued", .glo "_law_mixed", .glo "_law_pool", .glo "_law_take", .glo "_law_tokens", .glo "_law_sorted", .glo "_law_poly", .glo "_law_product", .glo "_law_plus", .glo "_law_times", .glo "_law_drawn_poly", .glo "_law_listed", .glo "_law_lists", .glo "_law_persons", .glo "_law_some", .glo "_law_drawn_value", .glo "_law_zero", .glo "_law_one", .glo "_law_sum", .glo "_law_both", .glo "_law_valued", .glo "_law_given", .glo "_law_same", .glo "_law_met", .glo "law", .free "len", .free "range", .free "list", .free "tuple", .free "int", .free "str", .free "min", .free "max", .free "sorted", .free "any", .free "isinstance", .free "bool", .int "MOST_TERMS" 400, .int "FIRST_TOO_GREAT" (10 ^ 100), .int "MOST_TRUST" 100, .int "TOO_GREAT" (10 ^ 4000), .str "ALL" "", .glo "ZERO", .glo "ONE"]
def looseL : List Str := (["__name__", "TraceError", "NothingThere", "TooMany", "ZERO", "ONE", "MOST_TERMS", "FIRST_TOO_GREAT", "frozen", "checked", "need_figures", "monomial_product", "plus", "times", "added", "multiplied", "tokens_of", "raised_within", "MOST_TRUST", "ALL", "TOO_GREAT", "measured_zero", "measured_one", "measured_plus", "measured_times", "counted", "measured_power", "valued", "_law_mixed", "_law_pool"] : List Str) ++ (["_law_take", "_law_tokens", "_law_sorted", "_law_poly", "_law_product", "_law_plus", "_law_times", "_law_drawn_poly", "_law_tokens_of", "_law_listed", "_law_lists", "_law_persons", "_law_some", "_law_drawn_value", "_law_zero", "_law_one", "_law_sum", "_law_both", "_law_valued", "_law_given", "_law_same", "_law_met"] : List Str)
/-- ZERO is the empty tuple, ONE the tuple of the pair of the empty tuple and 1 -/
def tupAt (K : PySem.W.Frag) (a : Addr) (vs : List V) : Bool := match K.lookup a with
  | some ⟨.type c, _, .seq its _, _⟩ => decide (c = "tuple") && (decide (its.size ≤ sizeLine) && He.relAll vs its.toList)
  | _ => false
def itemAt (K : PySem.W.Frag) (a : Addr) (i : Nat) : Addr := match K.lookup a with
  | some ⟨_, _, .seq its _, _⟩ => (match its.toList[i]? with
    | some (.ref b) => b
    | _ => 0)
  | _ => 0
def exB (K : PySem.W.Frag) : Bool := tupAt K (He.ga K "ZERO") [] && (tupAt K (He.ga K "ONE") [.ref (itemAt K (He.ga K "ONE") 0)] &&
  (tupAt K (itemAt K (He.ga K "ONE") 0) [.ref (itemAt K (itemAt K (He.ga K "ONE") 0) 0), .int 1] && tupAt K (itemAt K (itemAt K (He.ga K "ONE") 0) 0) []))
theorem tupAt_ok {K : PySem.W.Frag} {a : Addr} {vs : List V} (h : tupAt K a vs = true) (H : Hp) : SqT K H a vs := by
  unfold tupAt at h
  cases q : K.lookup a with
  | none =>
    rw [q] at h
    cases h
  | some o =>
    obtain ⟨oc, od, dt, osl⟩ := o
    rw [q] at h
    cases oc with
    | type c =>
      cases dt with
      | seq its n =>
        obtain ⟨h1, h2⟩ := He.ba (show (decide (c = "tuple") && (decide (its.size ≤ sizeLine) && He.relAll vs its.toList)) = true from h)
        obtain ⟨h3, h4⟩ := He.ba h2
        exact .inr ⟨_, its, n, q, congrArg Value.type (of_decide_eq_true h1), rfl, of_decide_eq_true h3, He.relAll_ok h4⟩
      | _ => cases h
    | _ => cases dt <;> cases h
abbrev AlB : Type := He.AlD × Bool
def obsB (n : Nat) (fa : List He.Fa) (fn : List He.DefD) (ex : PySem.W.Frag → Bool) (g : Addr → Option Obj) : AlB := (He.obsD fa fn (He.frG g (He.asD g n)), ex (He.frG g (He.asD g n)))
def hookB (n : Nat) (fa : List He.Fa) (fn : List He.DefD) (ex : PySem.W.Frag → Bool) : PySem.W.Hook where
  α := AlB
  obs := fun s => obsB n fa fn ex s.heap.get?
  val := fun _ => (He.valD fn, true)
  says := fun _ h => ∃ K : PySem.W.Frag, K.In h ∧ He.SaysD fa fn K ∧ ex K = true
  of := fun _ _ e => ⟨_, He.frG_in, congrArg (fun z : AlB => z.1) e, congrArg (fun z : AlB => z.2) e⟩
  keeps := fun _ _ _ ⟨K, hK, c⟩ k => ⟨K, PySem.W.Frag.In.keeps hK k, c⟩
theorem obsB_eq {n : Nat} {fa : List He.Fa} {fn : List He.DefD} {ex : PySem.W.Frag → Bool} {g : Addr → Option Obj} {s : Shared} (h : ∀ a, g a = s.heap.get? a) : obsB n fa fn ex g = (hookB n fa fn ex).obs s := by
  have e : g = s.heap.get? := funext h
  rw [e] <;> rfl
abbrev R8 : PySem.W.OpenRow := PySem.W.OpenLaw.row PySem.Challenge.rw_ledgertrace_k08_whole_valuing_is_a_homom
abbrev hk8 : PySem.W.Hook := hookB 5 faL fnL exB
def ob8 (s : PySem.W.SharedT) : AlB := obsB 5 faL fnL exB (HandSHeadRun.getT s)
theorem ob8_eq (s : PySem.W.SharedT) : ob8 s = hk8.obs s.abs := obsB_eq (HandSHeadRun.getT_eq s)
theorem run8 (w : World) : HandSHeadRun.RunEq R8 (PySem.W.view R8.prog [55]) hk8 ob8 4000 looseL w := by
  intro os
  kernel_rfl
end K8
/-! K8End: the head's facts put into the walks; the theorem. -/
namespace K8
open PySem PySem.Spec PyProof.Rows L2
theorem great4000 : Great (10 ^ 4000) := ⟨Nat.pow_le_pow_right (by decide) (by decide), by decide +kernel⟩
theorem facts8 {P : Program} {w : World} {K : PySem.W.Frag} {h : Heap} {mg : Str → Option Value} {f : Addr} (X : K.In h) (G : h.Ns mainGlobals mg) (hfa : mg ("law" : Str) = some (.ref f)) (c : He.SaysD faL fnL K) (ex : exB K = true) :
    ∃ fd : FuncData, (∀ (s : Shared) (v : Value), BindsTo s fd ⟨[v], []⟩ [("_law_script", v)]) ∧ ∀ base : Heap, K.In base → base.Ns mainGlobals mg → FnOk P w K mg base CX0 9 f fd ["_law_script"] (spLaw K) := by
  obtain ⟨fd_d_frozen, F0_d_frozen⟩ := c.def_ 0 (d := D_d_frozen) rfl
  have F_d_frozen : FnP K "frozen" s_d_frozen (He.ga K "frozen") fd_d_frozen := F0_d_frozen
  have m_d_frozen : mg "frozen" = some (.ref (He.ga K "frozen")) := He.glo_ok X G (c.fact 0 (f := .glo "frozen") rfl)
  obtain ⟨fd_d_checked, F0_d_checked⟩ := c.def_ 1 (d := D_d_checked) rfl
  have F_d_checked : FnP K "checked" s_d_checked (He.ga K "checked") fd_d_checked := F0_d_checked
  have m_d_checked : mg "checked" = some (.ref (He.ga K "checked")) := He.glo_ok X G (c.fact 1 (f := .glo "checked") rfl)
  obtain ⟨fd_d_need_figures, F0_d_need_figures⟩ := c.def_ 2 (d := D_d_need_figures) rfl
  have F_d_need_figures : FnP K "need_figures" s_d_need_figures (He.ga K "need_figures") fd_d_need_figures := F0_d_need_figures
  have m_d_need_figures : mg "need_figures" = some (.ref (He.ga K "need_figures")) := He.glo_ok X G (c.fact 2 (f := .glo "need_figures") rfl)
  obtain ⟨fd_d_monomial_product, F0_d_monomial_product⟩ := c.def_ 3 (d := D_d_monomial_product) rfl
  have F_d_monomial_product : FnP K "monomial_product" s_d_monomial_product (He.ga K "monomial_product") fd_d_monomial_product := F0_d_monomial_product
  have m_d_monomial_product : mg "monomial_product" = some (.ref (He.ga K "monomial_product")) := He.glo_ok X G (c.fact 3 (f := .glo "monomial_product") rfl)
  obtain ⟨fd_d_plus, F0_d_plus⟩ := c.def_ 4 (d := D_d_plus) rfl
  have F_d_plus : FnP K "plus" s_d_plus (He.ga K "plus") fd_d_plus := F0_d_plus
  have m_d_plus : mg "plus" = some (.ref (He.ga K "plus")) := He.glo_ok X G (c.fact 4 (f := .glo "plus") rfl)
  obtain ⟨fd_d_times, F0_d_times⟩ := c.def_ 5 (d := D_d_times) rfl
  have F_d_times : FnP K "times" s_d_times (He.ga K "times") fd_d_times := F0_d_times
  have m_d_times : mg "times" = some (.ref (He.ga K "times")) := He.glo_ok X G (c.fact 5 (f := .glo "times") rfl)
  obtain ⟨fd_d_added, F0_d_added⟩ := c.def_ 6 (d := D_d_added) rfl
  have F_d_added : FnP K "added" s_d_added (He.ga K "added") fd_d_added := F0_d_added
  have m_d_added : mg "added" = some (.ref (He.ga K "added")) := He.glo_ok X G (c.fact 6 (f := .glo "added") rfl)
  obtain ⟨fd_d_multiplied, F0_d_multiplied⟩ := c.def_ 7 (d := D_d_multiplied) rfl
  have F_d_multiplied : FnP K "multiplied" s_d_multiplied (He.ga K "multiplied") fd_d_multiplied := F0_d_multiplied
  have m_d_multiplied : mg "multiplied" = some (.ref (He.ga K "multiplied")) := He.glo_ok X G (c.fact 7 (f := .glo "multiplied") rfl)
  obtain ⟨fd_d_tokens_of, F0_d_tokens_of⟩ := c.def_ 8 (d := D_d_tokens_of) rfl
  have F_d_tokens_of : FnP K "tokens_of" s_d_tokens_of (He.ga K "tokens_of") fd_d_tokens_of := F0_d_tokens_of
  have m_d_tokens_of : mg "tokens_of" = some (.ref (He.ga K "tokens_of")) := He.glo_ok X G (c.fact 8 (f := .glo "tokens_of") rfl)
  obtain ⟨fd_d_raised_within, F0_d_raised_within⟩ := c.def_ 9 (d := D_d_raised_within) rfl
  have F_d_raised_within : FnP K "raised_within" s_d_raised_within (He.ga K "raised_within") fd_d_raised_within := F0_d_raised_within
  have m_d_raised_within : mg "raised_within" = some (.ref (He.ga K "raised_within")) := He.glo_ok X G (c.fact 9 (f := .glo "raised_within") rfl)
  obtain ⟨fd_d_measured_zero, F0_d_measured_zero⟩ := c.def_ 10 (d := D_d_measured_zero) rfl
  have F_d_measured_zero : FnP K "measured_zero" s_d_measured_zero (He.ga K "measured_zero") fd_d_measured_zero := F0_d_measured_zero
  have m_d_measured_zero : mg "measured_zero" = some (.ref (He.ga K "measured_zero")) := He.glo_ok X G (c.fact 10 (f := .glo "measured_zero") rfl)
  obtain ⟨fd_d_measured_one, F0_d_measured_one⟩ := c.def_ 11 (d := D_d_measured_one) rfl
  have F_d_measured_one : FnP K "measured_one" s_d_measured_one (He.ga K "measured_one") fd_d_measured_one := F0_d_measured_one
  have m_d_measured_one : mg "measured_one" = some (.ref (He.ga K "measured_one")) := He.glo_ok X G (c.fact 11 (f := .glo "measured_one") rfl)
  obtain ⟨fd_d_measured_plus, F0_d_measured_plus⟩ := c.def_ 12 (d := D_d_measured_plus) rfl
  have F_d_measured_plus : FnP K "measured_plus" s_d_measured_plus (He.ga K "measured_plus") fd_d_measured_plus := F0_d_measured_plus
  have m_d_measured_plus : mg "measured_plus" = some (.ref (He.ga K "measured_plus")) := He.glo_ok X G (c.fact 12 (f := .glo "measured_plus") rfl)
  obtain ⟨fd_d_measured_times, F0_d_measured_times⟩ := c.def_ 13 (d := D_d_measured_times) rfl
  have F_d_measured_times : FnP K "measured_times" s_d_measured_times (He.ga K "measured_times") fd_d_measured_times := F0_d_measured_times
  have m_d_measured_times : mg "measured_times" = some (.ref (He.ga K "measured_times")) := He.glo_ok X G (c.fact 13 (f := .glo "measured_times") rfl)
  obtain ⟨fd_d_counted, F0_d_counted⟩ := c.def_ 14 (d := D_d_counted) rfl
  have F_d_counted : FnP K "counted" s_d_counted (He.ga K "counted") fd_d_counted := F0_d_counted
  have m_d_counted : mg "counted" = some (.ref (He.ga K "counted")) := He.glo_ok X G (c.fact 14 (f := .glo "counted") rfl)
  obtain ⟨fd_d_measured_power, F0_d_measured_power⟩ := c.def_ 15 (d := D_d_measured_power) rfl
  have F_d_measured_power : FnP K "measured_power" s_d_measured_power (He.ga K "measured_power") fd_d_measured_power := F0_d_measured_power
  have m_d_measured_power : mg "measured_power" = some (.ref (He.ga K "measured_power")) := He.glo_ok X G (c.fact 15 (f := .glo "measured_power") rfl)
  obtain ⟨fd_d_valued, F0_d_valued⟩ := c.def_ 16 (d := D_d_valued) rfl
  have F_d_valued : FnP K "valued" s_d_valued (He.ga K "valued") fd_d_valued := F0_d_valued
  have m_d_valued : mg "valued" = some (.ref (He.ga K "valued")) := He.glo_ok X G (c.fact 16 (f := .glo "valued") rfl)
  obtain ⟨fd_q_mixed, F0_q_mixed⟩ := c.def_ 17 (d := D_q_mixed) rfl
  have F_q_mixed : FnP K "_law_mixed" s_q_mixed (He.ga K "_law_mixed") fd_q_mixed := F0_q_mixed
  have m_q_mixed : mg "_law_mixed" = some (.ref (He.ga K "_law_mixed")) := He.glo_ok X G (c.fact 17 (f := .glo "_law_mixed") rfl)
  obtain ⟨fd_q_pool, F0_q_pool⟩ := c.def_ 18 (d := D_q_pool) rfl
  have F_q_pool : FnP K "_law_pool" s_q_pool (He.ga K "_law_pool") fd_q_pool := F0_q_pool
  have m_q_pool : mg "_law_pool" = some (.ref (He.ga K "_law_pool")) := He.glo_ok X G (c.fact 18 (f := .glo "_law_pool") rfl)
  obtain ⟨fd_q_take, F0_q_take⟩ := c.def_ 19 (d := D_q_take) rfl
  have F_q_take : FnP K "_law_take" s_q_take (He.ga K "_law_take") fd_q_take := F0_q_take
  have m_q_take : mg "_law_take" = some (.ref (He.ga K "_law_take")) := He.glo_ok X G (c.fact 19 (f := .glo "_law_take") rfl)
  obtain ⟨fd_q_tokens, F0_q_tokens⟩ := c.def_ 20 (d := D_q_tokens) rfl
  have F_q_tokens : FnP K "_law_tokens" s_q_tokens (He.ga K "_law_tokens") fd_q_tokens := F0_q_tokens
  have m_q_tokens : mg "_law_tokens" = some (.ref (He.ga K "_law_tokens")) := He.glo_ok X G (c.fact 20 (f := .glo "_law_tokens") rfl)
  obtain ⟨fd_q_sorted, F0_q_sorted⟩ := c.def_ 21 (d := D_q_sorted) rfl
  have F_q_sorted : FnP K "_law_sorted" s_q_sorted (He.ga K "_law_sorted") fd_q_sorted := F0_q_sorted
  have m_q_sorted : mg "_law_sorted" = some (.ref (He.ga K "_law_sorted")) := He.glo_ok X G (c.fact 21 (f := .glo "_law_sorted") rfl)
  obtain ⟨fd_q_poly, F0_q_poly⟩ := c.def_ 22 (d := D_q_poly) rfl
  have F_q_poly : FnP K "_law_poly" s_q_poly (He.ga K "_law_poly") fd_q_poly := F0_q_poly
  have m_q_poly : mg "_law_poly" = some (.ref (He.ga K "_law_poly")) := He.glo_ok X G (c.fact 22 (f := .glo "_law_poly") rfl)
  obtain ⟨fd_q_product, F0_q_product⟩ := c.def_ 23 (d := D_q_product) rfl
  have F_q_product : FnP K "_law_product" s_q_product (He.ga K "_law_product") fd_q_product := F0_q_product
  have m_q_product : mg "_law_product" = some (.ref (He.ga K "_law_product")) := He.glo_ok X G (c.fact 23 (f := .glo "_law_product") rfl)
  obtain ⟨fd_q_plus, F0_q_plus⟩ := c.def_ 24 (d := D_q_plus) rfl
  have F_q_plus : FnP K "_law_plus" s_q_plus (He.ga K "_law_plus") fd_q_plus := F0_q_plus
  have m_q_plus : mg "_law_plus" = some (.ref (He.ga K "_law_plus")) := He.glo_ok X G (c.fact 24 (f := .glo "_law_plus") rfl)
  obtain ⟨fd_q_times, F0_q_times⟩ := c.def_ 25 (d := D_q_times) rfl
  have F_q_times : FnP K "_law_times" s_q_times (He.ga K "_law_times") fd_q_times := F0_q_times
  have m_q_times : mg "_law_times" = some (.ref (He.ga K "_law_times")) := He.glo_ok X G (c.fact 25 (f := .glo "_law_times") rfl)
  obtain ⟨fd_q_drawn_poly, F0_q_drawn_poly⟩ := c.def_ 26 (d := D_q_drawn_poly) rfl
  have F_q_drawn_poly : FnP K "_law_drawn_poly" s_q_drawn_poly (He.ga K "_law_drawn_poly") fd_q_drawn_poly := F0_q_drawn_poly
  have m_q_drawn_poly : mg "_law_drawn_poly" = some (.ref (He.ga K "_law_drawn_poly")) := He.glo_ok X G (c.fact 26 (f := .glo "_law_drawn_poly") rfl)
  obtain ⟨fd_q_listed, F0_q_listed⟩ := c.def_ 27 (d := D_q_listed) rfl
  have F_q_listed : FnP K "_law_listed" s_q_listed (He.ga K "_law_listed") fd_q_listed := F0_q_listed
  have m_q_listed : mg "_law_listed" = some (.ref (He.ga K "_law_listed")) := He.glo_ok X G (c.fact 27 (f := .glo "_law_listed") rfl)
  obtain ⟨fd_q_lists, F0_q_lists⟩ := c.def_ 28 (d := D_q_lists) rfl
  have F_q_lists : FnP K "_law_lists" s_q_lists (He.ga K "_law_lists") fd_q_lists := F0_q_lists
  have m_q_lists : mg "_law_lists" = some (.ref (He.ga K "_law_lists")) := He.glo_ok X G (c.fact 28 (f := .glo "_law_lists") rfl)
  obtain ⟨fd_q_persons, F0_q_persons⟩ := c.def_ 29 (d := D_q_persons) rfl
  have F_q_persons : FnP K "_law_persons" s_q_persons (He.ga K "_law_persons") fd_q_persons := F0_q_persons
  have m_q_persons : mg "_law_persons" = some (.ref (He.ga K "_law_persons")) := He.glo_ok X G (c.fact 29 (f := .glo "_law_persons") rfl)
  obtain ⟨fd_q_some, F0_q_some⟩ := c.def_ 30 (d := D_q_some) rfl
  have F_q_some : FnP K "_law_some" s_q_some (He.ga K "_law_some") fd_q_some := F0_q_some
  have m_q_some : mg "_law_some" = some (.ref (He.ga K "_law_some")) := He.glo_ok X G (c.fact 30 (f := .glo "_law_some") rfl)
  obtain ⟨fd_q_drawn_value, F0_q_drawn_value⟩ := c.def_ 31 (d := D_q_drawn_value) rfl
  have F_q_drawn_value : FnP K "_law_drawn_value" s_q_drawn_value (He.ga K "_law_drawn_value") fd_q_drawn_value := F0_q_drawn_value
  have m_q_drawn_value : mg "_law_drawn_value" = some (.ref (He.ga K "_law_drawn_value")) := He.glo_ok X G (c.fact 31 (f := .glo "_law_drawn_value") rfl)
  obtain ⟨fd_q_zero, F0_q_zero⟩ := c.def_ 32 (d := D_q_zero) rfl
  have F_q_zero : FnP K "_law_zero" s_q_zero (He.ga K "_law_zero") fd_q_zero := F0_q_zero
  have m_q_zero : mg "_law_zero" = some (.ref (He.ga K "_law_zero")) := He.glo_ok X G (c.fact 32 (f := .glo "_law_zero") rfl)
  obtain ⟨fd_q_one, F0_q_one⟩ := c.def_ 33 (d := D_q_one) rfl
  have F_q_one : FnP K "_law_one" s_q_one (He.ga K "_law_one") fd_q_one := F0_q_one
  have m_q_one : mg "_law_one" = some (.ref (He.ga K "_law_one")) := He.glo_ok X G (c.fact 33 (f := .glo "_law_one") rfl)
  obtain ⟨fd_q_sum, F0_q_sum⟩ := c.def_ 34 (d := D_q_sum) rfl
  have F_q_sum : FnP K "_law_sum" s_q_sum (He.ga K "_law_sum") fd_q_sum := F0_q_sum
  have m_q_sum : mg "_law_sum" = some (.ref (He.ga K "_law_sum")) := He.glo_ok X G (c.fact 34 (f := .glo "_law_sum") rfl)
  obtain ⟨fd_q_both, F0_q_both⟩ := c.def_ 35 (d := D_q_both) rfl
  have F_q_both : FnP K "_law_both" s_q_both (He.ga K "_law_both") fd_q_both := F0_q_both
  have m_q_both : mg "_law_both" = some (.ref (He.ga K "_law_both")) := He.glo_ok X G (c.fact 35 (f := .glo "_law_both") rfl)
  obtain ⟨fd_q_valued, F0_q_valued⟩ := c.def_ 36 (d := D_q_valued) rfl
  have F_q_valued : FnP K "_law_valued" s_q_valued (He.ga K "_law_valued") fd_q_valued := F0_q_valued
  have m_q_valued : mg "_law_valued" = some (.ref (He.ga K "_law_valued")) := He.glo_ok X G (c.fact 36 (f := .glo "_law_valued") rfl)
  obtain ⟨fd_q_given, F0_q_given⟩ := c.def_ 37 (d := D_q_given) rfl
  have F_q_given : FnP K "_law_given" s_q_given (He.ga K "_law_given") fd_q_given := F0_q_given
  have m_q_given : mg "_law_given" = some (.ref (He.ga K "_law_given")) := He.glo_ok X G (c.fact 37 (f := .glo "_law_given") rfl)
  obtain ⟨fd_q_same, F0_q_same⟩ := c.def_ 38 (d := D_q_same) rfl
  have F_q_same : FnP K "_law_same" s_q_same (He.ga K "_law_same") fd_q_same := F0_q_same
  have m_q_same : mg "_law_same" = some (.ref (He.ga K "_law_same")) := He.glo_ok X G (c.fact 38 (f := .glo "_law_same") rfl)
  obtain ⟨fd_q_met, F0_q_met⟩ := c.def_ 39 (d := D_q_met) rfl
  have F_q_met : FnP K "_law_met" s_q_met (He.ga K "_law_met") fd_q_met := F0_q_met
  have m_q_met : mg "_law_met" = some (.ref (He.ga K "_law_met")) := He.glo_ok X G (c.fact 39 (f := .glo "_law_met") rfl)
  obtain ⟨fd_q_law, F0_q_law⟩ := c.def_ 40 (d := D_q_law) rfl
  have F_q_law : FnP K "law" s_q_law (He.ga K "law") fd_q_law := F0_q_law
  have e := hfa.symm.trans (He.glo_ok X G (c.fact 40 (f := .glo "law") rfl))
  cases e
  have B : Bl mg := ⟨He.free_ok X G (c.fact 41 (f := .free "len") rfl), He.free_ok X G (c.fact 42 (f := .free "range") rfl), He.free_ok X G (c.fact 43 (f := .free "list") rfl), He.free_ok X G (c.fact 44 (f := .free "tuple") rfl), He.free_ok X G (c.fact 45 (f := .free "int") rfl), He.free_ok X G (c.fact 46 (f := .free "str") rfl), He.free_ok X G (c.fact 47 (f := .free "min") rfl), He.free_ok X G (c.fact 48 (f := .free "max") rfl), He.free_ok X G (c.fact 49 (f := .free "sorted") rfl), He.free_ok X G (c.fact 50 (f := .free "any") rfl), He.free_ok X G (c.fact 51 (f := .free "isinstance") rfl), He.free_ok X G (c.fact 52 (f := .free "bool") rfl)⟩
  obtain ⟨t_MOST_TERMS, g_MOST_TERMS⟩ := He.int_ok X G (c.fact 53 (f := .int "MOST_TERMS" 400) rfl)
  obtain ⟨t_FIRST_TOO_GREAT, g_FIRST_TOO_GREAT⟩ := He.int_ok X G (c.fact 54 (f := .int "FIRST_TOO_GREAT" (10 ^ 100)) rfl)
  obtain ⟨t_MOST_TRUST, g_MOST_TRUST⟩ := He.int_ok X G (c.fact 55 (f := .int "MOST_TRUST" 100) rfl)
  obtain ⟨t_TOO_GREAT, g_TOO_GREAT⟩ := He.int_ok X G (c.fact 56 (f := .int "TOO_GREAT" (10 ^ 4000)) rfl)
  obtain ⟨t_ALL, g_ALL⟩ := He.str_ok X G (c.fact 57 (f := .str "ALL" "") rfl)
  have g_ZERO := He.glo_ok X G (c.fact 58 (f := .glo "ZERO") rfl)
  have g_ONE := He.glo_ok X G (c.fact 59 (f := .glo "ONE") rfl)
  have e4 : (10 ^ 4000 : Int) = ((10 ^ 4000 : Nat) : Int) := by
    rw [Int.natCast_pow]
    rfl
  rw [e4] at g_TOO_GREAT
  unfold exB at ex
  obtain ⟨x1, ex⟩ := He.ba ex
  obtain ⟨x2, ex⟩ := He.ba ex
  obtain ⟨x3, x4⟩ := He.ba ex
  have hZ : ∀ H, Dp K H (.ref (He.ga K "ZERO")) (ePoly []) := fun H => .tup (tupAt_ok x1 H) .nil
  have hO : ∀ H, Dp K H (.ref (He.ga K "ONE")) (ePoly [([], 1)]) := fun H => .tup (tupAt_ok x2 H) (.cons (.tup (tupAt_ok x3 H) (.cons (.tup (tupAt_ok x4 H) .nil) (.cons (.int 1) .nil))) .nil)
  have b := FunD.bindsA (ps := ["_law_script"]) F_q_law fun _ _ _ _ _ _ us hl => match us, hl with | [_], _ => rfl
  refine ⟨fd_q_law, fun s v => b s [v] rfl, fun base _ _ => ?_⟩
  have c_d_frozen := ok_frozen (P := P) (w := w) (base := base) B F_d_frozen m_d_frozen
  have c_d_monomial_product := ok_mono (P := P) (w := w) (base := base) B F_d_monomial_product m_d_monomial_product
  have c_d_need_figures := ok_need (P := P) (w := w) (base := base) B g_FIRST_TOO_GREAT F_d_need_figures m_d_need_figures
  have c_d_checked := ok_checked (P := P) (w := w) (base := base) B g_FIRST_TOO_GREAT g_MOST_TERMS F_d_checked m_d_checked
  have c_d_added := ok_added (P := P) (w := w) (base := base) B c_d_frozen c_d_checked F_d_added m_d_added
  have c_d_multiplied := ok_multiplied (P := P) (w := w) (base := base) B c_d_frozen c_d_checked c_d_monomial_product F_d_multiplied m_d_multiplied
  have c_d_plus := ok_plus (P := P) (w := w) (base := base) B c_d_added c_d_need_figures F_d_plus m_d_plus
  have c_d_times := ok_times (P := P) (w := w) (base := base) B c_d_multiplied c_d_need_figures F_d_times m_d_times
  have c_d_tokens_of := ok_tokens_of (P := P) (w := w) (base := base) B F_d_tokens_of m_d_tokens_of
  have c_d_raised_within := ok_raised (P := P) (w := w) (base := base) B F_d_raised_within m_d_raised_within
  have c_q_sorted := ok_sorted (P := P) (w := w) (base := base) B F_q_sorted m_q_sorted
  have c_q_product := ok_prod (P := P) (w := w) (base := base) B c_q_sorted F_q_product m_q_product
  have c_q_poly := ok_poly (P := P) (w := w) (base := base) B c_q_sorted F_q_poly m_q_poly
  have c_q_plus := ok_lplus (P := P) (w := w) (base := base) B c_q_poly F_q_plus m_q_plus
  have c_q_times := ok_ltimes (P := P) (w := w) (base := base) B c_q_poly c_q_product F_q_times m_q_times
  have c_d_measured_zero := ok_mzero (P := P) (w := w) (base := base) B F_d_measured_zero m_d_measured_zero
  have c_d_measured_one := ok_mone (P := P) (w := w) (base := base) B g_MOST_TRUST F_d_measured_one m_d_measured_one
  have c_d_measured_power := ok_mpow (P := P) (w := w) (base := base) B F_d_measured_power m_d_measured_power
  have c_d_measured_plus := ok_mplus (P := P) (w := w) (base := base) B F_d_measured_plus m_d_measured_plus
  have c_d_measured_times := ok_mtimes (P := P) (w := w) (base := base) B F_d_measured_times m_d_measured_times
  have c_q_zero := ok_lzero (P := P) (w := w) (base := base) B F_q_zero m_q_zero
  have c_q_one := ok_lone (P := P) (w := w) (base := base) B F_q_one m_q_one
  have c_q_sum := ok_lsum (P := P) (w := w) (base := base) B c_q_sorted F_q_sum m_q_sum
  have c_q_both := ok_lboth (P := P) (w := w) (base := base) B F_q_both m_q_both
  have c_d_counted := ok_counted (P := P) (w := w) (base := base) B great4000 g_TOO_GREAT c_d_raised_within F_d_counted m_d_counted
  have c_d_valued := ok_valued (P := P) (w := w) (base := base) B g_ALL c_d_tokens_of c_d_counted c_d_measured_zero c_d_measured_one c_d_measured_times c_d_measured_power c_d_measured_plus F_d_valued m_d_valued
  have c_q_valued := ok_lvalued (P := P) (w := w) (base := base) B c_q_zero c_q_one c_q_both c_q_sum F_q_valued m_q_valued
  have c_q_same := ok_same (P := P) (w := w) (base := base) B F_q_same m_q_same 5
  have c_q_lists := ok_lists (P := P) (w := w) (base := base) B F_q_lists m_q_lists 5
  have c_q_mixed := ok_mixed (P := P) (w := w) (base := base) B F_q_mixed m_q_mixed
  have c_q_pool := ok_pool (P := P) (w := w) (base := base) B F_q_pool m_q_pool
  have c_q_take := ok_take (P := P) (w := w) (base := base) B c_q_mixed F_q_take m_q_take
  have c_q_listed := ok_listed (P := P) (w := w) (base := base) B c_q_take c_q_lists F_q_listed m_q_listed
  have c_q_tokens := ok_toks (P := P) (w := w) (base := base) B c_q_take F_q_tokens m_q_tokens
  have c_q_persons := ok_persons (P := P) (w := w) (base := base) B c_q_take c_q_sorted F_q_persons m_q_persons
  have c_q_some := ok_some (P := P) (w := w) (base := base) B c_q_take F_q_some m_q_some
  have c_q_drawn_value := ok_dval (P := P) (w := w) (base := base) B c_q_take c_q_some F_q_drawn_value m_q_drawn_value
  have c_q_drawn_poly := ok_dpoly (P := P) (w := w) (base := base) B c_q_take c_q_product c_q_poly F_q_drawn_poly m_q_drawn_poly
  have c_q_given := ok_given (P := P) (w := w) (base := base) B c_q_take c_q_drawn_value F_q_given m_q_given
  have c_q_met := ok_met (P := P) (w := w) (base := base) B c_q_listed c_q_valued c_d_valued c_q_same c_q_sum c_q_both c_d_measured_plus c_d_measured_times c_d_plus c_d_times F_q_met m_q_met
  exact ok_law B g_ZERO g_ONE hZ hO c_q_pool c_q_take c_q_tokens c_q_persons c_q_drawn_poly c_q_same c_d_plus c_d_times c_q_listed c_q_plus c_q_times c_q_given c_q_met c_d_measured_zero c_d_measured_one c_q_zero c_q_one c_d_valued F_q_law
end K8
open PySem PySem.W PySem.Calls PyProof.Rows
theorem PySem.Challenge.cw_ledgertrace_k08_whole_valuing_is_a_homom_holds : PySem.Challenge.rw_ledgertrace_k08_whole_valuing_is_a_homom.Holds := by
  w_on; o_law
  refine HandSHeadRun.head_any (r := OpenLaw.row PySem.Challenge.rw_ledgertrace_k08_whole_valuing_is_a_homom) (q := view (OpenLaw.row PySem.Challenge.rw_ledgertrace_k08_whole_valuing_is_a_homom).prog [55]) (H := K8.hk8) (ob := K8.ob8) (M := 4000) (loose := K8.looseL) (d := HandSHeadRun.topDef (OpenLaw.row PySem.Challenge.rw_ledgertrace_k08_whole_valuing_is_a_homom).prog 55) (kwd := []) K8.ob8_eq
    (by kernel_rfl) (fun s => by kernel_rfl) K8.run8 (by kernel_rfl) (by kernel_rfl) (by kernel_rfl) (by rfl) (by first | assumption | decide +kernel) (by decide +kernel) ⟨rfl, rfl, rfl, rfl, rfl, by decide +kernel⟩ ?hw ?hc
  case hw => w_witness2
  case hc =>
    refine L2.walk_ofE (l := PySem.Challenge.rw_ledgertrace_k08_whole_valuing_is_a_homom) (n := 63) (k := 9) (x := "_law_script") (CX := L2.CX0) rfl (by decide) (by kernel_rfl) ⟨rfl, by decide, by decide⟩ ?F (fun _ _ _ _ z => z)
    intro w mg fa h Y G hmg0
    obtain ⟨K, KX, c, ex⟩ := Y
    have hmg : mg ("law" : PySem.Str) = some (.ref fa) := by
      have e : (HandSHeadRun.topDef (OpenLaw.row PySem.Challenge.rw_ledgertrace_k08_whole_valuing_is_a_homom).prog 55).name = ("law" : PySem.Str) := by kernel_rfl
      rw [← e]
      exact hmg0
    obtain ⟨fd, hb, hF⟩ := K8.facts8 (P := (PySem.Challenge.rw_ledgertrace_k08_whole_valuing_is_a_homom).prog) (w := w) KX G hmg c ex
    exact ⟨K, fd, K8.spLaw K, KX, hb, fun H a ns hl _ hS => ⟨a, ns, rfl, hS, hl, fun _ => rfl⟩, hF⟩
