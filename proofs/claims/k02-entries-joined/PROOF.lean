import PyProof.Rows.All
import Wide.All
import OpenK.AllK
import Wide.FinOn
import HandS.ForMost
import HandS.ForExc
import HandS.More
import HandS.Walk
import HandS.IsInst
import HandS.SortInts
import HandS.SortKw
import HandS.Zip
import HandS.ListItems
import HandS.Flow
import HandS.Style
import HandS.Wide
import KE.SortKeyHeap
import PySem.Challenge.RW_rankbounds_k02_entries_joined
set_option Elab.async false
set_option linter.all false
set_option maxRecDepth 100000
set_option maxHeartbeats 4000000
/-! Entries, their mirror and their laws: plain Lean, no program in sight. -/
namespace RB
abbrev E := Int × Int × Int
def keyLe (a b : E) : Bool := decide (a.1 ≤ b.1)
theorem keyLe_trans (a b c : E) (h1 : keyLe a b = true) (h2 : keyLe b c = true) : keyLe a c = true := by
  simp only [keyLe, decide_eq_true_eq] at *
  omega
theorem keyLe_total (a b : E) : (keyLe a b || keyLe b a) = true := by
  simp only [keyLe, Bool.or_eq_true, decide_eq_true_eq]
  omega
abbrev Srtd (es : List E) : Prop := es.Pairwise fun a b => a.1 ≤ b.1
def upTo (es : List E) (r : Int) : Nat := es.countP fun e => decide (e.1 ≤ r)
def leastOf (es : List E) (c : Nat) : Int := if c = 0 then 0 else (es.getD (c - 1) (0, 0, 0)).2.1 + 1
def mostOf (es : List E) (c : Nat) (many : Int) : Int := if c = es.length then many else (es.getD c (0, 0, 0)).2.2
def moveE (os : List E) (more : Int) (e : E) : E := (e.1, e.2.1 + leastOf os (upTo os e.1), e.2.2 + mostOf os (upTo os (e.1 - 1)) more)
def movedM (es os : List E) (more : Int) : List E := es.map (moveE os more)
def joinM (a : List E) (many : Int) (b : List E) (more : Int) : List E := (movedM a b more ++ movedM b a many).mergeSort keyLe
def halvedM : List E → List E
  | _ :: y :: t => y :: halvedM t
  | _ => []
def intLe (a b : Int) : Bool := decide (a ≤ b)
theorem intLe_trans (a b c : Int) (h1 : intLe a b = true) (h2 : intLe b c = true) : intLe a c = true := by
  simp only [intLe, decide_eq_true_eq] at *
  omega
theorem intLe_total (a b : Int) : (intLe a b || intLe b a) = true := by
  simp only [intLe, Bool.or_eq_true, decide_eq_true_eq]
  omega
def srt (row : List Int) : List Int := row.mergeSort intLe
def enumE (k : Nat) : List Int → List E
  | [] => []
  | r :: t => (r, (k : Int), (k : Int)) :: enumE (k + 1) t
def exactM (row : List Int) : List E := enumE 0 (srt row)

/-! ### one sorted arrangement -/
theorem srt_perm (row : List Int) : (srt row).Perm row := List.mergeSort_perm _ _
theorem srt_sorted (row : List Int) : (srt row).Pairwise (· ≤ ·) := by
  have h := List.pairwise_mergeSort intLe_trans intLe_total row
  exact h.imp fun {a b} q => by simpa [intLe] using q
theorem srt_of {row l : List Int} (hp : l.Perm row) (hs : l.Pairwise (· ≤ ·)) : l = srt row :=
  List.Perm.eq_of_pairwise (le := (· ≤ ·)) (fun a b _ _ h1 h2 => Int.le_antisymm h1 h2) hs (srt_sorted row) (hp.trans (srt_perm row).symm)
theorem srt_length (row : List Int) : (srt row).length = row.length := (srt_perm row).length_eq

/-- two sorted lists with the same rows of like keys are one -/
theorem stable_one : ∀ {l m : List E}, Srtd l → Srtd m → (∀ z : Int, l.filter (fun e => decide (e.1 = z)) = m.filter (fun e => decide (e.1 = z))) → l = m
  | [], [], _, _, _ => rfl
  | [], y :: m, _, _, h => by
    have q := h y.1
    simp at q
  | x :: l, [], _, _, h => by
    have q := h x.1
    simp at q
  | x :: l, y :: m, hl, hm, h => by
    have exy : x.1 = y.1 := by
      have h1 : x ∈ (y :: m).filter (fun e => decide (e.1 = x.1)) := by
        rw [← h x.1]
        simp
      have h2 : y ∈ (x :: l).filter (fun e => decide (e.1 = y.1)) := by
        rw [h y.1]
        simp
      have h3 := (List.mem_filter.mp h1).1
      have h4 := (List.mem_filter.mp h2).1
      have h5 : y.1 ≤ x.1 := by
        rcases List.mem_cons.mp h3 with e | e
        · rw [e]; exact Int.le_refl _
        · exact List.rel_of_pairwise_cons hm e
      have h6 : x.1 ≤ y.1 := by
        rcases List.mem_cons.mp h4 with e | e
        · rw [e]; exact Int.le_refl _
        · exact List.rel_of_pairwise_cons hl e
      omega
    have e0 : x = y := by
      have q := h x.1
      rw [List.filter_cons_of_pos (by simp), List.filter_cons_of_pos (by simp [exy])] at q
      exact (List.cons.inj q).1
    subst e0
    rw [stable_one (l := l) (m := m) hl.tail hm.tail fun z => ?_]
    have q := h z
    by_cases c : x.1 = z
    · rw [List.filter_cons_of_pos (by simp [c]), List.filter_cons_of_pos (by simp [c])] at q
      exact (List.cons.inj q).2
    · rw [List.filter_cons_of_neg (by simp [c]), List.filter_cons_of_neg (by simp [c])] at q
      exact q
theorem keySorted (l : List E) : Srtd (l.mergeSort keyLe) := by
  have h := List.pairwise_mergeSort keyLe_trans keyLe_total l
  exact h.imp fun {a b} q => by simpa [keyLe] using q
theorem keyStable (l : List E) (z : Int) : (l.mergeSort keyLe).filter (fun e => decide (e.1 = z)) = l.filter (fun e => decide (e.1 = z)) := by
  have hp : (l.filter (fun e => decide (e.1 = z))).Pairwise (fun a b => keyLe a b = true) := by
    rw [List.pairwise_filter]
    refine List.pairwise_of_forall fun a b h1 h2 => ?_
    simp only [decide_eq_true_eq] at h1 h2
    simp only [keyLe, decide_eq_true_eq]
    omega
  have hs := List.sublist_mergeSort keyLe_trans keyLe_total hp (List.filter_sublist (p := fun e => decide (e.1 = z)) (l := l))
  have h2 := hs.filter (fun e => decide (e.1 = z))
  rw [List.filter_filter] at h2
  simp only [Bool.and_self] at h2
  exact (h2.eq_of_length ((List.mergeSort_perm l keyLe).filter _).length_eq.symm).symm
theorem merge_filter : ∀ {a b : List E}, Srtd a → Srtd b → ∀ z : Int, (a.merge b keyLe).filter (fun e => decide (e.1 = z)) = a.filter (fun e => decide (e.1 = z)) ++ b.filter (fun e => decide (e.1 = z))
  | [], b, _, _, z => by simp
  | x :: a, [], _, _, z => by simp
  | x :: a, y :: b, ha, hb, z => by
    rw [List.cons_merge_cons]
    by_cases c : keyLe x y = true
    · rw [if_pos c]
      have ih := merge_filter (a := a) (b := y :: b) ha.tail hb z
      by_cases d : x.1 = z
      · rw [List.filter_cons_of_pos (by simp [d]), List.filter_cons_of_pos (p := fun e : E => decide (e.1 = z)) (a := x) (by simp [d]), ih]
        rfl
      · rw [List.filter_cons_of_neg (by simp [d]), List.filter_cons_of_neg (p := fun e : E => decide (e.1 = z)) (a := x) (by simp [d]), ih]
    · rw [if_neg c]
      have ih := merge_filter (a := x :: a) (b := b) ha hb.tail z
      have hxy : y.1 < x.1 := by
        simp only [keyLe, decide_eq_true_eq] at c
        omega
      by_cases d : y.1 = z
      · have hn : (x :: a).filter (fun e => decide (e.1 = z)) = [] := by
          rw [List.filter_eq_nil_iff]
          intro e he
          simp only [decide_eq_true_eq]
          rcases List.mem_cons.mp he with q | q
          · rw [q]; omega
          · have := List.rel_of_pairwise_cons ha q
            omega
        rw [List.filter_cons_of_pos (by simp [d]), ih, hn, List.filter_cons_of_pos (p := fun e : E => decide (e.1 = z)) (a := y) (by simp [d])]
        rfl
      · rw [List.filter_cons_of_neg (by simp [d]), ih, List.filter_cons_of_neg (p := fun e : E => decide (e.1 = z)) (a := y) (by simp [d])]
termination_by a b => a.length + b.length
theorem merge_sorted {a b : List E} (ha : Srtd a) (hb : Srtd b) : Srtd (a.merge b keyLe) := by
  have h := List.pairwise_merge (le := keyLe) keyLe_trans keyLe_total a b (ha.imp fun {a b} q => by simpa [keyLe] using q) (hb.imp fun {a b} q => by simpa [keyLe] using q)
  exact h.imp fun {a b} q => by simpa [keyLe] using q
/-- a sorted, stable arrangement of two sorted rows is their merge -/
theorem merge_of {a b l : List E} (ha : Srtd a) (hb : Srtd b) (hl : Srtd l) (hf : ∀ z : Int, l.filter (fun e => decide (e.1 = z)) = (a ++ b).filter (fun e => decide (e.1 = z))) : l = a.merge b keyLe :=
  stable_one hl (merge_sorted ha hb) fun z => by rw [hf z, List.filter_append, merge_filter ha hb z]
theorem moved_sorted {es os : List E} {more : Int} (h : Srtd es) : Srtd (movedM es os more) := by
  unfold movedM
  rw [Srtd, List.pairwise_map]
  exact h
theorem joinM_merge {a b : List E} {many more : Int} (ha : Srtd a) (hb : Srtd b) : joinM a many b more = (movedM a b more).merge (movedM b a many) keyLe :=
  merge_of (moved_sorted ha) (moved_sorted hb) (keySorted _) fun z => keyStable _ z
theorem joinM_sorted (a b : List E) (many more : Int) : Srtd (joinM a many b more) := keySorted _
theorem joinM_length (a b : List E) (many more : Int) : (joinM a many b more).length = a.length + b.length := by
  unfold joinM movedM
  rw [List.length_mergeSort, List.length_append, List.length_map, List.length_map]
theorem halvedM_length : ∀ es : List E, (halvedM es).length = es.length / 2
  | [] => by simp [halvedM]
  | [_] => by simp [halvedM]
  | x :: y :: t => by
    show (halvedM t).length + 1 = (t.length + 1 + 1) / 2
    rw [halvedM_length t]
    omega
theorem halvedM_sub : ∀ es : List E, (halvedM es).Sublist es
  | [] => .slnil
  | [x] => .cons _ .slnil
  | x :: y :: t => .cons _ (.cons_cons _ (halvedM_sub t))
theorem halvedM_sorted {es : List E} (h : Srtd es) : Srtd (halvedM es) := h.sublist (halvedM_sub es)
theorem enumE_length : ∀ (l : List Int) (k : Nat), (enumE k l).length = l.length
  | [], _ => rfl
  | _ :: t, k => by
    show (enumE (k + 1) t).length + 1 = t.length + 1
    rw [enumE_length t]
theorem exactM_length (row : List Int) : (exactM row).length = row.length := by
  unfold exactM
  rw [enumE_length, srt_length]
theorem enumE_keys : ∀ (l : List Int) (k : Nat), (enumE k l).map (·.1) = l
  | [], _ => rfl
  | a :: t, k => by
    show a :: (enumE (k + 1) t).map (·.1) = a :: t
    rw [enumE_keys t]
theorem exactM_sorted (row : List Int) : Srtd (exactM row) := by
  have h := srt_sorted row
  rw [← enumE_keys (srt row) 0, List.pairwise_map] at h
  exact h
theorem enumE_get : ∀ (l : List Int) (k i : Nat), (enumE k l)[i]? = (l[i]?).map fun r => (r, ((k + i : Nat) : Int), ((k + i : Nat) : Int))
  | [], _, _ => by simp [enumE]
  | a :: t, k, 0 => by simp [enumE]
  | a :: t, k, i + 1 => by
    have ih := enumE_get t (k + 1) i
    have e : k + 1 + i = k + (i + 1) := by omega
    rw [e] at ih
    simpa [enumE] using ih

/-! ### how many are no greater -/
theorem upTo_le (es : List E) (r : Int) : upTo es r ≤ es.length := List.countP_le_length
theorem upTo_split {a b : List E} {r : Int} (h1 : ∀ e ∈ a, e.1 ≤ r) (h2 : ∀ e ∈ b, r < e.1) : upTo (a ++ b) r = a.length := by
  unfold upTo
  rw [List.countP_append, List.countP_eq_length.mpr (fun e he => by simpa using h1 e he), List.countP_eq_zero.mpr (fun e he => by have := h2 e he; simp; omega)]
  omega
/-- by place -/
theorem upTo_at {es : List E} (hs : Srtd es) {r : Int} {i : Nat} {e : E} (h : es[i]? = some e) : e.1 ≤ r ↔ i < upTo es r := by
  induction es generalizing i with
  | nil => simp at h
  | cons x t ih =>
    unfold upTo
    by_cases c : x.1 ≤ r
    · rw [List.countP_cons_of_pos (by simpa using c)]
      cases i with
      | zero =>
        have e0 : x = e := by simpa using h
        subst e0
        constructor
        · intro _; omega
        · intro _; exact c
      | succ i =>
        have hi : t[i]? = some e := by simpa using h
        have := ih hs.tail hi
        unfold upTo at this
        rw [this]
        omega
    · rw [List.countP_cons_of_neg (by simpa using c)]
      have hz : t.countP (fun e => decide (e.1 ≤ r)) = 0 := by
        rw [List.countP_eq_zero]
        intro y hy
        have := List.rel_of_pairwise_cons hs hy
        simp
        omega
      rw [hz]
      constructor
      · intro q
        exfalso
        have hm : e ∈ x :: t := List.mem_of_getElem? h
        rcases List.mem_cons.mp hm with z | z
        · rw [z] at q; exact c q
        · have := List.rel_of_pairwise_cons hs z
          omega
      · intro q; omega
theorem upTo_cut {es : List E} (hs : Srtd es) (r : Int) : (∀ e ∈ es.take (upTo es r), e.1 ≤ r) ∧ ∀ e ∈ es.drop (upTo es r), r < e.1 := by
  constructor
  · intro e he
    obtain ⟨i, hi⟩ := List.mem_iff_getElem?.mp he
    rw [List.getElem?_take] at hi
    split at hi
    · rename_i hlt
      exact (upTo_at hs hi).mpr hlt
    · cases hi
  · intro e he
    obtain ⟨i, hi⟩ := List.mem_iff_getElem?.mp he
    rw [List.getElem?_drop] at hi
    have := (upTo_at hs (r := r) hi)
    omega
theorem upTo_mono {es : List E} {r q : Int} (h : r ≤ q) : upTo es r ≤ upTo es q := by
  unfold upTo
  refine List.countP_mono_left fun e _ he => ?_
  simp only [decide_eq_true_eq] at *
  omega
end RB

/-! Rows, what is true of them, and how far off the bounds are. -/
namespace RB
/-- a row: how many readings are less than a number, and how many there are -/
structure Row where
  lt : Int → Int
  n : Int
theorem Row.ext' {a b : Row} (h : ∀ x, a.lt x = b.lt x) (hn : a.n = b.n) : a = b := by
  cases a; cases b
  have : (fun x => _) = _ := funext h
  simp only at this hn
  simp [hn]
  exact this
def Row.nil : Row := ⟨fun _ => 0, 0⟩
def Row.add (a b : Row) : Row := ⟨fun x => a.lt x + b.lt x, a.n + b.n⟩
def Row.one (r : Int) (t : Int) : Row := ⟨fun x => if r < x then t else 0, t⟩
structure Row.Ok (R : Row) : Prop where
  mono : ∀ x y, x ≤ y → R.lt x ≤ R.lt y
  lo : ∀ x, 0 ≤ R.lt x
  hi : ∀ x, R.lt x ≤ R.n
theorem Row.nil_ok : Row.nil.Ok := ⟨fun _ _ _ => Int.le_refl _, fun _ => Int.le_refl _, fun _ => Int.le_refl _⟩
theorem Row.add_ok {a b : Row} (ha : a.Ok) (hb : b.Ok) : (a.add b).Ok :=
  ⟨fun x y h => Int.add_le_add (ha.mono x y h) (hb.mono x y h), fun x => Int.add_nonneg (ha.lo x) (hb.lo x), fun x => Int.add_le_add (ha.hi x) (hb.hi x)⟩
theorem Row.one_ok {r t : Int} (h : 0 ≤ t) : (Row.one r t).Ok := by
  refine ⟨fun x y hxy => ?_, fun x => ?_, fun x => ?_⟩
  all_goals simp only [Row.one]
  · split <;> split <;> omega
  · split <;> omega
  · split <;> omega
theorem Row.add_comm (a b : Row) : a.add b = b.add a := Row.ext' (fun x => Int.add_comm _ _) (Int.add_comm _ _)
theorem Row.add_assoc (a b c : Row) : (a.add b).add c = a.add (b.add c) := Row.ext' (fun x => Int.add_assoc _ _ _) (Int.add_assoc _ _ _)
theorem Row.nil_add (a : Row) : Row.nil.add a = a := Row.ext' (fun x => Int.zero_add _) (Int.zero_add _)
theorem Row.add_nil (a : Row) : a.add Row.nil = a := Row.ext' (fun x => Int.add_zero _) (Int.add_zero _)
theorem Row.n_nonneg {R : Row} (h : R.Ok) : 0 ≤ R.n := Int.le_trans (h.lo 0) (h.hi 0)
/-- the row of a list -/
def rowOf : List Int → Row
  | [] => Row.nil
  | r :: t => (Row.one r 1).add (rowOf t)
theorem rowOf_ok : ∀ l : List Int, (rowOf l).Ok
  | [] => Row.nil_ok
  | r :: t => Row.add_ok (Row.one_ok (by decide)) (rowOf_ok t)
theorem rowOf_n : ∀ l : List Int, (rowOf l).n = (l.length : Int)
  | [] => rfl
  | r :: t => by
    show 1 + (rowOf t).n = ((t.length + 1 : Nat) : Int)
    rw [rowOf_n t]
    omega
theorem rowOf_append : ∀ a b : List Int, rowOf (a ++ b) = (rowOf a).add (rowOf b)
  | [], b => (Row.nil_add _).symm
  | r :: t, b => by
    show (Row.one r 1).add (rowOf (t ++ b)) = ((Row.one r 1).add (rowOf t)).add (rowOf b)
    rw [rowOf_append t b, Row.add_assoc]
theorem rowOf_perm {a b : List Int} (h : a.Perm b) : rowOf a = rowOf b := by
  induction h with
  | nil => rfl
  | cons x _ ih => show (Row.one x 1).add _ = (Row.one x 1).add _; rw [ih]
  | swap x y l => show (Row.one y 1).add ((Row.one x 1).add _) = (Row.one x 1).add ((Row.one y 1).add _); rw [← Row.add_assoc, ← Row.add_assoc, Row.add_comm (Row.one y 1)]
  | trans _ _ h1 h2 => exact h1.trans h2
theorem rowOf_lt : ∀ (l : List Int) (x : Int), (rowOf l).lt x = (l.countP fun r => decide (r < x) : Nat)
  | [], x => rfl
  | r :: t, x => by
    show (if r < x then 1 else 0) + (rowOf t).lt x = _
    rw [rowOf_lt t x, List.countP_cons]
    by_cases c : r < x
    · simp [c]; omega
    · simp [c]
theorem rowOf_replicate (r : Int) : ∀ t : Nat, rowOf (List.replicate t r) = Row.one r t
  | 0 => Row.ext' (fun x => by simp [rowOf, Row.nil, Row.one]) rfl
  | t + 1 => by
    show (Row.one r 1).add (rowOf (List.replicate t r)) = _
    rw [rowOf_replicate r t]
    refine Row.ext' (fun x => ?_) ?_
    · simp only [Row.one, Row.add]
      split <;> omega
    · simp only [Row.one, Row.add]
      omega
/-- the entry is true of the row -/
structure Tru (R : Row) (e : E) : Prop where
  here : R.lt e.1 < R.lt (e.1 + 1)
  least : e.2.1 + 1 ≤ R.lt (e.1 + 1)
  most : R.lt e.1 ≤ e.2.2
/-- weights: how many readings the entries speak for; a of them ahead -/
def Lin (err : Int) : Int → List E → List Int → Prop
  | _, [], [] => True
  | a, e :: es, w :: ws => a + w ≤ e.2.1 + 1 ∧ e.2.2 ≤ a + err ∧ 0 ≤ w ∧ Lin err (a + w) es ws
  | _, _, _ => False
structure Gd (R : Row) (err : Int) (es : List E) (ws : List Int) : Prop where
  ok : R.Ok
  srt : Srtd es
  tru : ∀ e ∈ es, Tru R e
  lin : Lin err 0 es ws
  sum : ws.sum = R.n
  err0 : 0 ≤ err
theorem Lin.length {err : Int} : ∀ {es : List E} {ws : List Int} {a : Int}, Lin err a es ws → es.length = ws.length
  | [], [], _, _ => rfl
  | _ :: es, _ :: ws, _, h => by
    have := Lin.length h.2.2.2
    simp [this]
  | [], _ :: _, _, h => h.elim
  | _ :: _, [], _, h => h.elim
theorem Lin.nonneg {err : Int} : ∀ {es : List E} {ws : List Int} {a : Int}, Lin err a es ws → ∀ w ∈ ws, 0 ≤ w
  | [], [], _, _, _, h => by cases h
  | _ :: es, w' :: ws, _, h, w, hw => by
    rcases List.mem_cons.mp hw with e | e
    · rw [e]; exact h.2.2.1
    · exact Lin.nonneg h.2.2.2 w e
theorem sum_take_le {ws : List Int} (h : ∀ w ∈ ws, 0 ≤ w) : ∀ {i j : Nat}, i ≤ j → (ws.take i).sum ≤ (ws.take j).sum := by
  induction ws with
  | nil => intro i j _; simp
  | cons w t ih =>
    intro i j hij
    cases i with
    | zero =>
      cases j with
      | zero => simp
      | succ j =>
        have h1 := ih (fun w hw => h w (List.mem_cons_of_mem _ hw)) (Nat.zero_le j)
        have h2 := h w List.mem_cons_self
        simp only [List.take_zero, List.sum_nil, List.take_succ_cons, List.sum_cons] at *
        omega
    | succ i =>
      cases j with
      | zero => omega
      | succ j =>
        have h1 := ih (fun w hw => h w (List.mem_cons_of_mem _ hw)) (by omega : i ≤ j)
        simp only [List.take_succ_cons, List.sum_cons]
        omega
theorem Lin.at_ {err : Int} : ∀ {es : List E} {ws : List Int} {a : Int}, Lin err a es ws → ∀ {i : Nat} {e : E}, es[i]? = some e → a + (ws.take (i + 1)).sum ≤ e.2.1 + 1 ∧ e.2.2 ≤ a + (ws.take i).sum + err
  | [], [], _, _, i, e, he => by simp at he
  | x :: es, w :: ws, a, h, 0, e, he => by
    have e0 : x = e := by simpa using he
    subst e0
    simp
    exact ⟨h.1, h.2.1⟩
  | x :: es, w :: ws, a, h, i + 1, e, he => by
    have hi : es[i]? = some e := by simpa using he
    have := Lin.at_ h.2.2.2 hi
    simp only [List.take_succ_cons, List.sum_cons]
    omega
/-- the two bounds at a cut -/
theorem Lin.leastOf {err : Int} {es : List E} {ws : List Int} (h : Lin err 0 es ws) {c : Nat} (hc : c ≤ es.length) : (ws.take c).sum ≤ leastOf es c := by
  unfold RB.leastOf
  cases c with
  | zero => simp
  | succ c =>
    rw [if_neg (by omega)]
    have he : es[c]? = some es[c] := List.getElem?_eq_getElem (by omega)
    have := (h.at_ he).1
    rw [show c + 1 - 1 = c by omega, List.getD_eq_getElem?_getD, he]
    simp only [Option.getD_some]
    omega
theorem Lin.mostOf {err : Int} {es : List E} {ws : List Int} (h : Lin err 0 es ws) (he0 : 0 ≤ err) {c : Nat} (hc : c ≤ es.length) {many : Int} (hm : ws.sum = many) : mostOf es c many ≤ (ws.take c).sum + err := by
  unfold RB.mostOf
  by_cases hl : c = es.length
  · rw [if_pos hl, List.take_of_length_le (by rw [← h.length]; omega)]
    omega
  · rw [if_neg hl]
    have he : es[c]? = some es[c] := List.getElem?_eq_getElem (by omega)
    have := (h.at_ he).2
    rw [List.getD_eq_getElem?_getD, he]
    simp only [Option.getD_some]
    omega
/-! ### truth of the joined -/
theorem Tru.moved {R S : Row} {e : E} {os : List E} (hR : Tru R e) (hS : S.Ok) (hs : Srtd os) (ho : ∀ o ∈ os, Tru S o) : Tru (R.add S) (moveE os S.n e) := by
  refine ⟨?_, ?_, ?_⟩
  · show R.lt e.1 + S.lt e.1 < R.lt (e.1 + 1) + S.lt (e.1 + 1)
    have := hR.here
    have := hS.mono e.1 (e.1 + 1) (by omega)
    omega
  · show e.2.1 + leastOf os (upTo os e.1) + 1 ≤ R.lt (e.1 + 1) + S.lt (e.1 + 1)
    have h1 := hR.least
    have h2 : leastOf os (upTo os e.1) ≤ S.lt (e.1 + 1) := by
      unfold leastOf
      split
      · exact hS.lo _
      · rename_i hc
        have hl := upTo_le os e.1
        have hi : os[upTo os e.1 - 1]? = some os[upTo os e.1 - 1] := List.getElem?_eq_getElem (by omega)
        have hle := (upTo_at hs (r := e.1) hi).mpr (by omega)
        have ht := (ho _ (List.mem_of_getElem? hi)).least
        have hm := hS.mono (os[upTo os e.1 - 1].1 + 1) (e.1 + 1) (by omega)
        rw [List.getD_eq_getElem?_getD, hi]
        simp only [Option.getD_some]
        omega
    omega
  · show R.lt e.1 + S.lt e.1 ≤ e.2.2 + mostOf os (upTo os (e.1 - 1)) S.n
    have h1 := hR.most
    have h2 : S.lt e.1 ≤ mostOf os (upTo os (e.1 - 1)) S.n := by
      unfold mostOf
      split
      · exact hS.hi _
      · rename_i hc
        have hl := upTo_le os (e.1 - 1)
        have hi : os[upTo os (e.1 - 1)]? = some os[upTo os (e.1 - 1)] := List.getElem?_eq_getElem (by omega)
        have hle : ¬ os[upTo os (e.1 - 1)].1 ≤ e.1 - 1 := fun q => by
          have := (upTo_at hs (r := e.1 - 1) hi).mp q
          omega
        have ht := (ho _ (List.mem_of_getElem? hi)).most
        have hm := hS.mono e.1 os[upTo os (e.1 - 1)].1 (by omega)
        rw [List.getD_eq_getElem?_getD, hi]
        simp only [Option.getD_some]
        omega
    omega
/-! ### how far off: the merge -/
theorem take_append_sum (a b : List Int) : ((a ++ b).take a.length).sum = a.sum := by simp
theorem lin_merge {errA errB : Int} {A B : List E} {wA wB : List Int} {nA nB : Int} (hA : Lin errA 0 A wA) (hB : Lin errB 0 B wB) (eA : 0 ≤ errA) (eB : 0 ≤ errB) (sA : Srtd A) (sB : Srtd B) (tA : wA.sum = nA) (tB : wB.sum = nB) :
    ∀ (A1 A2 B1 B2 : List E) (u1 u2 v1 v2 : List Int), A = A1 ++ A2 → B = B1 ++ B2 → wA = u1 ++ u2 → wB = v1 ++ v2 → A1.length = u1.length → B1.length = v1.length → A2.length = u2.length → B2.length = v2.length →
      (∀ x ∈ B1, ∀ y ∈ A2, x.1 < y.1) → (∀ x ∈ A1, ∀ y ∈ B2, x.1 ≤ y.1) →
      ∃ ws : List Int, ws.Perm (u2 ++ v2) ∧ Lin (errA + errB) (u1.sum + v1.sum) ((movedM A2 B nB).merge (movedM B2 A nA) keyLe) ws := by
  have stepA : ∀ (A1 : List E) (x : E) (A2 B1 B2 : List E) (u1 : List Int) (p : Int) (u2 v1 v2 : List Int), A = A1 ++ x :: A2 → B = B1 ++ B2 → wA = u1 ++ p :: u2 → wB = v1 ++ v2 → A1.length = u1.length → B1.length = v1.length →
      (∀ z ∈ B1, z.1 < x.1) → (∀ z ∈ B2, x.1 ≤ z.1) → u1.sum + v1.sum + p ≤ (moveE B nB x).2.1 + 1 ∧ (moveE B nB x).2.2 ≤ u1.sum + v1.sum + (errA + errB) ∧ 0 ≤ p := by
    intro A1 x A2 B1 B2 u1 p u2 v1 v2 e1 e2 e3 e4 l1 l2 h1 h2
    have hx : A[A1.length]? = some x := by rw [e1]; simp
    have q := hA.at_ hx
    have t1 : (wA.take (A1.length + 1)).sum = u1.sum + p := by
      rw [e3, l1, show u1 ++ p :: u2 = (u1 ++ [p]) ++ u2 by simp, List.take_append_of_le_length (by simp), List.take_of_length_le (by simp)]
      simp
    have t2 : (wA.take A1.length).sum = u1.sum := by rw [e3, l1, take_append_sum]
    have hc : upTo B (x.1 - 1) = B1.length := by
      rw [e2]
      exact upTo_split (fun e he => by have := h1 e he; omega) (fun e he => by have := h2 e he; omega)
    have hu : B1.length ≤ upTo B x.1 := by rw [← hc]; exact upTo_mono (by omega)
    have g1 := hB.leastOf (upTo_le B x.1)
    have g2 := sum_take_le hB.nonneg hu
    have t3 : (wB.take B1.length).sum = v1.sum := by rw [e4, l2, take_append_sum]
    have g3 := hB.mostOf eB (c := B1.length) (by rw [← hc]; exact upTo_le _ _) tB
    have hp : 0 ≤ p := hA.nonneg p (by rw [e3]; simp)
    refine ⟨?_, ?_, hp⟩
    · show u1.sum + v1.sum + p ≤ x.2.1 + leastOf B (upTo B x.1) + 1
      omega
    · show x.2.2 + mostOf B (upTo B (x.1 - 1)) nB ≤ _
      rw [hc]
      omega
  have stepB : ∀ (B1 : List E) (y : E) (B2 A1 A2 : List E) (v1 : List Int) (p : Int) (v2 u1 u2 : List Int), B = B1 ++ y :: B2 → A = A1 ++ A2 → wB = v1 ++ p :: v2 → wA = u1 ++ u2 → B1.length = v1.length → A1.length = u1.length →
      (∀ z ∈ A1, z.1 ≤ y.1) → (∀ z ∈ A2, y.1 < z.1) → u1.sum + v1.sum + p ≤ (moveE A nA y).2.1 + 1 ∧ (moveE A nA y).2.2 ≤ u1.sum + v1.sum + (errA + errB) ∧ 0 ≤ p := by
    intro B1 y B2 A1 A2 v1 p v2 u1 u2 e1 e2 e3 e4 l1 l2 h1 h2
    have hx : B[B1.length]? = some y := by rw [e1]; simp
    have q := hB.at_ hx
    have t1 : (wB.take (B1.length + 1)).sum = v1.sum + p := by
      rw [e3, l1, show v1 ++ p :: v2 = (v1 ++ [p]) ++ v2 by simp, List.take_append_of_le_length (by simp), List.take_of_length_le (by simp)]
      simp
    have t2 : (wB.take B1.length).sum = v1.sum := by rw [e3, l1, take_append_sum]
    have hc : upTo A y.1 = A1.length := by
      rw [e2]
      exact upTo_split h1 h2
    have hu : upTo A (y.1 - 1) ≤ A1.length := by rw [← hc]; exact upTo_mono (by omega)
    have g1 := hA.leastOf (c := A1.length) (by rw [← hc]; exact upTo_le _ _)
    have t3 : (wA.take A1.length).sum = u1.sum := by rw [e4, l2, take_append_sum]
    have g3 := hA.mostOf eA (upTo_le A (y.1 - 1)) tA
    have g2 := sum_take_le hA.nonneg hu
    have hp : 0 ≤ p := hB.nonneg p (by rw [e3]; simp)
    refine ⟨?_, ?_, hp⟩
    · show u1.sum + v1.sum + p ≤ y.2.1 + leastOf A (upTo A y.1) + 1
      rw [hc]
      omega
    · show y.2.2 + mostOf A (upTo A (y.1 - 1)) nA ≤ _
      omega
  intro A1 A2
  induction A2 generalizing A1 with
  | nil =>
    intro B1 B2 u1 u2 v1 v2 e1 e2 e3 e4 l1 l2 l3 l4 _ hAB
    have hu2 : u2 = [] := List.length_eq_zero_iff.mp (by simpa using l3.symm)
    subst hu2
    induction B2 generalizing B1 v1 v2 with
    | nil =>
      have hv2 : v2 = [] := List.length_eq_zero_iff.mp (by simpa using l4.symm)
      subst hv2
      exact ⟨[], by simp, by simp [movedM, Lin]⟩
    | cons y B2 ih =>
      cases v2 with
      | nil => simp at l4
      | cons p v2 =>
        obtain ⟨k1, k2, k3⟩ := stepB B1 y B2 A1 [] v1 p v2 u1 [] e2 e1 e4 e3 l2 l1 (fun z hz => hAB z hz y List.mem_cons_self) (by simp)
        obtain ⟨ws, hp, hl⟩ := ih (B1 ++ [y]) (v1 ++ [p]) v2 (by rw [e2]; simp) (by rw [e4]; simp) (by simp [l2]) (by simpa using l4) (by simp) (fun x hx z hz => hAB x hx z (List.mem_cons_of_mem _ hz))
        refine ⟨p :: ws, by simpa using hp, ?_⟩
        have em : (movedM [] B nB).merge (movedM (y :: B2) A nA) keyLe = moveE A nA y :: (movedM [] B nB).merge (movedM B2 A nA) keyLe := by simp [movedM]
        rw [em]
        refine ⟨k1, k2, k3, ?_⟩
        have : u1.sum + v1.sum + p = u1.sum + (v1 ++ [p]).sum := by simp; omega
        rw [this]
        exact hl
  | cons x A2 ihA =>
    intro B1 B2 u1 u2 v1 v2 e1 e2 e3 e4 l1 l2 l3 l4 hBA hAB
    cases u2 with
    | nil => simp at l3
    | cons p u2 =>
    have sA' : Srtd (x :: A2) := by rw [e1] at sA; exact (List.pairwise_append.mp sA).2.1
    induction B2 generalizing B1 v1 v2 with
    | nil =>
      have hv2 : v2 = [] := List.length_eq_zero_iff.mp (by simpa using l4.symm)
      subst hv2
      obtain ⟨k1, k2, k3⟩ := stepA A1 x A2 B1 [] u1 p u2 v1 [] e1 e2 e3 e4 l1 l2 (fun z hz => hBA z hz x List.mem_cons_self) (by simp)
      obtain ⟨ws, hp, hl⟩ := ihA (A1 ++ [x]) B1 [] (u1 ++ [p]) u2 v1 [] (by rw [e1]; simp) e2 (by rw [e3]; simp) e4 (by simp [l1]) l2 (by simpa using l3) rfl (fun z hz y hy => hBA z hz y (List.mem_cons_of_mem _ hy)) (by simp)
      refine ⟨p :: ws, by simpa using hp, ?_⟩
      have em : (movedM (x :: A2) B nB).merge (movedM [] A nA) keyLe = moveE B nB x :: (movedM A2 B nB).merge (movedM [] A nA) keyLe := by simp [movedM]
      rw [em]
      refine ⟨k1, k2, k3, ?_⟩
      have : u1.sum + v1.sum + p = (u1 ++ [p]).sum + v1.sum := by simp; omega
      rw [this]
      exact hl
    | cons y B2 ihB =>
      cases v2 with
      | nil => simp at l4
      | cons q v2 =>
      have sB' : Srtd (y :: B2) := by rw [e2] at sB; exact (List.pairwise_append.mp sB).2.1
      by_cases c : x.1 ≤ y.1
      · have hB2 : ∀ z ∈ y :: B2, x.1 ≤ z.1 := fun z hz => by
          rcases List.mem_cons.mp hz with e | e
          · rw [e]; exact c
          · have := List.rel_of_pairwise_cons sB' e
            omega
        obtain ⟨k1, k2, k3⟩ := stepA A1 x A2 B1 (y :: B2) u1 p u2 v1 (q :: v2) e1 e2 e3 e4 l1 l2 (fun z hz => hBA z hz x List.mem_cons_self) hB2
        obtain ⟨ws, hp, hl⟩ := ihA (A1 ++ [x]) B1 (y :: B2) (u1 ++ [p]) u2 v1 (q :: v2) (by rw [e1]; simp) e2 (by rw [e3]; simp) e4 (by simp [l1]) l2 (by simpa using l3) l4 (fun z hz y hy => hBA z hz y (List.mem_cons_of_mem _ hy))
          (fun z hz y' hy => by
            rcases List.mem_append.mp hz with h | h
            · exact hAB z h y' hy
            · rw [List.mem_singleton.mp h]; exact hB2 y' hy)
        refine ⟨p :: ws, by simpa using hp, ?_⟩
        have em : (movedM (x :: A2) B nB).merge (movedM (y :: B2) A nA) keyLe = moveE B nB x :: (movedM A2 B nB).merge (movedM (y :: B2) A nA) keyLe := by
          show (moveE B nB x :: movedM A2 B nB).merge (moveE A nA y :: movedM B2 A nA) keyLe = _
          rw [List.cons_merge_cons, if_pos (show keyLe (moveE B nB x) (moveE A nA y) = true from decide_eq_true c)]
          rfl
        rw [em]
        refine ⟨k1, k2, k3, ?_⟩
        have : u1.sum + v1.sum + p = (u1 ++ [p]).sum + v1.sum := by simp; omega
        rw [this]
        exact hl
      · have hA2 : ∀ z ∈ x :: A2, y.1 < z.1 := fun z hz => by
          rcases List.mem_cons.mp hz with e | e
          · rw [e]; omega
          · have := List.rel_of_pairwise_cons sA' e
            omega
        obtain ⟨k1, k2, k3⟩ := stepB B1 y B2 A1 (x :: A2) v1 q v2 u1 (p :: u2) e2 e1 e4 e3 l2 l1 (fun z hz => hAB z hz y List.mem_cons_self) hA2
        obtain ⟨ws, hp, hl⟩ := ihB (B1 ++ [y]) (v1 ++ [q]) v2 (by rw [e2]; simp) (by rw [e4]; simp) (by simp [l2]) (by simpa using l4)
          (fun z hz y' hy => by
            rcases List.mem_append.mp hz with h | h
            · exact hBA z h y' hy
            · rw [List.mem_singleton.mp h]; exact hA2 y' hy) (fun z hz y' hy => hAB z hz y' (List.mem_cons_of_mem _ hy))
        refine ⟨q :: ws, ?_, ?_⟩
        · have := hp.cons q
          refine this.trans ?_
          have h3 : (q :: ((p :: u2) ++ v2)).Perm ((p :: u2) ++ q :: v2) := (List.perm_middle (a := q) (l₁ := p :: u2) (l₂ := v2)).symm
          exact h3
        · have em : (movedM (x :: A2) B nB).merge (movedM (y :: B2) A nA) keyLe = moveE A nA y :: (movedM (x :: A2) B nB).merge (movedM B2 A nA) keyLe := by
            show (moveE B nB x :: movedM A2 B nB).merge (moveE A nA y :: movedM B2 A nA) keyLe = _
            rw [List.cons_merge_cons, if_neg (show ¬ keyLe (moveE B nB x) (moveE A nA y) = true from fun h => c (of_decide_eq_true h))]
            rfl
          rw [em]
          refine ⟨k1, k2, k3, ?_⟩
          have : u1.sum + v1.sum + q = u1.sum + (v1 ++ [q]).sum := by simp; omega
          rw [this]
          exact hl
theorem perm_sum {a b : List Int} (h : a.Perm b) : a.sum = b.sum := by
  induction h with
  | nil => rfl
  | cons x _ ih => simp [ih]
  | swap x y l => simp; omega
  | trans _ _ h1 h2 => exact h1.trans h2
theorem Gd.join {R S : Row} {e1 e2 : Int} {A B : List E} {wA wB : List Int} (hA : Gd R e1 A wA) (hB : Gd S e2 B wB) : ∃ ws : List Int, ws.Perm (wA ++ wB) ∧ Gd (R.add S) (e1 + e2) (joinM A R.n B S.n) ws := by
  obtain ⟨ws, hp, hl⟩ := lin_merge hA.lin hB.lin hA.err0 hB.err0 hA.srt hB.srt hA.sum hB.sum [] A [] B [] wA [] wB rfl rfl rfl rfl rfl rfl hA.lin.length hB.lin.length (by simp) (by simp)
  refine ⟨ws, hp, Row.add_ok hA.ok hB.ok, joinM_sorted _ _ _ _, fun e he => ?_, ?_, ?_, Int.add_nonneg hA.err0 hB.err0⟩
  · unfold joinM at he
    have he' := (List.mergeSort_perm _ _).mem_iff.mp he
    rcases List.mem_append.mp he' with h | h
    · obtain ⟨x, hx, rfl⟩ := List.mem_map.mp h
      exact (hA.tru x hx).moved hB.ok hB.srt hB.tru
    · obtain ⟨x, hx, rfl⟩ := List.mem_map.mp h
      rw [Row.add_comm]
      exact (hB.tru x hx).moved hA.ok hA.srt hA.tru
  · rw [joinM_merge hA.srt hB.srt]
    simpa using hl
  · rw [perm_sum hp, List.sum_append, hA.sum, hB.sum]
    rfl
theorem lin_halve {err w : Int} (hw : 0 ≤ w) : ∀ (m : Nat) (es : List E) (a : Int), Lin err a es (List.replicate (2 * m) w) → Lin (err + w) a (halvedM es) (List.replicate m (2 * w))
  | 0, es, a, h => by
    cases es with
    | nil => simp [halvedM, Lin]
    | cons x t => simp [Lin] at h
  | m + 1, es, a, h => by
    have e : List.replicate (2 * (m + 1)) w = w :: w :: List.replicate (2 * m) w := by
      rw [show 2 * (m + 1) = 2 * m + 1 + 1 by omega, List.replicate_succ, List.replicate_succ]
    rw [e] at h
    match es, h with
    | x :: y :: t, h =>
      obtain ⟨h1, h2, h3, h4, h5, h6, h7⟩ := h
      have ih := lin_halve hw m t (a + w + w) h7
      rw [List.replicate_succ]
      refine ⟨by omega, by omega, by omega, ?_⟩
      rw [show a + 2 * w = a + w + w by omega]
      exact ih
theorem replicate_sum (m : Nat) (w : Int) : (List.replicate m w).sum = m * w := by
  induction m with
  | zero => simp
  | succ m ih => rw [List.replicate_succ, List.sum_cons, ih, Int.natCast_add, Int.add_mul]; omega
theorem Gd.halve {R : Row} {err w : Int} {es : List E} {m : Nat} (hw : 0 ≤ w) (h : Gd R err es (List.replicate (2 * m) w)) : Gd R (err + w) (halvedM es) (List.replicate m (2 * w)) := by
  refine ⟨h.ok, halvedM_sorted h.srt, fun e he => h.tru e ((halvedM_sub es).subset he), lin_halve hw m es 0 h.lin, ?_, Int.add_nonneg h.err0 hw⟩
  rw [← h.sum, replicate_sum, replicate_sum, Int.natCast_mul]
  show (m : Int) * (2 * w) = (2 : Int) * (m : Int) * w
  rw [Int.mul_comm 2 (m : Int), Int.mul_assoc]
theorem lin_exact : ∀ (l : List Int) (k : Nat), Lin 0 k (enumE k l) (List.replicate l.length 1)
  | [], _ => by simp [enumE, Lin]
  | x :: t, k => by
    rw [List.length_cons, List.replicate_succ]
    refine ⟨Int.le_refl _, by simp, by decide, ?_⟩
    have := lin_exact t (k + 1)
    simpa using this
theorem enumE_tru : ∀ (pre l : List Int), (pre ++ l).Pairwise (· ≤ ·) → ∀ e ∈ enumE pre.length l, Tru (rowOf (pre ++ l)) e
  | pre, [], _, e, he => by simp [enumE] at he
  | pre, x :: t, h, e, he => by
    rcases List.mem_cons.mp he with q | q
    · subst q
      obtain ⟨p1, p2, p3⟩ := List.pairwise_append.mp h
      have c1 : pre.countP (fun r => decide (r < x + 1)) = pre.length := List.countP_eq_length.mpr fun r hr => by
        have := p3 r hr x List.mem_cons_self
        simp; omega
      have c2 : t.countP (fun r => decide (r < x)) = 0 := List.countP_eq_zero.mpr fun r hr => by
        have := List.rel_of_pairwise_cons p2 hr
        simp; omega
      have c3 : pre.countP (fun r => decide (r < x)) ≤ pre.length := List.countP_le_length
      have c4 : t.countP (fun r => decide (r < x)) ≤ t.countP (fun r => decide (r < x + 1)) := List.countP_mono_left fun r _ hr => by simp at *; omega
      have l1 : (rowOf (pre ++ x :: t)).lt x = ((pre.countP (fun r => decide (r < x)) + 0 : Nat) : Int) := by
        rw [rowOf_lt, List.countP_append, List.countP_cons_of_neg (by simp), c2]
      have l2 : (rowOf (pre ++ x :: t)).lt (x + 1) = ((pre.length + (t.countP (fun r => decide (r < x + 1)) + 1) : Nat) : Int) := by
        rw [rowOf_lt, List.countP_append, List.countP_cons_of_pos (by simp; omega), c1]
      refine ⟨?_, ?_, ?_⟩
      · show (rowOf (pre ++ x :: t)).lt x < (rowOf (pre ++ x :: t)).lt (x + 1)
        rw [l1, l2]; omega
      · show (pre.length : Int) + 1 ≤ (rowOf (pre ++ x :: t)).lt (x + 1)
        rw [l2]; omega
      · show (rowOf (pre ++ x :: t)).lt x ≤ (pre.length : Int)
        rw [l1]; omega
    · have e0 : pre ++ x :: t = (pre ++ [x]) ++ t := by simp
      have := enumE_tru (pre ++ [x]) t (by rw [← e0]; exact h) e (by simpa using q)
      rw [← e0] at this
      exact this
theorem Gd.exact (row : List Int) : Gd (rowOf row) 0 (exactM row) (List.replicate row.length 1) := by
  refine ⟨rowOf_ok _, exactM_sorted _, fun e he => ?_, ?_, ?_, Int.le_refl _⟩
  · have := enumE_tru [] (RB.srt row) (by simpa using srt_sorted row) e he
    rw [← rowOf_perm (srt_perm row)]
    simpa using this
  · have := lin_exact (RB.srt row) 0
    rw [srt_length] at this
    exact this
  · rw [replicate_sum, rowOf_n]; omega
theorem Gd.empty : Gd Row.nil 0 [] [] := ⟨Row.nil_ok, List.Pairwise.nil, by simp, trivial, rfl, Int.le_refl _⟩
/-! ### what is told of a reading, and of a place -/
theorem Gd.ahead {R : Row} {err : Int} {es : List E} {ws : List Int} (h : Gd R err es ws) (r : Int) :
    leastOf es (upTo es (r - 1)) ≤ R.lt r ∧ R.lt r ≤ mostOf es (upTo es (r - 1)) R.n ∧ mostOf es (upTo es (r - 1)) R.n - leastOf es (upTo es (r - 1)) ≤ err := by
  have hl := upTo_le es (r - 1)
  refine ⟨?_, ?_, ?_⟩
  · unfold leastOf
    split
    · exact h.ok.lo _
    · rename_i hc
      have hi : es[upTo es (r - 1) - 1]? = some es[upTo es (r - 1) - 1] := List.getElem?_eq_getElem (by omega)
      have hle := (upTo_at h.srt (r := r - 1) hi).mpr (by omega)
      have ht := (h.tru _ (List.mem_of_getElem? hi)).least
      have hm := h.ok.mono (es[upTo es (r - 1) - 1].1 + 1) r (by omega)
      rw [List.getD_eq_getElem?_getD, hi]
      simp only [Option.getD_some]
      omega
  · unfold mostOf
    split
    · exact h.ok.hi _
    · rename_i hc
      have hi : es[upTo es (r - 1)]? = some es[upTo es (r - 1)] := List.getElem?_eq_getElem (by omega)
      have hle : ¬ es[upTo es (r - 1)].1 ≤ r - 1 := fun q => by
        have := (upTo_at h.srt (r := r - 1) hi).mp q
        omega
      have ht := (h.tru _ (List.mem_of_getElem? hi)).most
      have hm := h.ok.mono r es[upTo es (r - 1)].1 (by omega)
      rw [List.getD_eq_getElem?_getD, hi]
      simp only [Option.getD_some]
      omega
  · have g1 := h.lin.leastOf hl
    have g2 := h.lin.mostOf h.err0 hl h.sum
    omega
def far (p : Int) (e : E) : Int := max (p - e.2.1) (e.2.2 - p)
def nearF (p : Int) (best e : E) : E := if far p e < far p best then e else best
def nearestE (es : List E) (p : Int) : E := es.foldl (nearF p) (es.headD (0, 0, 0))
theorem near_fold (p : Int) : ∀ (es : List E) (b : E), far p (es.foldl (nearF p) b) ≤ far p b ∧ (∀ e ∈ es, far p (es.foldl (nearF p) b) ≤ far p e) ∧ (es.foldl (nearF p) b = b ∨ es.foldl (nearF p) b ∈ es)
  | [], b => ⟨Int.le_refl _, by simp, .inl rfl⟩
  | x :: t, b => by
    obtain ⟨h1, h2, h3⟩ := near_fold p t (nearF p b x)
    have hb : far p (nearF p b x) ≤ far p b ∧ far p (nearF p b x) ≤ far p x := by
      unfold nearF
      split <;> omega
    refine ⟨Int.le_trans h1 hb.1, fun e he => ?_, ?_⟩
    · rcases List.mem_cons.mp he with q | q
      · rw [q]; exact Int.le_trans h1 hb.2
      · exact h2 e q
    · show t.foldl (nearF p) (nearF p b x) = b ∨ t.foldl (nearF p) (nearF p b x) ∈ x :: t
      rcases h3 with h | h
      · have : nearF p b x = b ∨ nearF p b x = x := by
          unfold nearF
          split
          · exact .inr rfl
          · exact .inl rfl
        rcases this with q | q
        · left; rw [h, q]
        · right; rw [h, q]; simp
      · right; exact List.mem_cons_of_mem _ h
theorem nearest_mem {es : List E} (p : Int) (h : es ≠ []) : nearestE es p ∈ es := by
  cases es with
  | nil => exact absurd rfl h
  | cons x t =>
    rcases (near_fold p (x :: t) x).2.2 with q | q
    · show (x :: t).foldl (nearF p) x ∈ x :: t
      rw [q]; simp
    · exact q
theorem lin_find {err : Int} : ∀ {es : List E} {ws : List Int} {a : Int}, Lin err a es ws → 0 ≤ err → ∀ p, a ≤ p → p < a + ws.sum → ∃ e ∈ es, far p e ≤ err
  | [], [], a, _, _, p, h1, h2 => by simp at h2; omega
  | x :: es, w :: ws, a, h, h0, p, h1, h2 => by
    by_cases c : p < a + w
    · refine ⟨x, List.mem_cons_self, ?_⟩
      have := h.1
      have := h.2.1
      unfold far
      omega
    · rw [List.sum_cons] at h2
      obtain ⟨e, he, hf⟩ := lin_find h.2.2.2 h0 p (by omega) (by omega)
      exact ⟨e, List.mem_cons_of_mem _ he, hf⟩
theorem Gd.near {R : Row} {err : Int} {es : List E} {ws : List Int} (h : Gd R err es ws) {p : Int} (h0 : 0 ≤ p) (h1 : p < R.n) :
    es ≠ [] ∧ R.lt (nearestE es p).1 < R.lt ((nearestE es p).1 + 1) ∧ R.lt (nearestE es p).1 - err ≤ p ∧ p ≤ R.lt ((nearestE es p).1 + 1) - 1 + err := by
  obtain ⟨e, he, hf⟩ := lin_find h.lin h.err0 p h0 (by rw [h.sum]; omega)
  have hne : es ≠ [] := by rintro rfl; cases he
  have hm := nearest_mem p hne
  have hle : far p (nearestE es p) ≤ far p e := (near_fold p es (es.headD (0, 0, 0))).2.1 e he
  have t := h.tru _ hm
  have t1 := t.here
  have t2 := t.least
  have t3 := t.most
  unfold far at hle hf
  refine ⟨hne, t1, ?_, ?_⟩ <;> omega
end RB

/-! Rules of my own over the hand layer, and short steps through a reading. -/
namespace RB
open PySem PySem.Spec PyProof.Rows L2
/-! ### steps: from what a reading asks to what is left -/
section
variable {σ : L2.St} {H : Hp} {Q : VK} {i j : Int} {v x y : V} {ta tb tc te : TE} {t u : TT} {D : Ends}
theorem r_var {n : Nat} (h : σ[n]? = some (some v)) (q : Q v H) : tVar n σ H Q := ⟨v, h, q⟩
theorem r_c (q : Q v H) : tC v σ H Q := q
theorem r_op {r : R2} (q : ta σ H fun x H1 => tb σ H1 fun y H2 => r x y H2 Q) : tOp r ta tb σ H Q := q
theorem r_un {r : V → Hp → VK → Prop} (q : ta σ H fun x H1 => r x H1 Q) : tUn r ta σ H Q := q
theorem r_I0 {g : Int → Int → V} (q : Q (g i j) H) : rI0 g (.int i) (.int j) H Q := ⟨i, j, rfl, rfl, q⟩
theorem r_I {C : Int → Int → Prop} {g : Int → Int → V} (c : C i j) (q : Q (g i j) H) : rI C g (.int i) (.int j) H Q := ⟨i, j, rfl, rfl, c, q⟩
theorem r_U {g : Int → V} (q : Q (g i) H) : rU g (.int i) H Q := ⟨i, rfl, q⟩
theorem r_eqI (q : Q (.bl (decide (i = j))) H) : rEq (.int i) (.int j) H Q := ⟨rfl, by rw [show decide (V.int i = V.int j) = decide (i = j) from decide_eq_decide.mpr ⟨fun h => V.int.inj h, fun h => by rw [h]⟩]; exact q⟩
theorem r_neI (q : Q (.bl (!decide (i = j))) H) : rNe (.int i) (.int j) H Q := ⟨rfl, by rw [show decide (V.int i = V.int j) = decide (i = j) from decide_eq_decide.mpr ⟨fun h => V.int.inj h, fun h => by rw [h]⟩]; exact q⟩
theorem r_test {R : Bool → Hp → Prop} (q : te σ H fun x H1 => ∃ k, x = .bl k ∧ R k H1) : tTest te σ H R := q
theorem r_B {R : Bool → Hp → Prop} (q : te σ H fun x H1 => ∃ k, x = .bl k ∧ R k H1) : tB te σ H R := q
theorem r_bl {b : Bool} {R : Bool → Prop} (q : R b) : ∃ k, V.bl b = .bl k ∧ R k := ⟨b, rfl, q⟩
theorem r_seq {t1 t2 : TS} (q : t1 { D with nx := t2 D } σ H) : tSeq t1 t2 D σ H := q
theorem r_asg {g : TG} (q : te σ H fun x H1 => g x σ H1 D.nx) : tAsg te g D σ H := q
theorem r_name {n : Nat} {R : L2.St → Hp → Prop} (q : R (σ.set n (some v)) H) : gName n v σ H R := q
theorem r_ret (q : te σ H D.rt) : tRet te D σ H := q
theorem r_drop (q : te σ H fun _ H1 => D.nx σ H1) : tDrop te D σ H := q
theorem r_next (q : D.nx σ H) : tNext D σ H := q
theorem r_ifS {t1 t2 : TS} (q : t σ H fun b H1 => if b = true then t1 D σ H1 else t2 D σ H1) : tIfS t t1 t2 D σ H := q
theorem r_and {R : Bool → Hp → Prop} (q : t σ H fun c H1 => if c = true then u σ H1 R else R false H1) : tAnd t u σ H R := q
theorem r_or {R : Bool → Hp → Prop} (q : t σ H fun c H1 => if c = true then R true H1 else u σ H1 R) : tOr t u σ H R := q
theorem r_not {R : Bool → Hp → Prop} (q : t σ H fun c H1 => R (!c) H1) : tNot t σ H R := q
theorem r_notV (q : ta σ H fun x H1 => ∃ c, x = .bl c ∧ Q (.bl (!c)) H1) : tNotV ta σ H Q := q
theorem r_andV (q : ta σ H fun x H1 => ∃ c, x = .bl c ∧ if c = true then tb σ H1 Q else Q (.bl false) H1) : tAndV ta tb σ H Q := q
theorem r_orV (q : ta σ H fun x H1 => ∃ c, x = .bl c ∧ if c = true then Q (.bl true) H1 else tb σ H1 Q) : tOrV ta tb σ H Q := q
theorem r_cb {r : List V → Hp → VK → Prop} {tt : TA} (q : tt σ H fun vs H1 => r vs H1 Q) : tCB r tt σ H Q := q
theorem r_call {sp : Sp} {dvs : List V} {E : XK} {tt : TA} (q : tt σ H fun vs H1 => sp (vs ++ dvs) H1 Q E) : tCall sp dvs E tt σ H Q := q
theorem r_nil {R : List V → Hp → Prop} (q : R [] H) : tNil σ H R := q
theorem r_cons {tr : TA} {R : List V → Hp → Prop} (q : ta σ H fun x H1 => tr σ H1 fun xs H2 => R (x :: xs) H2) : tCons ta tr σ H R := q
theorem r_lst {tt : TA} (q : tt σ H fun xs H1 => xs.length ≤ sizeLine ∧ ∀ p, H1 p = none → Q (.ref p) (upd H1 p (.lst xs))) : tLst tt σ H Q := q
theorem r_tup {tt : TA} (q : tt σ H fun xs H1 => xs.length ≤ sizeLine ∧ ∀ p, H1 p = none → Q (.ref p) (upd H1 p (.tup xs))) : tTup tt σ H Q := q
end
/-- an if by its test -/
theorem if_b {b : Bool} {A B : Prop} (h1 : b = true → A) (h2 : b = false → B) : if b = true then A else B := by
  cases b with
  | true => exact h1 rfl
  | false => rw [if_neg (by decide)]; exact h2 rfl
theorem if_d {p : Prop} [Decidable p] {A B : Prop} (h1 : p → A) (h2 : ¬ p → B) : if decide p = true then A else B := by
  by_cases h : p
  · rw [if_pos (decide_eq_true h)]; exact h1 h
  · rw [if_neg (by simpa using h)]; exact h2 h
theorem mulL {i j : Int} (h : -18446744073709551616 < i ∧ i < 18446744073709551616) : CMul i j := .inl h
theorem mulR {i j : Int} (h : -18446744073709551616 < j ∧ j < 18446744073709551616) : CMul i j := .inr h
/-- one value, all that was there kept -/
def RetV (v : V) (H : Hp) (Q : VK) : Prop := ∀ H', Same H H' → Q v H'
theorem RetV.go {v : V} {H H' : Hp} {Q : VK} (k : RetV v H Q) (e : Same H H') : Q v H' := k H' e
theorem Same.new {H : Hp} {p : Addr} {o : HO} (h : H p = none) : Same H (upd H p o) := fun a u e => by
  rw [upd_ne (ne_of_none e h)]
  exact e
/-- what H does not know may change -/
theorem Same.mut {H H' : Hp} {p : Addr} {o : HO} (e : Same H H') (h : H p = none) : Same H (upd H' p o) := fun a u ha => by
  rw [upd_ne (ne_of_none ha h)]
  exact e a u ha
end RB

namespace RB
open PySem PySem.Spec PyProof.Rows L2
/-! ### xs[1::2] -/
def oddsV {α : Type} : List α → List α
  | _ :: y :: t => y :: oddsV t
  | _ => []
theorem oddsV_length {α : Type} : ∀ xs : List α, (oddsV xs).length = xs.length / 2
  | [] => by simp [oddsV]
  | [_] => by simp [oddsV]
  | x :: y :: t => by
    show (oddsV t).length + 1 = (t.length + 1 + 1) / 2
    rw [oddsV_length t]
    omega
theorem oddsV_get {α : Type} : ∀ (xs : List α) (i : Nat), (oddsV xs)[i]? = xs[2 * i + 1]?
  | [], i => by simp [oddsV]
  | [x], i => by simp [oddsV]
  | x :: y :: t, 0 => by simp [oddsV]
  | x :: y :: t, i + 1 => by
    have h := oddsV_get t i
    have e : 2 * (i + 1) + 1 = (2 * i + 1) + 1 + 1 := by omega
    rw [e]
    simpa [oddsV] using h
theorem oddsV_halved : ∀ es : List E, oddsV es = halvedM es
  | [] => rfl
  | [_] => rfl
  | x :: y :: t => by
    show y :: oddsV t = y :: halvedM t
    rw [oddsV_halved t]
theorem odds_vals : ∀ {xs : List V} {us : List Value}, Vals xs us → Vals (oddsV xs) (oddsV us)
  | _, _, .nil => .nil
  | _, _, .cons _ .nil => .nil
  | _, _, .cons _ (.cons r t) => .cons r (odds_vals t)
theorem odds_range (n : Nat) : sliceRange (sliceBounds (some 1) none (some 2) n).1 (sliceBounds (some 1) none (some 2) n).2.1 (sliceBounds (some 1) none (some 2) n).2.2 = (List.range (n / 2)).map fun k => 2 * k + 1 := by
  have e1 : (sliceBounds (some 1) none (some 2) n).2.2 = 2 := rfl
  have e2 : (sliceBounds (some 1) none (some 2) n).2.1 = (n : Int) := by
    unfold sliceBounds
    simp
  have e3 : (sliceBounds (some 1) none (some 2) n).1 = min 1 (n : Int) := by
    unfold sliceBounds
    simp only [Option.getD_some]
    simp
    omega
  rw [e1, e2, e3]
  unfold sliceRange
  rw [if_pos (by decide)]
  by_cases h : min 1 (n : Int) < (n : Int)
  · rw [if_pos h]
    have e : (((n : Int) - min 1 (n : Int) + 2 - 1) / 2).toNat = n / 2 := by omega
    simp only [e]
    apply List.map_congr_left
    intro k hk
    omega
  · rw [if_neg h]
    have e : n / 2 = 0 := by omega
    rw [e]
    rfl
theorem odds_pickL {α : Type} : ∀ xs : List α, ((List.range (xs.length / 2)).map fun k => 2 * k + 1).filterMap (fun i => xs[i]?) = oddsV xs
  | [] => by simp [oddsV]
  | [_] => by simp [oddsV]
  | x :: y :: t => by
    have ih := odds_pickL t
    have e : (x :: y :: t).length / 2 = t.length / 2 + 1 := by
      show (t.length + 1 + 1) / 2 = _
      omega
    rw [e, List.range_succ_eq_map, List.map_cons, List.map_map, List.filterMap_cons]
    show y :: _ = y :: oddsV t
    rw [← ih, List.filterMap_map, List.filterMap_map]
    rfl
theorem odds_pick (items : Array Value) : slicePick items (some 1) none (some 2) = (oddsV items.toList).toArray := by
  unfold slicePick
  rw [odds_range, ← odds_pickL items.toList, Array.length_toList]
  have e : (fun x : Nat => items[x]?) = fun i : Nat => items.toList[i]? := by
    funext i
    simp
  rw [e]
def tOdds (K : PySem.W.Frag) (te : TE) : TE := fun σ H Q => te σ H fun x H1 => ∃ a xs, x = .ref a ∧ SqL K H1 a xs ∧ ∀ p, H1 p = none → Q (.ref p) (upd H1 p (.lst (oddsV xs)))
theorem pe_odds {X : Cx} {e : Expr} {te : TE} {k1 k2 : Nat} {p1 p2 p3 pos : Pos} (he : PE X e te) : PE X (.Subscript e (.Slice (some (.Constant (.int 1) k1 p1)) none (some (.Constant (.int 2) k2 p2)) p3) pos) (tOdds X.K te) := by
  refine ⟨fun pins s σ H Q I h => ?_⟩
  refine Subscript_ (thn (he.run pins s σ H _ I h) fun v s1 ⟨x, H1, I1, r1, q1⟩ => ?_)
  obtain ⟨a, xs, ex, hx, q⟩ := q1
  subst ex
  cases r1
  have hlo : PO X (some (.Constant (.int 1) k1 p1)) (tPart (tC (.int 1))) := po_some pe_int
  have hst : PO X (some (.Constant (.int 2) k2 p2)) (tPart (tC (.int 2))) := po_some pe_int
  refine wpAny_Slice (thn (hlo.run pins s1 σ H1 (fun o H2 => o = some 1 ∧ H2 = H1) I1 ⟨1, rfl, rfl, rfl⟩) fun vl s2 ⟨l, H2, I2, pl, el, e2⟩ => ?_)
  subst el e2
  refine thn (po_none.run pins s2 σ H2 (fun o H3 => o = none ∧ H3 = H2) I2 ⟨rfl, rfl⟩) fun vu s3 ⟨u, H3, I3, pu, eu, e3⟩ => ?_
  subst eu e3
  refine thn (hst.run pins s3 σ H3 (fun o H4 => o = some 2 ∧ H4 = H3) I3 ⟨2, rfl, rfl, rfl⟩) fun vs s4 ⟨o, H4, I4, ps, eo, e4⟩ => ?_
  subst eo e4
  have I5 : Inv X pins σ H4 { s4 with heap := s4.heap.push { cls := .type "slice", data := .fields #[vl, vu, vs] } } := I4.kept (t' := s4.toks) fun b ob q => Heap.get?_push_of_some _ q
  obtain ⟨its, r, ht, hz⟩ := I5.list hx
  have hlen := r.length
  show wpAny (model X.prog X.w) X.A (subscriptTail e (.Slice (some (.Constant (.int 1) k1 p1)) none (some (.Constant (.int 2) k2 p2)) p3) (.ref a) (.ref s4.heap.objs.size)) (EP X pins σ Q) X.xe { s4 with heap := s4.heap.push { cls := .type "slice", data := .fields #[vl, vu, vs] } }
  refine tail_any (ops := [.ref a, .ref s4.heap.objs.size]) ht.isList.typeIs (PySem.slot_list_getitem.lookup) ?_ (by with_unfolding_all rfl)
  refine wpAny_getItem_list_slice ht.isList (Heap.IsSliceOf.new _ vl vu vs) pl pu ps (by decide) ?_ (by rw [List.size_toArray]; omega)
  rw [odds_pick]
  refine ⟨.ref _, _, I5.laid (t' := s4.toks) (o := .lst (oddsV xs)) (fun b ob q => Heap.get?_push_of_some _ q) (Nat.le_refl _) ?_, rfl, q _ (I5.hok.fresh (Nat.le_refl _))⟩
  exact ⟨by rw [oddsV_length]; omega, _, 0, odds_vals r, Heap.get?_push_size _ rfl⟩
end RB

namespace RB
open PySem PySem.Spec PyProof.Rows L2
/-! ### what stands in the heap: tuples of three ints, lists of them -/
def tri (e : E) : HO := .tup [.int e.1, .int e.2.1, .int e.2.2]
def EntsV (H : Hp) (xs : List V) (es : List E) : Prop := xs.length = es.length ∧ ∀ (i : Nat) (e : E), es[i]? = some e → ∃ t, xs[i]? = some (.ref t) ∧ H t = some (tri e)
def Ents (H : Hp) (a : Addr) (es : List E) : Prop := ∃ xs, H a = some (.lst xs) ∧ EntsV H xs es
theorem EntsV.same {H H' : Hp} {xs : List V} {es : List E} (h : EntsV H xs es) (s : Same H H') : EntsV H' xs es := ⟨h.1, fun i e he => by
  obtain ⟨t, h1, h2⟩ := h.2 i e he
  exact ⟨t, h1, s _ _ h2⟩⟩
theorem Ents.same {H H' : Hp} {a : Addr} {es : List E} (h : Ents H a es) (s : Same H H') : Ents H' a es := by
  obtain ⟨xs, h1, h2⟩ := h
  exact ⟨xs, s _ _ h1, h2.same s⟩
/-- lists and tuples stay: what other objects become does not touch entries -/
def Imm (H H' : Hp) : Prop := (∀ a xs, H a = some (.lst xs) → H' a = some (.lst xs)) ∧ ∀ a xs, H a = some (.tup xs) → H' a = some (.tup xs)
theorem Imm.of {H H' : Hp} (s : Same H H') : Imm H H' := ⟨fun _ _ h => s _ _ h, fun _ _ h => s _ _ h⟩
theorem Imm.refl (H : Hp) : Imm H H := ⟨fun _ _ h => h, fun _ _ h => h⟩
theorem Imm.trans {H H1 H2 : Hp} (a : Imm H H1) (b : Imm H1 H2) : Imm H H2 := ⟨fun _ _ h => b.1 _ _ (a.1 _ _ h), fun _ _ h => b.2 _ _ (a.2 _ _ h)⟩
theorem EntsV.imm {H H' : Hp} {xs : List V} {es : List E} (h : EntsV H xs es) (s : ∀ a xs, H a = some (.tup xs) → H' a = some (.tup xs)) : EntsV H' xs es := ⟨h.1, fun i e he => by
  obtain ⟨t, h1, h2⟩ := h.2 i e he
  exact ⟨t, h1, s _ _ h2⟩⟩
theorem Ents.imm {H H' : Hp} {a : Addr} {es : List E} (h : Ents H a es) (s : Imm H H') : Ents H' a es := by
  obtain ⟨xs, h1, h2⟩ := h
  exact ⟨xs, s.1 _ _ h1, h2.imm s.2⟩
/-- a list that grows, entries behind it -/
theorem EntsV.snoc {H : Hp} {xs : List V} {es : List E} {t : Addr} {e : E} (h : EntsV H xs es) (ht : H t = some (tri e)) : EntsV H (xs ++ [.ref t]) (es ++ [e]) := by
  refine ⟨by simp [h.1], fun i e' he => ?_⟩
  by_cases hi : i < es.length
  · rw [List.getElem?_append_left hi] at he
    obtain ⟨t', h1, h2⟩ := h.2 i e' he
    exact ⟨t', by rw [List.getElem?_append_left (by rw [h.1]; exact hi)]; exact h1, h2⟩
  · have hi' : i = es.length := by
      have := (List.getElem?_eq_some_iff.mp he).1
      simp at this
      omega
    subst hi'
    simp at he
    subst he
    refine ⟨t, ?_, ht⟩
    rw [← h.1]
    simp
theorem EntsV.nil {H : Hp} : EntsV H [] [] := ⟨rfl, fun i e h => by simp at h⟩
/-! ### a new list, all that was there kept -/
def RetE (es : List E) (H : Hp) (Q : VK) : Prop := ∀ p H', H p = none → Same H H' → Ents H' p es → Q (.ref p) H'
def RetI (ns : List Int) (H : Hp) (Q : VK) : Prop := ∀ p H', H p = none → Same H H' → H' p = some (.lst (ns.map V.int)) → Q (.ref p) H'
theorem RetE.go {es : List E} {H H' H2 : Hp} {p : Addr} {Q : VK} (k : RetE es H Q) (s : Same H H') (hp : H' p = none) (s2 : Same H' H2) (h : Ents H2 p es) : Q (.ref p) H2 := k p H2 (s.free hp) (s.trans s2) h
theorem RetI.go {ns : List Int} {H H' H2 : Hp} {p : Addr} {Q : VK} (k : RetI ns H Q) (s : Same H H') (hp : H' p = none) (s2 : Same H' H2) (h : H2 p = some (.lst (ns.map V.int))) : Q (.ref p) H2 := k p H2 (s.free hp) (s.trans s2) h
/-! ### comprehensions -/
/-- the turns that give something, in order -/
def pickN (n : Nat) (t : Nat → Bool) : List Nat := (List.range n).filter t
theorem pickN_succ_yes {n : Nat} {t : Nat → Bool} (h : t n = true) : pickN (n + 1) t = pickN n t ++ [n] := by
  unfold pickN
  rw [List.range_succ, List.filter_append, List.filter_cons_of_pos h]
  rfl
theorem pickN_succ_no {n : Nat} {t : Nat → Bool} (h : t n = false) : pickN (n + 1) t = pickN n t := by
  unfold pickN
  rw [List.range_succ, List.filter_append, List.filter_cons_of_neg (by rw [h]; decide)]
  simp
theorem pickN_len (n : Nat) (t : Nat → Bool) : (pickN n t).length ≤ n := by
  unfold pickN
  have := List.length_filter_le t (List.range n)
  simpa using this
theorem pickN_all (n : Nat) : pickN n (fun _ => true) = List.range n := by
  unfold pickN
  rw [List.filter_eq_self]
  intro _ _
  rfl
/-- what stands in the made list: ys, by the turns -/
structure Made (n : Nat) (t : Nat → Bool) (P : Nat → V → Hp → Prop) (ys : List V) (H : Hp) : Prop where
  len : ys.length = (pickN n t).length
  get : ∀ (k i : Nat) (y : V), (pickN n t)[k]? = some i → ys[k]? = some y → P i y H
def LcG (J : It) (g : TG) (tt : TT) (te : TE) (vs : List Nat) (σ : L2.St) (H1 : Hp) (Q : VK) : Prop := ∀ D, H1 D = none → ∃ W : Nat → Nat → Hp → Prop, (∃ m, W 0 m (upd H1 D (.lst []))) ∧ ∀ i m H, W i m H →
  (J.stop i H ∧ Q (.ref D) H) ∨ (J.go i H ∧ ∃ Nx : Hp → Prop, (∀ H', Nx H' → ∃ m', m' < m ∧ W (i + 1) m' H') ∧ ∀ x H', J.yld i H x H' → g x (wipe σ vs) H' fun σ2 H2 => wipe σ2 vs = wipe σ vs ∧ tt σ2 H2 fun b H3 =>
    if b = true then te σ2 H3 fun y H4 => ∃ acc, H4 D = some (.lst acc) ∧ acc.length < sizeLine ∧ Nx (upd H4 D (.lst (acc ++ [y]))) else Nx H3)
def ForG (J : It) (g : TG) (tb : TS) (D : Ends) (σ : L2.St) (H1 : Hp) : Prop := ∃ W : Nat → Nat → L2.St → Hp → Prop, (∃ m, W 0 m σ H1) ∧ ∀ i m σ H, W i m σ H →
  (J.stop i H ∧ D.nx σ H) ∨ (J.go i H ∧ ∃ N : L2.St → Hp → Prop, (∀ σ' H', N σ' H' → ∃ m', m' < m ∧ W (i + 1) m' σ' H') ∧ ∀ x H', J.yld i H x H' → g x σ H' fun σ2 H2 => tb { D with nx := N, ct := N, bk := D.nx } σ2 H2)
section
variable {J : It} {n : Nat} {G : Hp → Prop} {Y : Nat → Hp → V → Hp → Prop}
theorem lc_gen (w : Walk J n G Y) {g : TG} {tt : TT} {te : TE} {vs : List Nat} {σ : L2.St} {H1 : Hp} {Q : VK} (t : Nat → Bool) (P : Nat → V → Hp → Prop) (hn : n < 16000000)
    (hG : G H1) (monoG : ∀ H H', Same H H' → G H → G H')
    (hP : ∀ i v H H', Same H H' → P i v H → P i v H') (hP' : ∀ i v (H : Hp) (D : Addr) (xs ys : List V), H D = some (.lst xs) → P i v H → P i v (upd H D (.lst ys)))
    (hs : ∀ i, i < n → ∀ H, Same H1 H → G H → ∀ x H', Y i H x H' → Same H H' ∧ ∀ (R : V → Hp → Prop) (S : Hp → Prop), (t i = true → ∀ y H4, Same H' H4 → P i y H4 → R y H4) → (t i = false → ∀ H4, Same H' H4 → S H4) →
      g x (wipe σ vs) H' fun σ2 H2 => wipe σ2 vs = wipe σ vs ∧ tt σ2 H2 fun b H3 => if b = true then te σ2 H3 R else S H3)
    (hq : ∀ D ys H, H1 D = none → Same H1 H → H D = some (.lst ys) → Made n t P ys H → Q (.ref D) H) :
    LcG J g tt te vs σ H1 Q := by
  intro D hD
  have monoU : ∀ H, Same H1 H → G H := fun H s => monoG _ _ s hG
  refine lc_it w (Qd := Q (.ref D)) (fun i H => Same H1 H ∧ ∃ ys, H D = some (.lst ys) ∧ Made i t P ys H) ⟨Same.new hD, [], upd_same, ?_⟩ (fun i H _ p => monoU H p.1) (fun i x H H' hi p y => ?_) (fun H p => ?_)
  · exact ⟨by simp [pickN], fun k i y h => by simp [pickN] at h⟩
  · obtain ⟨s1, ys, hDy, M⟩ := p
    obtain ⟨s2, f⟩ := hs i hi H s1 (monoU H s1) x H' y
    have hlen : ys.length < sizeLine := by
      rw [M.len]
      have := pickN_len i t
      rw [sizeLine_eq]
      omega
    refine f _ _ (fun ht y H4 s4 hy => ⟨ys, s4 _ _ (s2 _ _ hDy), hlen, ?_⟩) (fun ht H4 s4 => ?_)
    · have hD4 : H4 D = some (.lst ys) := s4 _ _ (s2 _ _ hDy)
      refine ⟨Same.mut ((s1.trans s2).trans s4) hD, ys ++ [y], upd_same, ?_, fun k j z hk hz => ?_⟩
      · rw [pickN_succ_yes ht, List.length_append, List.length_append, M.len]
        rfl
      · rw [pickN_succ_yes ht] at hk
        by_cases hlt : k < ys.length
        · rw [List.getElem?_append_left hlt] at hz
          rw [List.getElem?_append_left (by rw [← M.len]; exact hlt)] at hk
          exact hP' _ _ _ _ _ _ hD4 (hP _ _ _ _ (s2.trans s4) (M.get k j z hk hz))
        · have hk' : k = ys.length := by
            have := (List.getElem?_eq_some_iff.mp hz).1
            simp at this
            omega
          subst hk'
          have hz' : y = z := by simpa using hz
          have hj : i = j := by
            rw [M.len] at hk
            simpa using hk
          subst hz' hj
          exact hP' _ _ _ _ _ _ hD4 hy
    · refine ⟨(s1.trans s2).trans s4, ys, s4 _ _ (s2 _ _ hDy), ?_, fun k j z hk hz => ?_⟩
      · rw [pickN_succ_no ht]
        exact M.len
      · rw [pickN_succ_no ht] at hk
        exact hP _ _ _ _ (s2.trans s4) (M.get k j z hk hz)
  · obtain ⟨s1, ys, hDy, M⟩ := p
    exact hq D ys H hD s1 hDy M
end
/-- what a turn gives is an int, told by the turn -/
theorem Made.ints {n : Nat} {t : Nat → Bool} {f : Nat → Int} {ys : List V} {H : Hp} (M : Made n t (fun i v _ => v = .int (f i)) ys H) : ys = ((pickN n t).map f).map V.int := by
  apply List.ext_getElem?
  intro k
  cases hk : (pickN n t)[k]? with
  | none =>
    have h1 : ys[k]? = none := by
      rw [List.getElem?_eq_none_iff] at hk ⊢
      rw [M.len]
      exact hk
    rw [h1, List.getElem?_map, List.getElem?_map, hk]
    rfl
  | some i =>
    have hlt : k < ys.length := by
      rw [M.len]
      exact (List.getElem?_eq_some_iff.mp hk).1
    have e := M.get k i ys[k] hk (List.getElem?_eq_getElem hlt)
    rw [List.getElem?_eq_getElem hlt, List.getElem?_map, List.getElem?_map, hk, e]
    rfl
theorem Made.vals {n : Nat} {t : Nat → Bool} {f : Nat → V} {ys : List V} {H : Hp} (M : Made n t (fun i v _ => v = f i) ys H) : ys = (pickN n t).map f := by
  apply List.ext_getElem?
  intro k
  cases hk : (pickN n t)[k]? with
  | none =>
    have h1 : ys[k]? = none := by
      rw [List.getElem?_eq_none_iff] at hk ⊢
      rw [M.len]
      exact hk
    rw [h1, List.getElem?_map, hk]
    rfl
  | some i =>
    have hlt : k < ys.length := by
      rw [M.len]
      exact (List.getElem?_eq_some_iff.mp hk).1
    have e := M.get k i ys[k] hk (List.getElem?_eq_getElem hlt)
    rw [List.getElem?_eq_getElem hlt, List.getElem?_map, hk, e]
    rfl
/-- what a turn gives is a tuple of three ints -/
def PTri (f : Nat → E) : Nat → V → Hp → Prop := fun i v H => ∃ t, v = .ref t ∧ H t = some (tri (f i))
theorem PTri.same {f : Nat → E} : ∀ i v H H', Same H H' → PTri f i v H → PTri f i v H' := fun i v H H' s ⟨t, h1, h2⟩ => ⟨t, h1, s _ _ h2⟩
theorem PTri.lst {f : Nat → E} : ∀ i v (H : Hp) (D : Addr) (xs ys : List V), H D = some (.lst xs) → PTri f i v H → PTri f i v (upd H D (.lst ys)) := fun i v H D xs ys hD ⟨t, h1, h2⟩ =>
  ⟨t, h1, by rw [upd_ne (ne_of h2 hD (by intro z; cases z))]; exact h2⟩
theorem Made.tris {n : Nat} {t : Nat → Bool} {f : Nat → E} {ys : List V} {H : Hp} (M : Made n t (PTri f) ys H) : EntsV H ys ((pickN n t).map f) := by
  refine ⟨by rw [M.len, List.length_map], fun k e he => ?_⟩
  rw [List.getElem?_map] at he
  cases hk : (pickN n t)[k]? with
  | none => rw [hk] at he; cases he
  | some i =>
    rw [hk] at he
    have he' : f i = e := Option.some.inj he
    have hlt : k < ys.length := by
      rw [M.len]
      exact (List.getElem?_eq_some_iff.mp hk).1
    obtain ⟨u, h1, h2⟩ := M.get k i ys[k] hk (List.getElem?_eq_getElem hlt)
    exact ⟨u, by rw [List.getElem?_eq_getElem hlt, h1], by rw [← he']; exact h2⟩
/-! ### loops and comprehensions, from what is walked to what is walked over -/
section
variable {σ : L2.St} {H : Hp} {Q : VK} {K : PySem.W.Frag} {wi : TI} {g : TG} {tt : TT} {te tl td : TE} {ta : TA} {vs : List Nat} {R : It → Hp → Prop} {D : Ends} {tb : TS}
theorem r_lc (q : wi σ H fun J H1 => LcG J g tt te vs σ H1 Q) : tLc wi g tt te vs σ H Q := q
theorem r_for (q : wi σ H fun J H1 => ForG J g tb D σ H1) : tFor wi g tb D σ H := q
theorem r_iList (q : tl σ H fun x H1 => ∃ a, x = .ref a ∧ (∃ xs, SqL K H1 a xs) ∧ R (Itl K a) H1) : iList K tl σ H R := q
theorem r_iTup (q : tl σ H fun x H1 => ∃ a, x = .ref a ∧ (∃ xs, SqT K H1 a xs) ∧ R (Itt K a) H1) : iTup K tl σ H R := q
theorem r_iEnum (q : ta σ H fun vs H1 => ∃ a xs, vs = [.ref a] ∧ SqL K H1 a xs ∧ R (Ite K a) H1) : iEnum K ta σ H R := q
theorem r_iZip (q : ta σ H fun vs H1 => ∃ a b xs ys, vs = [.ref a, .ref b] ∧ SqL K H1 a xs ∧ SqL K H1 b ys ∧ R (Itz K a b) H1) : iZip K ta σ H R := q
theorem r_iZipA (q : ta σ H fun vs H1 => ∃ a b xs ys, vs = [.ref a, .ref b] ∧ ((SqL K H1 a xs ∧ SqL K H1 b ys ∧ R (Itz K a b) H1) ∨ (SqT K H1 a xs ∧ SqT K H1 b ys ∧ R (RZ.ItzT K a b) H1))) : RZ.iZipA K ta σ H R := q
theorem r_iRng1 (q : ta σ H fun vs H1 => ∃ j : Int, vs = [.int j] ∧ -(2 ^ 62) ≤ j ∧ j < 2 ^ 62 ∧ R (Itr 0 j.toNat) H1) : iRng1 ta σ H R := q
theorem r_iKeys (q : td σ H fun x H1 => ∃ d o, x = .ref d ∧ ((∃ kvs, H1 d = some (.frz o (.dK kvs)) ∧ R (Itk d o kvs) H1) ∨ ∃ kvs, H1 d = some (.frz o (.dT kvs)) ∧ R (Itkt d o kvs) H1)) : iKeys td σ H R := q
theorem r_odds (q : te σ H fun x H1 => ∃ a xs, x = .ref a ∧ SqL K H1 a xs ∧ ∀ p, H1 p = none → Q (.ref p) (upd H1 p (.lst (oddsV xs)))) : tOdds K te σ H Q := q
theorem r_tupG {n : Nat} {tg : TGs} {v : V} {R : L2.St → Hp → Prop} (q : ∃ a xs, v = .ref a ∧ SqT K H a xs ∧ xs.length = n ∧ tg xs σ H R) : gTup K n tg v σ H R := q
theorem r_consG {t : TG} {u : TGs} {v : V} {r : List V} {R : L2.St → Hp → Prop} (q : t v σ H fun σ' H' => u r σ' H' R) : gCons t u (v :: r) σ H R := ⟨v, r, rfl, q⟩
theorem r_nilG {R : L2.St → Hp → Prop} (q : R σ H) : gNil [] σ H R := ⟨rfl, q⟩
theorem r_yes {R : Bool → Hp → Prop} (q : R true H) : tYes σ H R := q
end
theorem if_t {A B : Prop} (h : A) : if true = true then A else B := by rw [if_pos rfl]; exact h
theorem if_f {A B : Prop} (h : B) : if false = true then A else B := by rw [if_neg Bool.false_ne_true]; exact h
theorem walk_zipT {K : PySem.W.Frag} {a b : Addr} {xs ys : List V} {n : Nat} (hn : n = min xs.length ys.length) : Walk (RZ.ItzT K a b) n (fun H => SqT K H a xs ∧ SqT K H b ys) (YPair (fun i => xs[i]?) (fun i => ys[i]?)) := by
  subst hn
  refine ⟨fun i _ hi q => ?_, fun _ q => ⟨xs, ys, q.1, q.2, by omega⟩, fun i H v H' _ q y => ?_⟩
  · have h1 : i < xs.length := by omega
    have h2 : i < ys.length := by omega
    exact ⟨xs, ys, xs[i], ys[i], q.1, q.2, by simp [h1], by simp [h2]⟩
  · obtain ⟨T, x, z, h1, h2, h3, h4, h5⟩ := y
    exact ⟨T, x, z, h1, h2, h3, h4 xs q.1, h5 ys q.2⟩
theorem Same.tup {K : PySem.W.Frag} {H H' : Hp} {a : Addr} {xs : List V} (e : Same H H') (h : SqT K H a xs) : SqT K H' a xs := by
  rcases h with (h | ⟨o, h⟩) | h
  · exact .inl (.inl (e _ _ h))
  · exact .inl (.inr ⟨o, e _ _ h⟩)
  · exact .inr h
theorem SqT.of' {K : PySem.W.Frag} {H : Hp} {a : Addr} {xs : List V} (h : H a = some (.tup xs)) : SqT K H a xs := .inl (.inl h)
/-! ### isinstance -/
theorem kit_int_int : kitB "int" "int" = some true := by decide +kernel
theorem kit_int_bool : kitB "int" "bool" = some false := by decide +kernel
theorem kit_bool_int : kitB "bool" "int" = some true := by decide +kernel
theorem kit_bool_bool : kitB "bool" "bool" = some true := by decide +kernel
theorem kit_none_int : kitB "NoneType" "int" = some false := by decide +kernel
theorem kit_str_int : kitB "str" "int" = some false := by decide +kernel
theorem kit_list_int : kitB "list" "int" = some false := by decide +kernel
theorem kit_tuple_int : kitB "tuple" "int" = some false := by decide +kernel
theorem kit_list_list : kitB "list" "list" = some true := by decide +kernel
theorem kit_tuple_tuple : kitB "tuple" "tuple" = some true := by decide +kernel
theorem r_isi {K : PySem.W.Frag} {H : Hp} {Q : VK} {x : V} {a b : String} {r : Bool} (ty : TyX K H x (.type a)) (h : kitB a b = some r) (q : Q (.bl r) H) : rIsi K [x, .ty b] H Q :=
  ⟨x, .ty b, .type a, .type b, r, rfl, .ty b, ty, kit_ty h, q⟩
theorem r_isiI {K : PySem.W.Frag} {H : Hp} {Q : VK} {i : Int} (q : Q (.bl true) H) : rIsi K [.int i, .ty "int"] H Q := r_isi (.base (.int i)) kit_int_int q
theorem r_isiIb {K : PySem.W.Frag} {H : Hp} {Q : VK} {i : Int} (q : Q (.bl false) H) : rIsi K [.int i, .ty "bool"] H Q := r_isi (.base (.int i)) kit_int_bool q
theorem if_nf {A B : Prop} (h : A) : if (!false) = true then A else B := by rw [if_pos (by decide)]; exact h
theorem if_nt {A B : Prop} (h : B) : if (!true) = true then A else B := by rw [if_neg (by decide)]; exact h
theorem if_nd {p : Prop} [Decidable p] {A B : Prop} (h1 : ¬ p → A) (h2 : p → B) : if (!decide p) = true then A else B := by
  by_cases h : p
  · rw [if_neg (by simp [h])]; exact h2 h
  · rw [if_pos (by simp [h])]; exact h1 h
theorem walk_range0 {n : Nat} : Walk (Itr 0 n) n (fun _ => True) (fun i H x H' => H' = H ∧ x = .int (i : Int)) :=
  (walk_range (lo := 0) (n := n)).mono (fun _ h => h) fun i H x H' _ _ y => ⟨y.1, by
    have e : x = V.int (0 + (i : Int)) := y.2
    rw [Int.zero_add] at e
    exact e⟩
/-- a for, as for_it, in this file's words -/
theorem for_go {J : It} {n : Nat} {G : Hp → Prop} {Y : Nat → Hp → V → Hp → Prop} (w : Walk J n G Y) {g : TG} {tb : TS} {D : Ends} {σ : L2.St} {H : Hp} (Pv : Nat → L2.St → Hp → Prop) (h0 : Pv 0 σ H) (hG : ∀ i σ H, i ≤ n → Pv i σ H → G H)
    (hs : ∀ i x σ H H', i < n → Pv i σ H → Y i H x H' → g x σ H' fun σ2 H2 => tb { D with nx := Pv (i + 1), ct := Pv (i + 1), bk := D.nx } σ2 H2) (hd : ∀ σ H, Pv n σ H → D.nx σ H) : ForG J g tb D σ H := for_it w Pv h0 hG hs hd
section
variable {σ : L2.St} {H : Hp} {Q : VK} {K : PySem.W.Frag} {to : TE} {t : TA} {T : String} {r : V → List V → Hp → VK → Prop}
theorem r_bm (q : to σ H fun x H1 => tyV K T x H1 ∧ t σ H1 fun xs H2 => r x xs H2 Q) : tBM K T r to t σ H Q := q
theorem r_bm0 (q : to σ H fun x H1 => tyV K T x H1 ∧ r x [] H1 Q) : tBM0 K T r to σ H Q := q
theorem ty_lst {p : Addr} {xs : List V} (h : H p = some (.lst xs)) : tyV K "list" (.ref p) H := .inl ⟨rfl, _, SqL.of h⟩
end
theorem ixL {X : Cx} {K : PySem.W.Frag} (h : X.K = K) : IxR X (rIxL K) := by
  subst h
  exact ix_list
theorem ixT {X : Cx} {K : PySem.W.Frag} (h : X.K = K) : IxR X (rIxT K) := by
  subst h
  exact ix_tup
theorem r_par {i j : Nat} {ta : TA} {D : Ends} {σ : L2.St} {H : Hp} (q : ta σ H fun vs H1 => ∃ v w, vs = [v, w] ∧ D.nx ((σ.set i (some v)).set j (some w)) H1) : tPar i j ta D σ H := q
theorem r_two {R : V → V → Prop} {x y : V} (q : R x y) : ∃ v w, [x, y] = [v, w] ∧ R v w := ⟨x, y, rfl, q⟩
theorem r_retN {D : Ends} {σ : L2.St} {H : Hp} (q : D.rt .non H) : tRetN D σ H := q
theorem r_callS {sp : Sp} {E : L2.St → XK} {t : TA} {σ : L2.St} {H : Hp} {Q : VK} (q : t σ H fun vs H1 => sp vs H1 Q (E σ)) : tCallS sp E t σ H Q := q
theorem r_ckw {r : List V → List V → Hp → VK → Prop} {t tk : TA} {σ : L2.St} {H : Hp} {Q : VK} (q : t σ H fun vs H1 => tk σ H1 fun zs H2 => r vs zs H2 Q) : tCKw r t tk σ H Q := q
end RB

namespace RB
open PySem PySem.Spec PyProof.Rows L2
/-! ### data, for == and != -/
def dI (ns : List Int) : PyData := .list (ns.map PyData.int)
def dE (e : E) : PyData := .tuple [.int e.1, .int e.2.1, .int e.2.2]
def dEs (es : List E) : PyData := .list (es.map dE)
theorem lay_ints : ∀ ns : List Int, PyData.canLayAll0 (ns.map PyData.int) = true
  | [] => by simp [PyData.canLayAll0]
  | n :: t => by simp [PyData.canLayAll0, PyData.canLay0, lay_ints t]
theorem dep_ints : ∀ ns : List Int, PyData.depthAll (ns.map PyData.int) ≤ 1
  | [] => by simp [PyData.depthAll]
  | n :: t => by
    have := dep_ints t
    simp only [List.map_cons, PyData.depthAll, PyData.depth]
    omega
theorem lay_es : ∀ es : List E, PyData.canLayAll0 (es.map dE) = true
  | [] => by simp [PyData.canLayAll0]
  | n :: t => by simp [PyData.canLayAll0, PyData.canLay0, dE, lay_es t]
theorem dep_es : ∀ es : List E, PyData.depthAll (es.map dE) ≤ 2
  | [] => by simp [PyData.depthAll]
  | n :: t => by
    have := dep_es t
    simp only [List.map_cons, PyData.depthAll, dE, PyData.depth]
    omega
theorem shp {d : PyData} (h1 : d.canLay0 = true) (h2 : d.depth ≤ 64) : SeqAt.shaped d = true := by
  unfold SeqAt.shaped
  rw [h1, decide_eq_true h2]
  rfl
theorem lay_dI (ns : List Int) : (dI ns).canLay0 = true := by
  unfold dI
  simp only [PyData.canLay0]
  exact lay_ints ns
theorem lay_dEs (es : List E) : (dEs es).canLay0 = true := by
  unfold dEs
  simp only [PyData.canLay0]
  exact lay_es es
theorem dep_dI (ns : List Int) : (dI ns).depth ≤ 3 := by
  have := dep_ints ns
  unfold dI
  simp only [PyData.depth]
  omega
theorem dep_dEs (es : List E) : (dEs es).depth ≤ 4 := by
  have := dep_es es
  unfold dEs
  simp only [PyData.depth]
  omega
theorem shp_dI (ns : List Int) : SeqAt.shaped (dI ns) = true := shp (lay_dI ns) (by have := dep_dI ns; omega)
theorem shp_dEs (es : List E) : SeqAt.shaped (dEs es) = true := shp (lay_dEs es) (by have := dep_dEs es; omega)
theorem dpa_ints {K : PySem.W.Frag} {H : Hp} : ∀ ns : List Int, DpAll K H (ns.map V.int) (ns.map PyData.int)
  | [] => .nil
  | n :: t => .cons (.int n) (dpa_ints t)
theorem dp_ints {K : PySem.W.Frag} {H : Hp} {a : Addr} {ns : List Int} (h : SqL K H a (ns.map V.int)) : Dp K H (.ref a) (dI ns) := .lst h (dpa_ints ns)
theorem dpa_es {K : PySem.W.Frag} {H : Hp} : ∀ (es : List E) (xs : List V), EntsV H xs es → DpAll K H xs (es.map dE)
  | [], [], _ => .nil
  | [], x :: xs, h => by have := h.1; simp at this
  | e :: es, [], h => by have := h.1; simp at this
  | e :: es, x :: xs, h => by
    obtain ⟨t, h1, h2⟩ := h.2 0 e rfl
    have hx : x = .ref t := by simpa using h1
    subst hx
    refine .cons (.tup (SqT.of' h2) (.cons (.int _) (.cons (.int _) (.cons (.int _) .nil)))) (dpa_es es xs ⟨by have := h.1; simpa using this, fun i e' he => ?_⟩)
    exact h.2 (i + 1) e' (by simpa using he)
theorem dp_es {K : PySem.W.Frag} {H : Hp} {a : Addr} {es : List E} (h : Ents H a es) : Dp K H (.ref a) (dEs es) := by
  obtain ⟨xs, h1, h2⟩ := h
  exact .lst (SqL.of h1) (dpa_es es xs h2)
/-! ### every second of the places -/
theorem pickN_odd : ∀ n : Nat, pickN n (fun i => decide (i % 2 = 1)) = (List.range (n / 2)).map fun k => 2 * k + 1
  | 0 => rfl
  | n + 1 => by
    have ih := pickN_odd n
    by_cases h : n % 2 = 1
    · rw [pickN_succ_yes (by simpa using h), ih, show (n + 1) / 2 = n / 2 + 1 by omega, List.range_succ, List.map_append]
      congr 1
      show [n] = [2 * (n / 2) + 1]
      congr 1
      omega
    · rw [pickN_succ_no (by simpa using h), ih, show (n + 1) / 2 = n / 2 by omega]
theorem halved_pick (es : List E) : (pickN es.length (fun i => decide (i % 2 = 1))).map (fun i => es.getD i (0, 0, 0)) = halvedM es := by
  rw [pickN_odd, List.map_map]
  apply List.ext_getElem?
  intro i
  rw [← oddsV_halved, oddsV_get, List.getElem?_map]
  by_cases h : i < es.length / 2
  · rw [List.getElem?_range h]
    simp only [Option.map_some, Function.comp]
    rw [List.getD_eq_getElem?_getD, List.getElem?_eq_getElem (by omega : 2 * i + 1 < es.length)]
    rfl
  · rw [List.getElem?_eq_none (by simp; omega), List.getElem?_eq_none (by omega)]
    rfl
/-! ### a row put in order one by one -/
/-- the first place whose item is greater -/
def spotM (l : List Int) (r : Int) : Nat := l.countP fun x => decide (x ≤ r)
theorem insert_sorted {l : List Int} {r : Int} {k : Nat} (hs : l.Pairwise (· ≤ ·)) (h1 : ∀ x ∈ l.take k, x ≤ r) (h2 : ∀ x ∈ l.drop k, r ≤ x) : (l.take k ++ [r] ++ l.drop k).Pairwise (· ≤ ·) := by
  rw [List.append_assoc]
  refine List.pairwise_append.mpr ⟨hs.sublist (List.take_sublist k l), ?_, fun a ha b hb => ?_⟩
  · rw [List.singleton_append]
    exact List.pairwise_cons.mpr ⟨h2, hs.sublist (List.drop_sublist k l)⟩
  · rw [List.singleton_append] at hb
    rcases List.mem_cons.mp hb with e | e
    · rw [e]; exact h1 a ha
    · rw [← List.take_append_drop k l] at hs
      exact (List.pairwise_append.mp hs).2.2 a ha b e
theorem insert_perm (l : List Int) (r : Int) (k : Nat) : (l.take k ++ [r] ++ l.drop k).Perm (r :: l) := by
  have h : (l.take k ++ [r] ++ l.drop k).Perm (r :: (l.take k ++ l.drop k)) := by
    rw [List.append_assoc, List.singleton_append]
    exact List.perm_middle
  rw [List.take_append_drop] at h
  exact h
/-! ### the cells of a script -/
def cellM (ns : List Int) (k : Int) : Int := ns.getD k.toNat 0
def mixM (c k : Int) : Int := (c + 7919 * k) * 48271 % 2147483647 * ((c + 7919 * k) * 48271 % 2147483647 + 2 * k + 1) % 2147483629
theorem mixM_lo (c k : Int) : 0 ≤ mixM c k := Int.emod_nonneg _ (by decide)
theorem mixM_hi (c k : Int) : mixM c k < 2147483629 := Int.emod_lt_of_pos _ (by decide)
def readM (c : Int) : Int :=
  if mixM c 1 % 3 = 0 then mixM c 1 / 3 % 9 - 4 else if mixM c 1 % 3 = 1 then mixM c 1 / 3 % 2001 - 1000
  else if mixM c 1 / 3 % 9 = 1 then (if mixM c 1 / 27 % 2 = 0 then 10 ^ 18 else -(10 ^ 18)) else mixM c 1 * mixM c 1 % (2 * 10 ^ 18 + 1) - 10 ^ 18
theorem readM_in (c : Int) : -(10 ^ 18) ≤ readM c ∧ readM c ≤ 10 ^ 18 := by
  have h0 := mixM_lo c 1
  have h1 := mixM_hi c 1
  unfold readM
  generalize mixM c 1 = n at *
  have h2 : 0 ≤ n * n % (2 * 10 ^ 18 + 1) := Int.emod_nonneg _ (by decide)
  have h3 : n * n % (2 * 10 ^ 18 + 1) < 2 * 10 ^ 18 + 1 := Int.emod_lt_of_pos _ (by decide)
  split
  · omega
  split
  · omega
  split
  · split <;> omega
  · omega
end RB

namespace RB
open PySem PySem.Spec PyProof.Rows L2
/-! ### sorted(xs, key=f), f a def of the text whose body is «return x[0]» -/
/-- the body of such a def -/
def IsFirst (x : Str) (body : List Stmt) : Prop := ∃ (p1 p2 p3 p4 : Pos) (j : Nat), body = [.Return (some (.Subscript (.Name x p1) (.Constant (.int 0) j p2) p3)) p4]
section
variable {P : Program} {w : World} {K : PySem.W.Frag} {A : Around} {s : Shared} {f a : Addr} {fd : FuncData} {st : Stmt} {nm x : Str} {its : List Value} {n : Int} {t : Tok}
theorem first_run (F : Fun K nm nm st f fd) (S : FnScope [x] [x] (defScope st)) (hB : IsFirst x (defBody st)) (b : Binds K fd [x] []) (KX : K.In s.heap) (lim : s.heap.NoLimit) (hd : A.depth < recursionLimit) (ht : IsTup s.heap a its.toArray) (h0 : its[0]? = some (.int n t))
    (hl : (defScope st).names.lookup x = some .local) (hdb : (x == ("__debug__" : Str)) = false) :
    wpAny (model P w) A (call (.ref f) [.ref a]) (PySem.W.KeyPure (.int n) s) (fun _ _ => False) s := by
  obtain ⟨oc, od, kV, doc, pm, an, cdv, ct, osl, rfl, lk, hcd⟩ := F.ex
  obtain ⟨p1, p2, p3, p4, j, eB⟩ := hB
  have hb := b s [.ref a] KX rfl
  refine wpAny_call (codeAny_call_function hd (KX _ _ lk) rfl S.co S.gen rfl (PySem.W.codeRec_of KX hcd) (hb _ _ _ _ ?_))
  refine wpAny_newFunctionEnv_cells S.kind (fun y hy => .inl ?_) fun env he s1 x1 => ?_
  · have e : y = (x, Value.ref a) := by simpa using hy
    rw [e]
    exact hl
  subst he
  refine ⟨lim.keeps x1.toInCall.keep, codeAny_func ?_⟩
  rw [eB]
  obtain ⟨h1, tk, rfl, hk⟩ := x1.done
  refine wpAny_execs_cons (wpAny_Return_some (Subscript_ (wpAny_Name ?_ hdb)))
  refine wpAny_loadName_local S.kind hl x1.toInCall.ns (v := Value.ref a) ?_ ?_
  · show bindL _ [(x, Value.ref a)] (fun _ => none) x = some (Value.ref a)
    exact bindL_get (P := [x]) (vs := [Value.ref a]) (i := 0) (List.nodup_cons.mpr ⟨by simp, List.nodup_nil⟩) rfl rfl (show _ = some NameKind.local from hl)
  refine wpAny_Constant_int ?_
  have ht1 : IsTup h1 a its.toArray := by
    obtain ⟨o, ho, hr⟩ := ht
    exact ⟨o, hk _ _ ho, hr⟩
  refine subscriptTail_builtinR (x := .int n t) ht1.typeIs slot_tuple_getitem.lookup (getItem_tuple (j := 0) ht1 (by decide) (by decide) ?_ (by simpa using h0) ⟨rfl, ?_⟩) (by rfl)
  · have hp : 0 < its.length := (List.getElem?_eq_some_iff.mp h0).1
    unfold seqIndex?
    simp [hp]
  · exact ⟨h1, tk + 1, rfl, hk, Reads.int n t⟩
end

theorem EntsV.pairs {H : Hp} : ∀ {es : List E} {xs : List V}, EntsV H xs es → ∃ bs : List (Addr × E), xs = bs.map (fun b => V.ref b.1) ∧ es = bs.map (·.2) ∧ ∀ b ∈ bs, H b.1 = some (tri b.2)
  | [], [], _ => ⟨[], rfl, rfl, by simp⟩
  | [], x :: xs, h => by have := h.1; simp at this
  | e :: es, [], h => by have := h.1; simp at this
  | e :: es, x :: xs, h => by
    obtain ⟨t, h1, h2⟩ := h.2 0 e rfl
    have hx : x = .ref t := by simpa using h1
    subst hx
    obtain ⟨bs, e1, e2, e3⟩ := EntsV.pairs (es := es) (xs := xs) ⟨by have := h.1; simpa using this, fun i e' he => h.2 (i + 1) e' (by simpa using he)⟩
    refine ⟨(t, e) :: bs, by rw [e1]; rfl, by rw [e2]; rfl, fun b hb => ?_⟩
    rcases List.mem_cons.mp hb with q | q
    · rw [q]; exact h2
    · exact e3 b q
theorem EntsV.ofPairs {H : Hp} {bs : List (Addr × E)} (h : ∀ b ∈ bs, H b.1 = some (tri b.2)) : EntsV H (bs.map fun b => V.ref b.1) (bs.map (·.2)) := by
  refine ⟨by rw [List.length_map, List.length_map], fun i e he => ?_⟩
  rw [List.getElem?_map] at he
  cases hb : bs[i]? with
  | none => rw [hb] at he; cases he
  | some b =>
    rw [hb] at he
    have e1 : b.2 = e := Option.some.inj he
    refine ⟨b.1, by rw [List.getElem?_map, hb]; rfl, ?_⟩
    rw [← e1]
    exact h b (List.mem_of_getElem? hb)
theorem each_refs : ∀ {bs : List (Addr × E)} {us : List Value}, Vals (bs.map fun b => V.ref b.1) us → PySem.W.EachIs (fun (v : Value) (b : Addr × E) => v = Value.ref b.1) us bs
  | [], _, .nil => .nil
  | _ :: bs, _, .cons r t => .cons r (each_refs t)
theorem refs_each : ∀ {bs : List (Addr × E)} {us : List Value}, PySem.W.EachIs (fun (v : Value) (b : Addr × E) => v = Value.ref b.1) us bs → Vals (bs.map fun b => V.ref b.1) us
  | [], _, .nil => .nil
  | _ :: bs, _, .cons r t => .cons r (refs_each t)
theorem sort_snd (bs : List (Addr × E)) : (bs.mergeSort (fun a b => decide (a.2.1 ≤ b.2.1))).map (·.2) = (bs.map (·.2)).mergeSort keyLe :=
  List.map_mergeSort fun a _ b _ => rfl
def rSortedBy (f : Addr) : List V → List V → Hp → VK → Prop := fun vs zs H Q => ∃ (a : Addr) (xs : List V) (es : List E), vs = [.ref a] ∧ zs = [.ref f] ∧ H a = some (.lst xs) ∧ EntsV H xs es ∧ es.length ≤ 1000000 ∧
  ∀ (p : Addr) (ys : List V), H p = none → EntsV H ys (es.mergeSort keyLe) → Q (.ref p) (upd H p (.lst ys))
theorem cr_sortedBy {X : Cx} {f : Addr} {fd : FuncData} {st : Stmt} {nm x : Str} (F : Fun X.K nm nm st f fd) (S : FnScope [x] [x] (defScope st)) (hB : IsFirst x (defBody st)) (b : Binds X.K fd [x] []) (hr : Room 2 X.A)
    (hl : (defScope st).names.lookup x = some .local) (hdb : (x == ("__debug__" : Str)) = false) : CallRK X (.builtin "sorted") [Str.ofString "key"] (rSortedBy f) := by
  intro pins s σ H vs zs us ws Q I r rz h
  obtain ⟨a, xs, es, rfl, rfl, ha, hx, hz, q⟩ := h
  obtain rfl := Vals.ref1 r
  obtain ⟨w1, rfl, e1⟩ := vals1 rz
  obtain rfl : w1 = Value.ref f := e1
  obtain ⟨bs, rfl, rfl, hb⟩ := hx.pairs
  obtain ⟨hsz, its, n, rv, hl2⟩ := (show ObjOk X.prog X.w H s.heap a (.lst _) from I.hok a _ ha)
  have hlen : bs.length ≤ 1000000 := by simpa using hz
  have hr1 : Room 0 X.A.in1.in1 := hr.in1.in1
  refine PySem.W.sorted_key_data (b := false) (l := a) (vs := its) (bs := bs) (R := fun v b => v = Value.ref b.1) (fun b => .int b.2.1) ⟨_, hl2, rfl, _, rfl⟩ (each_refs rv) (PySem.W.AllAlike.of fun _ _ => by simp [PySem.W.alike]) (PySem.W.Sortable.others fun b => ⟨by simp, by simp⟩)
    (by rw [sizeLine_eq]; omega) (fun b _ => by have := hr.un; simp only [PyData.depth]; omega) (PyProof.Rows.ksk_s1 _ _) (fun _ => PyProof.Rows.ksk_l1 _ _) (fun _ => PyProof.Rows.ksk_t1 _ _)
    (fun v b hv hm h tk kp => ?_) (fun out c h' tk kp fresh hD hlo eo => ?_)
  · subst hv
    have hT := hb b hm
    obtain ⟨_, ts, rt, o, ho, hc, m, hd⟩ := (show ObjOk X.prog X.w H s.heap b.1 (.tup _) from I.hok _ _ hT)
    cases rt with
    | cons r1 rt =>
      obtain ⟨t1, rfl⟩ := r1
      exact first_run F S hB ‹Binds X.K fd [x] []› (I.kIn.keeps kp) (I.nolimit.keeps kp) hr1.depth ⟨o, kp _ _ ho, hc, m, hd⟩ rfl hl hdb
  · rw [PySem.W.dataLe_int (fun b : Addr × E => b.2.1)] at eo
    have hmem : ∀ b ∈ bs.mergeSort (fun a b => decide (a.2.1 ≤ b.2.1)), H b.1 = some (tri b.2) := fun b hm => hb b ((List.mergeSort_perm _ _).mem_iff.mp hm)
    have hE := EntsV.ofPairs hmem
    rw [sort_snd] at hE
    refine ⟨.ref (s.heap.objs.size + 1), upd H (s.heap.objs.size + 1) (.lst ((bs.mergeSort (fun a b => decide (a.2.1 ≤ b.2.1))).map fun b => V.ref b.1)), I.laid (t' := tk) kp (Nat.le_succ _) ⟨?_, out, c, refs_each eo, hD⟩, rfl, q _ _ (I.hok.fresh (Nat.le_succ _)) hE⟩
    rw [List.length_map, List.length_mergeSort, sizeLine_eq]
    omega
end RB

namespace RB
open PySem PySem.Spec PyProof.Rows L2
/-! ### which places a test picks -/
theorem pickN_congr {n : Nat} {t u : Nat → Bool} (h : ∀ i, i < n → t i = u i) : pickN n t = pickN n u := by
  unfold pickN
  exact List.filter_congr fun i hi => h i (List.mem_range.mp hi)
theorem pickN_lt {n u : Nat} (hu : u ≤ n) : pickN n (fun i => decide (i < u)) = List.range u := by
  induction n with
  | zero =>
    have e : u = 0 := by omega
    subst e
    rfl
  | succ n ih =>
    by_cases h : u ≤ n
    · rw [pickN_succ_no (by simpa using h), ih h]
    · have e : u = n + 1 := by omega
      subst e
      rw [pickN_congr (u := fun _ => true) (fun i hi => by simpa using hi), pickN_all]
theorem pickN_ge {n u : Nat} (hu : u ≤ n) : pickN n (fun i => decide (u ≤ i)) = List.range' u (n - u) := by
  induction n with
  | zero =>
    have e : u = 0 := by omega
    subst e
    rfl
  | succ n ih =>
    by_cases h : u ≤ n
    · rw [pickN_succ_yes (by simpa using h), ih h, show n + 1 - u = (n - u) + 1 by omega, List.range'_concat]
      congr 2
      omega
    · have e : u = n + 1 := by omega
      subst e
      rw [pickN_succ_no (by simp), pickN_congr (u := fun _ => false) (fun i hi => by simp; omega)]
      unfold pickN
      simp
theorem pickN_count {α : Type} (p : α → Bool) (d : α) : ∀ l : List α, (pickN l.length (fun i => p (l.getD i d))).length = l.countP p := by
  intro l
  have key : ∀ n, n ≤ l.length → (pickN n (fun i => p (l.getD i d))).length = (l.take n).countP p := by
    intro n
    induction n with
    | zero => intro _; simp [pickN]
    | succ n ih =>
      intro hn
      have hlt : n < l.length := by omega
      have e : l.getD n d = l[n] := by rw [List.getD_eq_getElem?_getD, List.getElem?_eq_getElem hlt]; rfl
      rw [List.take_succ_eq_append_getElem hlt, List.countP_append, ← ih (by omega)]
      cases hp : p (l.getD n d) with
      | true =>
        rw [pickN_succ_yes hp, List.length_append, List.countP_cons_of_pos (by rw [← e]; exact hp)]
        rfl
      | false =>
        rw [pickN_succ_no hp, List.countP_cons_of_neg (by rw [← e, hp]; decide)]
        rfl
  have h := key l.length (Nat.le_refl _)
  rw [List.take_length] at h
  exact h
theorem upTo_pick (es : List E) (r : Int) : (pickN es.length (fun i => decide ((es.getD i (0, 0, 0)).1 ≤ r))).length = upTo es r :=
  pickN_count (fun e : E => decide (e.1 ≤ r)) (0, 0, 0) es
/-! ### one entry put in its place -/
def insE (l : List E) (y : E) : List E := l.take (upTo l y.1) ++ [y] ++ l.drop (upTo l y.1)
theorem insE_length (l : List E) (y : E) : (insE l y).length = l.length + 1 := by
  unfold insE
  have := upTo_le l y.1
  simp
  omega
theorem insE_sorted {l : List E} (hs : Srtd l) (y : E) : Srtd (insE l y) := by
  obtain ⟨h1, h2⟩ := upTo_cut hs y.1
  unfold insE
  rw [List.append_assoc]
  refine List.pairwise_append.mpr ⟨hs.sublist (List.take_sublist _ l), ?_, fun a ha b hb => ?_⟩
  · rw [List.singleton_append]
    exact List.pairwise_cons.mpr ⟨fun b hb => by have := h2 b hb; omega, hs.sublist (List.drop_sublist _ l)⟩
  · rw [List.singleton_append] at hb
    rcases List.mem_cons.mp hb with e | e
    · rw [e]; exact h1 a ha
    · have := h1 a ha
      have := h2 b e
      omega
theorem insE_filter {l : List E} (hs : Srtd l) (y : E) (z : Int) : (insE l y).filter (fun e => decide (e.1 = z)) = l.filter (fun e => decide (e.1 = z)) ++ [y].filter (fun e => decide (e.1 = z)) := by
  obtain ⟨h1, h2⟩ := upTo_cut hs y.1
  have hl : l.filter (fun e => decide (e.1 = z)) = (l.take (upTo l y.1)).filter (fun e => decide (e.1 = z)) ++ (l.drop (upTo l y.1)).filter (fun e => decide (e.1 = z)) := by
    rw [← List.filter_append, List.take_append_drop]
  unfold insE
  rw [List.filter_append, List.filter_append, hl]
  by_cases c : y.1 = z
  · have hd : (l.drop (upTo l y.1)).filter (fun e => decide (e.1 = z)) = [] := by
      rw [List.filter_eq_nil_iff]
      intro e he
      have := h2 e he
      simp only [decide_eq_true_eq]
      omega
    rw [hd, List.append_nil, List.append_nil]
  · have hn : [y].filter (fun e => decide (e.1 = z)) = [] := by
      rw [List.filter_cons_of_neg (by simpa using c)]
      rfl
    rw [hn, List.append_nil, List.append_nil]
theorem insE_fold : ∀ (ys l : List E), Srtd l → Srtd (ys.foldl insE l) ∧ ∀ z : Int, (ys.foldl insE l).filter (fun e => decide (e.1 = z)) = (l ++ ys).filter (fun e => decide (e.1 = z))
  | [], l, h => ⟨h, fun z => by simp⟩
  | y :: ys, l, h => by
    obtain ⟨h1, h2⟩ := insE_fold ys (insE l y) (insE_sorted h y)
    refine ⟨h1, fun z => ?_⟩
    rw [List.foldl_cons, h2 z, List.filter_append, insE_filter h y z, ← List.filter_append, ← List.filter_append]
    simp
theorem due_join {a b : List E} {many more : Int} (ha : Srtd a) : (movedM b a many).foldl insE (movedM a b more) = joinM a many b more := by
  obtain ⟨h1, h2⟩ := insE_fold (movedM b a many) (movedM a b more) (moved_sorted ha)
  exact stable_one h1 (joinM_sorted _ _ _ _) fun z => by rw [h2 z]; exact (keyStable _ z).symm
/-! ### some of a row's entries, their bounds wider -/
def someE (c : Int) : Nat → List Int → List E
  | _, [] => []
  | k, r :: t => if 0 < mixM c k % 3 then (r, (k : Int) - mixM c k / 3 % 4, (k : Int) + mixM c k / 12 % 4) :: someE c (k + 1) t else someE c (k + 1) t
theorem someE_append (c : Int) : ∀ (l m : List Int) (k : Nat), someE c k (l ++ m) = someE c k l ++ someE c (k + l.length) m
  | [], m, k => by simp [someE]
  | r :: l, m, k => by
    have ih := someE_append c l m (k + 1)
    rw [show k + 1 + l.length = k + (r :: l).length by simp; omega] at ih
    simp only [List.cons_append, someE]
    split
    · rw [ih]; rfl
    · exact ih
theorem someE_mem (c : Int) : ∀ (l : List Int) (k : Nat) (e : E), e ∈ someE c k l → ∃ i, l[i]? = some e.1 ∧ e.2.1 ≤ ((k + i : Nat) : Int) ∧ ((k + i : Nat) : Int) ≤ e.2.2
  | [], k, e, h => by simp [someE] at h
  | r :: l, k, e, h => by
    have go : e ∈ someE c (k + 1) l → ∃ i, (r :: l)[i]? = some e.1 ∧ e.2.1 ≤ ((k + i : Nat) : Int) ∧ ((k + i : Nat) : Int) ≤ e.2.2 := fun q => by
      obtain ⟨i, h1, h2, h3⟩ := someE_mem c l (k + 1) e q
      exact ⟨i + 1, by simpa using h1, by rw [show k + (i + 1) = k + 1 + i by omega]; exact h2, by rw [show k + (i + 1) = k + 1 + i by omega]; exact h3⟩
    simp only [someE] at h
    split at h
    · rcases List.mem_cons.mp h with q | q
      · subst q
        exact ⟨0, rfl, by show (k : Int) - _ ≤ ((k + 0 : Nat) : Int); omega, by show ((k + 0 : Nat) : Int) ≤ (k : Int) + _; omega⟩
      · exact go q
    · exact go h
theorem someE_keys (c : Int) : ∀ (l : List Int) (k : Nat), ((someE c k l).map (·.1)).Sublist l
  | [], k => by simp [someE]
  | r :: l, k => by
    simp only [someE]
    split
    · exact (someE_keys c l (k + 1)).cons_cons r
    · exact (someE_keys c l (k + 1)).cons r
theorem someE_sorted {c : Int} {l : List Int} (h : l.Pairwise (· ≤ ·)) (k : Nat) : Srtd (someE c k l) := by
  have := h.sublist (someE_keys c l k)
  rw [List.pairwise_map] at this
  exact this
theorem someE_length (c : Int) (l : List Int) (k : Nat) : (someE c k l).length ≤ l.length := by
  have := (someE_keys c l k).length_le
  rwa [List.length_map] at this
theorem someE_tru {c : Int} {l : List Int} (h : l.Pairwise (· ≤ ·)) : ∀ e ∈ someE c 0 l, Tru (rowOf l) e := by
  intro e he
  obtain ⟨i, h1, h2, h3⟩ := someE_mem c l 0 e he
  have ht : Tru (rowOf l) (e.1, ((0 + i : Nat) : Int), ((0 + i : Nat) : Int)) := by
    refine enumE_tru [] l (by simpa using h) _ (List.mem_of_getElem? (i := i) ?_)
    rw [List.length_nil, enumE_get, h1]
    rfl
  have t1 := ht.least
  have t2 := ht.most
  simp only at t1 t2
  exact ⟨ht.here, by omega, by omega⟩

theorem atI_back {xs : List V} {v : V} (h : xs[xs.length - 1]? = some v) : atI xs (-1) = some v := by
  have h0 : 0 < xs.length := by
    have := (List.getElem?_eq_some_iff.mp h).1
    omega
  unfold atI ixN
  rw [if_neg (by omega), if_pos (by omega)]
  show xs[((-1 : Int) + (xs.length : Int)).toNat]? = some v
  rw [show ((-1 : Int) + (xs.length : Int)).toNat = xs.length - 1 by omega]
  exact h
theorem vals_at {H : Hp} {xs : List V} {es : List E} (hx : EntsV H xs es) {i : Nat} (hi : i < es.length) : ∃ t, xs.getD i .non = .ref t ∧ H t = some (tri es[i]) := by
  obtain ⟨t, h1, h2⟩ := hx.2 i es[i] (List.getElem?_eq_getElem hi)
  exact ⟨t, by rw [List.getD_eq_getElem?_getD, h1]; rfl, h2⟩

theorem EntsV.ins {H : Hp} {xs : List V} {es : List E} (h : EntsV H xs es) {t : Addr} {e : E} (ht : H t = some (tri e)) {k : Nat} (hk : k ≤ es.length) : EntsV H (xs.take k ++ [.ref t] ++ xs.drop k) (es.take k ++ [e] ++ es.drop k) := by
  have hl := h.1
  refine ⟨by simp; omega, fun i e' he => ?_⟩
  rw [List.append_assoc, List.singleton_append] at he ⊢
  have l1 : (es.take k).length = k := by rw [List.length_take]; omega
  have l2 : (xs.take k).length = k := by rw [List.length_take]; omega
  by_cases c : i < k
  · rw [List.getElem?_append_left (by omega), List.getElem?_take, if_pos c] at he
    obtain ⟨u, u1, u2⟩ := h.2 i e' he
    exact ⟨u, by rw [List.getElem?_append_left (by omega), List.getElem?_take, if_pos c]; exact u1, u2⟩
  · rw [List.getElem?_append_right (by omega), l1] at he
    obtain ⟨j, ej⟩ : ∃ j, i - k = j := ⟨_, rfl⟩
    rw [ej] at he
    cases j with
    | zero =>
      have e0 : e = e' := by simpa using he
      subst e0
      exact ⟨t, by rw [List.getElem?_append_right (by omega), l2, ej]; rfl, ht⟩
    | succ j =>
      rw [List.getElem?_cons_succ, List.getElem?_drop] at he
      obtain ⟨u, u1, u2⟩ := h.2 _ e' he
      exact ⟨u, by rw [List.getElem?_append_right (by omega), l2, ej, List.getElem?_cons_succ, List.getElem?_drop]; exact u1, u2⟩

theorem tru_join {R S : Row} {A B : List E} (hR : R.Ok) (hS : S.Ok) (sA : Srtd A) (sB : Srtd B) (tA : ∀ e ∈ A, Tru R e) (tB : ∀ e ∈ B, Tru S e) : ∀ e ∈ joinM A R.n B S.n, Tru (R.add S) e := by
  intro e he
  unfold joinM at he
  rcases List.mem_append.mp ((List.mergeSort_perm _ _).mem_iff.mp he) with h | h
  · obtain ⟨x, hx, rfl⟩ := List.mem_map.mp h
    exact (tA x hx).moved hS sB tB
  · obtain ⟨x, hx, rfl⟩ := List.mem_map.mp h
    rw [Row.add_comm]
    exact (tB x hx).moved hR sA tA
theorem rowOf_le (l : List Int) (r : Int) : (rowOf l).lt (r + 1) = (l.countP fun x => decide (x ≤ r) : Nat) := by
  rw [rowOf_lt]
  congr 1
  apply List.countP_congr
  intro x _
  simp only [decide_eq_true_eq]
  omega
theorem dp_pair {K : PySem.W.Frag} {H : Hp} {a b c : Addr} {es os : List E} (h : H a = some (.lst [.ref b, .ref c])) (h1 : Ents H b es) (h2 : Ents H c os) : Dp K H (.ref a) (.list [dEs es, dEs os]) := .lst (SqL.of h) (.cons (dp_es h1) (.cons (dp_es h2) .nil))
theorem lay_pair (es os : List E) : (PyData.list [dEs es, dEs os]).canLay0 = true := by
  simp only [PyData.canLay0, PyData.canLayAll0, lay_dEs, Bool.and_self]
theorem shp_pair (es os : List E) : SeqAt.shaped (.list [dEs es, dEs os]) = true := by
  refine shp (lay_pair es os) ?_
  have h1 := dep_dEs es
  have h2 := dep_dEs os
  simp only [PyData.depth, PyData.depthAll]
  omega
end RB

local macro_rules | `(tactic| walk_at "rd") => `(tactic| (repeat (first
  | ((with_reducible show L2.tVar _ _ _ _); refine RB.r_var rfl ?_)
  | with_reducible refine RB.r_c ?_
  | with_reducible refine RB.r_op ?_
  | with_reducible refine RB.r_un ?_
  | with_reducible refine RB.r_I0 ?_
  | with_reducible refine RB.r_U ?_
  | with_reducible refine RB.r_eqI ?_
  | with_reducible refine RB.r_neI ?_
  | ((with_reducible refine RB.r_I ?_ ?_); focus (first | (show (0 : Int) < _; decide) | (apply RB.mulL; decide) | (apply RB.mulR; decide) | (refine ⟨?_, ?_⟩ <;> decide) | (refine ⟨?_, ?_, ?_⟩ <;> decide) | (apply RB.mulL; omega) | (apply RB.mulR; omega)))
  | with_reducible refine RB.r_test ?_
  | with_reducible refine RB.r_B ?_
  | with_reducible refine RB.r_bl ?_
  | with_reducible refine RB.r_seq ?_
  | with_reducible refine RB.r_asg ?_
  | with_reducible refine RB.r_name ?_
  | with_reducible refine RB.r_ret ?_
  | with_reducible refine RB.r_drop ?_
  | with_reducible refine RB.r_next ?_
  | with_reducible refine RB.r_ifS ?_
  | with_reducible refine RB.r_and ?_
  | with_reducible refine RB.r_or ?_
  | with_reducible refine RB.r_not ?_
  | with_reducible refine RB.r_notV ?_
  | with_reducible refine RB.r_andV ?_
  | with_reducible refine RB.r_orV ?_
  | with_reducible refine RB.r_cb ?_
  | with_reducible refine RB.r_call ?_
  | with_reducible refine RB.r_nil ?_
  | with_reducible refine RB.r_cons ?_
  | with_reducible refine RB.r_lst ?_
  | with_reducible refine RB.r_tup ?_
  | with_reducible refine RB.r_lc ?_
  | with_reducible refine RB.r_for ?_
  | with_reducible refine RB.r_iList ?_
  | with_reducible refine RB.r_iTup ?_
  | with_reducible refine RB.r_iEnum ?_
  | with_reducible refine RB.r_iZip ?_
  | with_reducible refine RB.r_iZipA ?_
  | with_reducible refine RB.r_iRng1 ?_
  | with_reducible refine RB.r_iKeys ?_
  | with_reducible refine RB.r_odds ?_
  | with_reducible refine RB.r_tupG ?_
  | with_reducible refine RB.r_consG ?_
  | with_reducible refine RB.r_nilG ?_
  | with_reducible refine RB.r_yes ?_
  | with_reducible refine RB.r_bm ?_
  | with_reducible refine RB.r_bm0 ?_
  | with_reducible refine RB.r_par ?_
  | with_reducible refine RB.r_two ?_
  | with_reducible refine RB.r_retN ?_
  | with_reducible refine RB.r_callS ?_
  | with_reducible refine RB.r_ckw ?_
  | with_reducible refine RB.if_t ?_
  | with_reducible refine RB.if_nf ?_
  | with_reducible refine RB.if_nt ?_
  | with_reducible refine RB.r_isiI ?_
  | with_reducible refine RB.r_isiIb ?_
  | with_reducible refine RB.if_f ?_)); try dsimp only)
local macro_rules | `(tactic| walk_at "ifd") => `(tactic| (with_reducible apply RB.if_d))
local macro_rules | `(tactic| walk_at "ifb") => `(tactic| (with_reducible apply RB.if_b))
local macro_rules | `(tactic| walk_at "ifn") => `(tactic| (with_reducible apply RB.if_nd))

namespace RB
open PySem PySem.Spec PyProof.Rows L2
/-! ### the text by places -/
def top (i : Nat) : Stmt := PySem.Challenge.pw_rankbounds_k02_entries_joined.main.body.getD i (.Pass ⟨0, 0, 0, 0⟩)
end RB

namespace RB
open PySem PySem.Spec PyProof.Rows L2
/-- a def that can be called by its name -/
structure Cal (P : Program) (w : World) (K : PySem.W.Frag) (mg : Str → Option Value) (base : Heap) (CX : CXT) (k : Nat) (x : Str) (ps : List Str) (sp : Sp) : Prop where
  ex : ∃ (f : Addr) (fd : FuncData), FnOk P w K mg base CX k f fd ps sp ∧ mg x = some (.ref f) ∧ PySem.W.keepIn K (.ref f) = true ∧ Binds K fd ps []
/-- a def of the text as the top has left it -/
structure DefAt (K : PySem.W.Frag) (mg : Str → Option Value) (x : Str) (st : Stmt) (ps : List Str) : Prop where
  ex : ∃ (f : Addr) (fd : FuncData), Fun K x x st f fd ∧ mg x = some (.ref f) ∧ Binds K fd ps []
def sp_l_cell (K : PySem.W.Frag) : Sp := fun vs H Q _ => ∃ (a : Addr) (ns : List Int) (k : Int), vs = [.ref a, .int k] ∧ SqL K H a (ns.map V.int) ∧ 0 ≤ k ∧ Q (.int (cellM ns k)) H
def sp_l_mixed : Sp := fun vs H Q _ => ∃ c k : Int, vs = [.int c, .int k] ∧ (0 ≤ k ∧ k < 1000000) ∧ Q (.int (mixM c k)) H
def sp_l_reading : Sp := fun vs H Q _ => ∃ c : Int, vs = [.int c] ∧ RetV (.int (readM c)) H Q
end RB
namespace RB
open PySem PySem.Spec PyProof.Rows L2
structure LawAt (K : PySem.W.Frag) (mg : Str → Option Value) (st : Stmt) : Prop where
  ex : ∃ (f : Addr) (fd : FuncData), Fun K "law" "law" st f fd ∧ mg "law" = some (.ref f) ∧ ∀ (s : Shared) (v : Value), BindsTo s fd ⟨[v], []⟩ [("_law_script", v)]
theorem def_mk {K : PySem.W.Frag} {h : Heap} {mg : Str → Option Value} {x : Str} {st : Stmt} {ps : List Str} {f : Addr} {oc : Value} {od an : Option Addr} {sl : Array (Option Value)} {kV dc pm cd ct : Value} (X : K.In h) (G : h.Ns mainGlobals mg)
    (a : PySem.W.nsIn K mainGlobals x = some (some (.ref f))) (l : K.lookup f = some ⟨oc, od, .func (PySem.W.fnOf x x (defArgs st) (defBody st) (defScope st) .none kV dc pm an cd ct), sl⟩) (c : PySem.W.codeIn K cd x = true) (k : PySem.W.keepIn K (.ref f) = true)
    (hb : ∀ (kV doc pm : Value) (an : Option Addr) (cdv ct : Value) (us : List Value), us.length = ps.length → bindArgs (PySem.W.fnOf x x (defArgs st) (defBody st) (defScope st) .none kV doc pm an cdv ct) ⟨us, []⟩ = pure (ps.zip us)) : DefAt K mg x st ps :=
  ⟨f, _, fun_mk (st := st) l c k, PySem.W.mg_of X G a, (fun_mk (st := st) l c k).binds hb⟩
theorem law_mk {K : PySem.W.Frag} {h : Heap} {mg : Str → Option Value} {st : Stmt} {f : Addr} {oc : Value} {od an : Option Addr} {sl : Array (Option Value)} {kV dc pm cd ct : Value} (X : K.In h) (G : h.Ns mainGlobals mg)
    (a : PySem.W.nsIn K mainGlobals "law" = some (some (.ref f))) (l : K.lookup f = some ⟨oc, od, .func (PySem.W.fnOf "law" "law" (defArgs st) (defBody st) (defScope st) .none kV dc pm an cd ct), sl⟩) (c : PySem.W.codeIn K cd "law" = true) (k : PySem.W.keepIn K (.ref f) = true)
    (hb : ∀ (kV doc pm : Value) (an : Option Addr) (cdv ct : Value) (s : Shared) (v : Value), BindsTo s (PySem.W.fnOf "law" "law" (defArgs st) (defBody st) (defScope st) .none kV doc pm an cdv ct) ⟨[v], []⟩ [("_law_script", v)]) : LawAt K mg st :=
  ⟨f, _, fun_mk (st := st) l c k, PySem.W.mg_of X G a, hb _ _ _ _ _ _⟩
end RB

namespace RB
open PySem PySem.Spec PyProof.Rows L2
/-! ### upto, below, least_of, most_of, moved, joined -/
def sp_upto : Sp := fun vs H Q _ => ∃ (a : Addr) (es : List E) (r : Int), vs = [.ref a, .int r] ∧ Ents H a es ∧ Srtd es ∧ Q (.int (upTo es r : Nat)) H
def sp_below : Sp := fun vs H Q _ => ∃ (a : Addr) (es : List E) (r : Int), vs = [.ref a, .int r] ∧ Ents H a es ∧ Srtd es ∧ Q (.int (upTo es (r - 1) : Nat)) H
def sp_least_of : Sp := fun vs H Q _ => ∃ (a : Addr) (es : List E) (c : Nat), vs = [.ref a, .int (c : Int)] ∧ Ents H a es ∧ c ≤ es.length ∧ Q (.int (leastOf es c)) H
def sp_most_of : Sp := fun vs H Q _ => ∃ (a : Addr) (es : List E) (c : Nat) (many : Int), vs = [.ref a, .int (c : Int), .int many] ∧ Ents H a es ∧ c ≤ es.length ∧ Q (.int (mostOf es c many)) H
def sp_moved : Sp := fun vs H Q _ => ∃ (a b : Addr) (es os : List E) (more : Int), vs = [.ref a, .ref b, .int more] ∧ Ents H a es ∧ Ents H b os ∧ Srtd os ∧ es.length ≤ 100000 ∧ RetE (movedM es os more) H Q
def sp_joined : Sp := fun vs H Q _ => ∃ (a b : Addr) (es os : List E) (many more : Int), vs = [.ref a, .int many, .ref b, .int more] ∧ Ents H a es ∧ Ents H b os ∧ Srtd es ∧ Srtd os ∧ es.length ≤ 100000 ∧ os.length ≤ 100000 ∧ RetE (joinM es many os more) H Q
theorem Ents.at_ {H : Hp} {a : Addr} {es : List E} {xs : List V} (ha : H a = some (.lst xs)) (h : Ents H a es) {i : Nat} (hi : i < es.length) : ∃ t, xs[i]? = some (.ref t) ∧ H t = some (tri es[i]) := by
  obtain ⟨ys, h1, h2⟩ := h
  rw [ha] at h1
  cases h1
  exact h2.2 i _ (List.getElem?_eq_getElem hi)
abbrev S_upto : Stmt := top 1
theorem sc_upto : FnScope ["entries", "reading", "low", "high", "middle"] ["entries", "reading"] (defScope S_upto) := ⟨rfl, rfl, rfl, by decide +kernel, rfl, by decide +kernel, by decide +kernel⟩
abbrev S_below : Stmt := top 2
theorem sc_below : FnScope ["entries", "reading"] ["entries", "reading"] (defScope S_below) := ⟨rfl, rfl, rfl, by decide +kernel, rfl, by decide +kernel, by decide +kernel⟩
abbrev S_least_of : Stmt := top 3
theorem sc_least_of : FnScope ["entries", "count"] ["entries", "count"] (defScope S_least_of) := ⟨rfl, rfl, rfl, by decide +kernel, rfl, by decide +kernel, by decide +kernel⟩
abbrev S_most_of : Stmt := top 4
theorem sc_most_of : FnScope ["entries", "count", "many"] ["entries", "count", "many"] (defScope S_most_of) := ⟨rfl, rfl, rfl, by decide +kernel, rfl, by decide +kernel, by decide +kernel⟩
abbrev S_moved : Stmt := top 5
theorem sc_moved : FnScope ["entries", "others", "more", "found", "reading", "least", "most"] ["entries", "others", "more"] (defScope S_moved) := ⟨rfl, rfl, rfl, by decide +kernel, rfl, by decide +kernel, by decide +kernel⟩
abbrev S_joined : Stmt := top 7
theorem sc_joined : FnScope ["ones", "many", "others", "more", "both"] ["ones", "many", "others", "more"] (defScope S_joined) := ⟨rfl, rfl, rfl, by decide +kernel, rfl, by decide +kernel, by decide +kernel⟩
abbrev S_reading_of : Stmt := top 6
theorem sc_reading_of : FnScope ["entry"] ["entry"] (defScope S_reading_of) := ⟨rfl, rfl, rfl, by decide +kernel, rfl, by decide +kernel, by decide +kernel⟩
theorem isF_reading_of : IsFirst "entry" (defBody S_reading_of) := ⟨_, _, _, _, _, rfl⟩
section
variable {P : Program} {w : World} {K : PySem.W.Frag} {mg : Str → Option Value} {base : Heap}
theorem ok_upto (D : DefAt K mg "upto" S_upto ["entries", "reading"]) (m_len : mg "len" = none) : Cal P w K mg base CX0 1 "upto" ["entries", "reading"] sp_upto := by
  obtain ⟨f, fd, F, m, b⟩ := D.ex
  refine ⟨f, fd, F.ok sc_upto (fun vs H Q E h => ?_) (fun cdv A outer s H vs Q E hr h => ?_), m, F.kp, b⟩
  · obtain ⟨a, es, r, rfl, _⟩ := h
    rfl
  · obtain ⟨a, es, r, rfl, ⟨xs, ha, hx⟩, hs, q⟩ := h
    have hE : Ents H a es := ⟨xs, ha, hx⟩
    refine ⟨_, (pss_cons (ps_par (i := 2) (j := 3) rfl sc_upto.nd rfl rfl (by decide) rfl rfl (pa_cons pe_int (pa_cons (pe_callB call_len_seq rfl m_len (by decide +kernel) (pa_cons (pv 0) pa_nil)) pa_nil)) rfl)
      (pss_cons (ps_while PassesOwn.never (pt_cmpR op_lt (pv 2) (pv 3) (nomark _)) (pss_cons (ps_set (i := 4) sc_upto.nd rfl (Or.inl rfl) (pe_op op_fdiv (pe_op op_add (pv 2) (pv 3)) pe_int))
      (pss_one (ps_if (pt_cmpR op_le (pe_ix (ixT (K := K) rfl) (pe_ix (ixL (K := K) rfl) (pv 0) (pv 4) (fun _ _ => rfl)) pe_int (fun _ _ => rfl)) (pv 1) (nomark _)) (pss_one (ps_set (i := 2) sc_upto.nd rfl (Or.inl rfl) (pe_op op_add (pv 4) pe_int))) (pss_one (ps_set (i := 3) sc_upto.nd rfl (Or.inl rfl) (pv 4)))))))
      (pss_one (ps_ret (pv 2))))), ?_⟩
    walk_at "rd"
    refine ⟨a, xs, rfl, .inl (SqL.of ha), ?_⟩
    walk_at "rd"
    have hu := upTo_le es r
    refine ⟨fun m σ H' => H' = H ∧ ∃ (lo hi : Nat) (v4 : Option V), m = hi - lo ∧ lo ≤ upTo es r ∧ upTo es r ≤ hi ∧ hi ≤ es.length ∧ σ = [some (.ref a), some (.int r), some (.int (lo : Int)), some (.int (hi : Int)), v4],
      ⟨es.length, rfl, 0, es.length, none, by omega, by omega, by omega, by omega, by rw [hx.1]; rfl⟩, fun m σ H' hw => ?_⟩
    obtain ⟨rfl, lo, hi, v4, rfl, h1, h2, h3, rfl⟩ := hw
    walk_at "rd"
    refine if_d (fun c => ?_) (fun c => ?_)
    · refine ⟨fun σ H'' => ∃ m', m' < hi - lo ∧ (H'' = H' ∧ ∃ (lo hi : Nat) (v4 : Option V), m' = hi - lo ∧ lo ≤ upTo es r ∧ upTo es r ≤ hi ∧ hi ≤ es.length ∧ σ = [some (.ref a), some (.int r), some (.int (lo : Int)), some (.int (hi : Int)), v4]), fun _ _ h => h, ?_⟩
      obtain ⟨md, emd⟩ : ∃ md : Nat, md = (lo + hi) / 2 := ⟨_, rfl⟩
      have hm : ((lo : Int) + (hi : Int)) / 2 = (md : Int) := by omega
      have hml : md < es.length := by omega
      obtain ⟨t, t1, t2⟩ := hE.at_ ha hml
      walk_at "rd"
      rw [hm]
      refine ⟨a, xs, _, _, rfl, rfl, SqL.of ha, at_of (j := md) rfl t1, ?_⟩
      walk_at "rd"
      refine ⟨t, _, _, _, rfl, rfl, SqT.of' t2, at_of (j := 0) rfl rfl, ?_⟩
      have key := upTo_at hs (r := r) (List.getElem?_eq_getElem hml)
      walk_at "rd"
      refine if_d (fun c2 => ?_) (fun c2 => ?_)
      · have := key.mp c2
        walk_at "rd"
        exact ⟨hi - (md + 1), by omega, rfl, md + 1, hi, _, rfl, by omega, h2, h3, by rw [Int.natCast_add]; rfl⟩
      · have : ¬ md < upTo es r := fun z => c2 (key.mpr z)
        walk_at "rd"
        exact ⟨md - lo, by omega, rfl, lo, md, _, rfl, h1, by omega, by omega, rfl⟩
    · have e : lo = upTo es r := by omega
      walk_at "rd"
      rw [e]
      exact q
theorem ok_below (D : DefAt K mg "below" S_below ["entries", "reading"]) (c_upto : Cal P w K mg base CX0 1 "upto" ["entries", "reading"] sp_upto) : Cal P w K mg base CX0 2 "below" ["entries", "reading"] sp_below := by
  obtain ⟨f, fd, F, m, b⟩ := D.ex
  obtain ⟨f_upto, fd_upto, G_upto, m_upto, k_upto, b_upto⟩ := c_upto
  refine ⟨f, fd, F.ok sc_below (fun vs H Q E h => ?_) (fun cdv A outer s H vs Q E hr h => ?_), m, F.kp, b⟩
  · obtain ⟨a, es, r, rfl, _⟩ := h
    rfl
  · obtain ⟨a, es, r, rfl, hE, hs, q⟩ := h
    refine ⟨_, (pss_one (ps_ret (pe_call G_upto (hr.mono (by decide)) rfl m_upto k_upto b_upto .nil pass0 (pa_cons (pv 0) (pa_cons (pe_op op_sub (pv 1) pe_int) pa_nil))))), ?_⟩
    walk_at "rd"
    exact ⟨a, es, _, rfl, hE, hs, q⟩
theorem ok_least_of (D : DefAt K mg "least_of" S_least_of ["entries", "count"]) : Cal P w K mg base CX0 1 "least_of" ["entries", "count"] sp_least_of := by
  obtain ⟨f, fd, F, m, b⟩ := D.ex
  refine ⟨f, fd, F.ok sc_least_of (fun vs H Q E h => ?_) (fun cdv A outer s H vs Q E hr h => ?_), m, F.kp, b⟩
  · obtain ⟨a, es, c, rfl, _⟩ := h
    rfl
  · obtain ⟨a, es, c, rfl, ⟨xs, ha, hx⟩, hc, q⟩ := h
    have hE : Ents H a es := ⟨xs, ha, hx⟩
    refine ⟨_, (pss_cons (ps_if (pt_cmpR op_eq (pv 1) pe_int (nomark _)) (pss_one (ps_ret pe_int)) pss_nil)
      (pss_one (ps_ret (pe_op op_add (pe_ix (ixT (K := K) rfl) (pe_ix (ixL (K := K) rfl) (pv 0) (pe_op op_sub (pv 1) pe_int) (fun _ _ => rfl)) pe_int (fun _ _ => rfl)) pe_int)))), ?_⟩
    walk_at "rd"
    refine if_d (fun c0 => ?_) (fun c0 => ?_)
    · have e : leastOf es c = 0 := if_pos (by omega)
      walk_at "rd"
      rw [e] at q
      exact q
    · have e : leastOf es c = (es.getD (c - 1) (0, 0, 0)).2.1 + 1 := if_neg (by omega)
      have hl : c - 1 < es.length := by omega
      obtain ⟨t, t1, t2⟩ := hE.at_ ha hl
      rw [e, List.getD_eq_getElem?_getD, List.getElem?_eq_getElem hl] at q
      walk_at "rd"
      refine ⟨a, xs, _, _, rfl, rfl, SqL.of ha, at_of (j := c - 1) (by omega) t1, ?_⟩
      walk_at "rd"
      refine ⟨t, _, _, _, rfl, rfl, SqT.of' t2, at_of (j := 1) rfl rfl, ?_⟩
      walk_at "rd"
      exact q
theorem ok_most_of (D : DefAt K mg "most_of" S_most_of ["entries", "count", "many"]) (m_len : mg "len" = none) : Cal P w K mg base CX0 1 "most_of" ["entries", "count", "many"] sp_most_of := by
  obtain ⟨f, fd, F, m, b⟩ := D.ex
  refine ⟨f, fd, F.ok sc_most_of (fun vs H Q E h => ?_) (fun cdv A outer s H vs Q E hr h => ?_), m, F.kp, b⟩
  · obtain ⟨a, es, c, many, rfl, _⟩ := h
    rfl
  · obtain ⟨a, es, c, many, rfl, ⟨xs, ha, hx⟩, hc, q⟩ := h
    have hE : Ents H a es := ⟨xs, ha, hx⟩
    refine ⟨_, (pss_cons (ps_if (pt_cmpR op_eq (pv 1) (pe_callB call_len_seq rfl m_len (by decide +kernel) (pa_cons (pv 0) pa_nil)) (nomark _)) (pss_one (ps_ret (pv 2))) pss_nil)
      (pss_one (ps_ret (pe_ix (ixT (K := K) rfl) (pe_ix (ixL (K := K) rfl) (pv 0) (pv 1) (fun _ _ => rfl)) pe_int (fun _ _ => rfl))))), ?_⟩
    walk_at "rd"
    refine ⟨a, xs, rfl, .inl (SqL.of ha), ?_⟩
    rw [hx.1]
    walk_at "rd"
    refine if_d (fun c0 => ?_) (fun c0 => ?_)
    · have e : mostOf es c many = many := if_pos (by omega)
      walk_at "rd"
      rw [e] at q
      exact q
    · have e : mostOf es c many = (es.getD c (0, 0, 0)).2.2 := if_neg (by omega)
      have hl : c < es.length := by omega
      obtain ⟨t, t1, t2⟩ := hE.at_ ha hl
      rw [e, List.getD_eq_getElem?_getD, List.getElem?_eq_getElem hl] at q
      walk_at "rd"
      refine ⟨a, xs, _, _, rfl, rfl, SqL.of ha, at_of (j := c) rfl t1, ?_⟩
      walk_at "rd"
      exact ⟨t, _, _, _, rfl, rfl, SqT.of' t2, at_of (j := 2) rfl rfl, q⟩
theorem ok_moved (D : DefAt K mg "moved" S_moved ["entries", "others", "more"]) (c_upto : Cal P w K mg base CX0 1 "upto" ["entries", "reading"] sp_upto) (c_below : Cal P w K mg base CX0 2 "below" ["entries", "reading"] sp_below)
    (c_least_of : Cal P w K mg base CX0 1 "least_of" ["entries", "count"] sp_least_of) (c_most_of : Cal P w K mg base CX0 1 "most_of" ["entries", "count", "many"] sp_most_of) : Cal P w K mg base CX0 3 "moved" ["entries", "others", "more"] sp_moved := by
  obtain ⟨f, fd, F, m, b⟩ := D.ex
  obtain ⟨f_upto, fd_upto, G_upto, m_upto, k_upto, b_upto⟩ := c_upto
  obtain ⟨f_below, fd_below, G_below, m_below, k_below, b_below⟩ := c_below
  obtain ⟨f_least_of, fd_least_of, G_least_of, m_least_of, k_least_of, b_least_of⟩ := c_least_of
  obtain ⟨f_most_of, fd_most_of, G_most_of, m_most_of, k_most_of, b_most_of⟩ := c_most_of
  refine ⟨f, fd, F.ok sc_moved (fun vs H Q E h => ?_) (fun cdv A outer s H vs Q E hr h => ?_), m, F.kp, b⟩
  · obtain ⟨a, c, es, os, more, rfl, _⟩ := h
    rfl
  · obtain ⟨a, c, es, os, more, rfl, ⟨xs, ha, hx⟩, hO, hs, hl, q⟩ := h
    refine ⟨_, (pss_cons (ps_set (i := 3) sc_moved.nd rfl (Or.inl rfl) (pe_lst pa_nil))
      (pss_cons (ps_for PassesOwn.never rfl (pi_list (pv 0)) (pg_tup rfl (pgs_cons (pg_name (i := 4) sc_moved.nd rfl (Or.inl rfl)) (pgs_cons (pg_name (i := 5) sc_moved.nd rfl (Or.inl rfl)) (pgs_cons (pg_name (i := 6) sc_moved.nd rfl (Or.inl rfl)) pgs_nil)))) (pss_cons (ps_set (i := 5) sc_moved.nd rfl (Or.inl rfl) (pe_op op_add (pv 5) (pe_call G_least_of (hr.mono (by decide)) rfl m_least_of k_least_of b_least_of .nil pass0 (pa_cons (pv 1) (pa_cons (pe_call G_upto (hr.mono (by decide)) rfl m_upto k_upto b_upto .nil pass0 (pa_cons (pv 1) (pa_cons (pv 4) pa_nil))) pa_nil)))))
      (pss_cons (ps_set (i := 6) sc_moved.nd rfl (Or.inl rfl) (pe_op op_add (pv 6) (pe_call G_most_of (hr.mono (by decide)) rfl m_most_of k_most_of b_most_of .nil pass0 (pa_cons (pv 1) (pa_cons (pe_call G_below (hr.mono (by decide)) rfl m_below k_below b_below .nil pass0 (pa_cons (pv 1) (pa_cons (pv 4) pa_nil))) (pa_cons (pv 2) pa_nil))))))
      (pss_one (ps_expr (pe_bm PySem.F.plainAttrs_list PySem.F.slot_list_append PySem.F.type_list_append mt_append (pv 3) (pa_cons (pe_tup (pa_cons (pv 4) (pa_cons (pv 5) (pa_cons (pv 6) pa_nil)))) pa_nil)))))))
      (pss_one (ps_ret (pv 3))))), ?_⟩
    walk_at "rd"
    refine ⟨by show 0 ≤ sizeLine; decide, fun p hp => ?_⟩
    walk_at "rd"
    refine ⟨a, rfl, ⟨_, SqL.of ((Same.new hp) _ _ ha)⟩, ?_⟩
    refine for_go (walk_list (xs := xs)) (fun i σ H' => Same H H' ∧ (∃ ys, H' p = some (.lst ys) ∧ EntsV H' ys (movedM (es.take i) os more)) ∧ ∃ v4 v5 v6, σ = [some (.ref a), some (.ref c), some (.int more), some (.ref p), v4, v5, v6])
      ⟨Same.new hp, ⟨[], upd_same, EntsV.nil⟩, none, none, none, rfl⟩ (fun i σ H' _ z => SqL.of (z.1 _ _ ha)) (fun i x σ H1 H2 hi z y => ?_) (fun σ H1 z => ?_)
    · obtain ⟨s1, ⟨ys, hy, Y⟩, v4, v5, v6, rfl⟩ := z
      obtain ⟨rfl, e⟩ := y
      rw [hx.1] at hi
      obtain ⟨t, t1, t2⟩ := hx.2 i es[i] (List.getElem?_eq_getElem hi)
      rw [e] at t1
      cases t1
      have t3 := s1 _ _ t2
      have hO1 := hO.same s1
      have htk : es.take (i + 1) = es.take i ++ [es[i]] := by rw [List.take_succ_eq_append_getElem hi]
      have hmv : movedM (es.take (i + 1)) os more = movedM (es.take i) os more ++ [moveE os more es[i]] := by
        rw [htk]
        unfold movedM
        rw [List.map_append]
        rfl
      have hyl : ys.length ≤ 100000 := by
        rw [Y.1]
        unfold movedM
        rw [List.length_map, List.length_take]
        omega
      generalize es[i] = e0 at *
      walk_at "rd"
      refine ⟨t, _, rfl, SqT.of' t3, rfl, ?_⟩
      walk_at "rd"
      refine ⟨c, os, _, rfl, hO1, hs, ?_⟩
      walk_at "rd"
      refine ⟨c, os, _, rfl, hO1, upTo_le _ _, ?_⟩
      walk_at "rd"
      refine ⟨c, os, _, rfl, hO1, hs, ?_⟩
      walk_at "rd"
      refine ⟨c, os, _, _, rfl, hO1, upTo_le _ _, ?_⟩
      walk_at "rd"
      refine ⟨ty_lst hy, ?_⟩
      walk_at "rd"
      refine ⟨by show 3 ≤ sizeLine; decide, fun u hu => ?_⟩
      have nu : p ≠ u := ne_of_none hy hu
      walk_at "rd"
      refine ⟨p, ys, _, rfl, rfl, by rw [upd_ne nu]; exact hy, by rw [sizeLine_eq]; omega, ?_⟩
      refine ⟨Same.mut (s1.trans (Same.new hu)) hp, ⟨_, upd_same, ?_⟩, _, _, _, rfl⟩
      rw [hmv]
      refine EntsV.imm (H := upd H2 u (.tup [.int e0.1, .int (e0.2.1 + leastOf os (upTo os e0.1)), .int (e0.2.2 + mostOf os (upTo os (e0.1 - 1)) more)])) ?_ fun b cs hb => ?_
      · exact EntsV.snoc (Y.same (Same.new hu)) upd_same
      · rw [upd_ne (ne_of hb (by rw [upd_ne nu]; exact hy) (by intro z; cases z))]
        exact hb
    · obtain ⟨s1, ⟨ys, hy, Y⟩, v4, v5, v6, rfl⟩ := z
      rw [hx.1, List.take_length] at Y
      walk_at "rd"
      exact q p H1 hp s1 ⟨ys, hy, Y⟩
theorem ok_joined (D : DefAt K mg "joined" S_joined ["ones", "many", "others", "more"]) (D_reading_of : DefAt K mg "reading_of" S_reading_of ["entry"]) (m_sorted : mg "sorted" = none) (c_moved : Cal P w K mg base CX0 3 "moved" ["entries", "others", "more"] sp_moved) : Cal P w K mg base CX0 4 "joined" ["ones", "many", "others", "more"] sp_joined := by
  obtain ⟨f, fd, F, m, b⟩ := D.ex
  obtain ⟨f_reading_of, fd_reading_of, F_reading_of, m_reading_of, b_reading_of⟩ := D_reading_of.ex
  obtain ⟨f_moved, fd_moved, G_moved, m_moved, k_moved, b_moved⟩ := c_moved
  refine ⟨f, fd, F.ok sc_joined (fun vs H Q E h => ?_) (fun cdv A outer s H vs Q E hr h => ?_), m, F.kp, b⟩
  · obtain ⟨a, c, es, os, many, more, rfl, _⟩ := h
    rfl
  · obtain ⟨a, c, es, os, many, more, rfl, hA, hO, sA, sO, lA, lO, q⟩ := h
    refine ⟨_, (pss_cons (ps_set (i := 4) sc_joined.nd rfl (Or.inl rfl) (pe_op op_cat (pe_call G_moved (hr.mono (by decide)) rfl m_moved k_moved b_moved .nil pass0 (pa_cons (pv 0) (pa_cons (pv 2) (pa_cons (pv 3) pa_nil)))) (pe_call G_moved (hr.mono (by decide)) rfl m_moved k_moved b_moved .nil pass0 (pa_cons (pv 2) (pa_cons (pv 0) (pa_cons (pv 1) pa_nil))))))
      (pss_one (ps_ret (pe_callBK (cr_sortedBy F_reading_of sc_reading_of isF_reading_of b_reading_of (hr.mono (by decide)) rfl rfl) rfl m_sorted (by decide +kernel) (pa_cons (pv 4) pa_nil) (pk_cons (pe_glob (v := .ref f_reading_of) rfl m_reading_of rfl) pk_nil))))), ?_⟩
    walk_at "rd"
    refine ⟨a, c, es, os, more, rfl, hA, hO, sO, lA, fun p H1 hp s1 E1 => ?_⟩
    walk_at "rd"
    refine ⟨c, a, os, es, many, rfl, hO.same s1, hA.same s1, sA, lO, fun p2 H2 hp2 s2 E2 => ?_⟩
    obtain ⟨xs, x1, x2⟩ := E1.same s2
    obtain ⟨ys, y1, y2⟩ := E2
    have lx : xs.length = es.length := by rw [x2.1]; unfold movedM; rw [List.length_map]
    have ly : ys.length = os.length := by rw [y2.1]; unfold movedM; rw [List.length_map]
    walk_at "rd"
    refine ⟨p, p2, xs, ys, rfl, rfl, x1, y1, by rw [sizeLine_eq]; omega, fun p3 hp3 => ?_⟩
    walk_at "rd"
    have EV : EntsV (upd H2 p3 (.lst (xs ++ ys))) (xs ++ ys) (movedM es os more ++ movedM os es many) := by
      have h1 := x2.same (Same.new (o := .lst (xs ++ ys)) hp3)
      have h2 := y2.same (Same.new (o := .lst (xs ++ ys)) hp3)
      refine ⟨by rw [List.length_append, List.length_append, x2.1, y2.1], fun i e he => ?_⟩
      by_cases hi : i < (movedM es os more).length
      · rw [List.getElem?_append_left hi] at he
        obtain ⟨t, t1, t2⟩ := h1.2 i e he
        exact ⟨t, by rw [List.getElem?_append_left (by rw [x2.1]; exact hi)]; exact t1, t2⟩
      · rw [List.getElem?_append_right (by omega)] at he
        obtain ⟨t, t1, t2⟩ := h2.2 _ e he
        exact ⟨t, by rw [List.getElem?_append_right (by rw [x2.1]; omega), x2.1]; exact t1, t2⟩
    refine ⟨p3, xs ++ ys, _, rfl, rfl, upd_same, EV, ?_, fun p4 zs hp4 Z => ?_⟩
    · unfold movedM
      rw [List.length_append, List.length_map, List.length_map]
      omega
    · have s3 : Same H (upd (upd H2 p3 (.lst (xs ++ ys))) p4 (.lst zs)) := ((s1.trans s2).trans (Same.new hp3)).trans (Same.new hp4)
      exact q p4 _ (((s1.trans s2).trans (Same.new hp3)).free hp4) s3 ⟨zs, upd_same, Z.same (Same.new hp4)⟩
end
end RB

namespace RB
open PySem PySem.Spec PyProof.Rows L2
abbrev S_l_cell : Stmt := top 9
theorem sc_l_cell : FnScope ["_law_script", "_law_k"] ["_law_script", "_law_k"] (defScope S_l_cell) := ⟨rfl, rfl, rfl, by decide +kernel, rfl, by decide +kernel, by decide +kernel⟩
abbrev S_l_mixed : Stmt := top 10
theorem sc_l_mixed : FnScope ["_law_cell_here", "_law_k", "_law_number"] ["_law_cell_here", "_law_k"] (defScope S_l_mixed) := ⟨rfl, rfl, rfl, by decide +kernel, rfl, by decide +kernel, by decide +kernel⟩
abbrev S_l_reading : Stmt := top 11
theorem sc_l_reading : FnScope ["_law_cell_here", "_law_number"] ["_law_cell_here"] (defScope S_l_reading) := ⟨rfl, rfl, rfl, by decide +kernel, rfl, by decide +kernel, by decide +kernel⟩
section
variable {P : Program} {w : World} {K : PySem.W.Frag} {mg : Str → Option Value} {base : Heap}
theorem ok_l_cell (D : DefAt K mg "_law_cell" S_l_cell ["_law_script", "_law_k"]) (m_len : mg "len" = none) : Cal P w K mg base CX0 1 "_law_cell" ["_law_script", "_law_k"] (sp_l_cell K) := by
  obtain ⟨f, fd, F, m, b⟩ := D.ex
  refine ⟨f, fd, F.ok sc_l_cell (fun vs H Q E h => ?_) (fun cdv A outer s H vs Q E hr h => ?_), m, F.kp, b⟩
  · obtain ⟨a, ns, k, rfl, _⟩ := h
    rfl
  · obtain ⟨a, ns, k, rfl, hs, hk, q⟩ := h
    refine ⟨_, (pss_cons (ps_if (pt_cmpR op_lt (pv 1) (pe_callB call_len_seq rfl m_len (by decide +kernel) (pa_cons (pv 0) pa_nil)) (nomark _)) (pss_one (ps_ret (pe_ix (ixL (K := K) rfl) (pv 0) (pv 1) (fun _ _ => rfl)))) pss_nil)
      (pss_one (ps_ret pe_int))), ?_⟩
    walk_at "rd"
    refine ⟨_, _, rfl, Or.inl hs, ?_⟩
    walk_at "rd"
    refine if_d (fun hl => ?_) (fun hl => ?_)
    · walk_at "rd"
      rw [List.length_map] at hl
      refine ⟨a, _, _, _, rfl, rfl, hs, at_of (j := k.toNat) (v := V.int (cellM ns k)) (by omega) ?_, q⟩
      rw [List.getElem?_map, List.getElem?_eq_getElem (by omega : k.toNat < ns.length)]
      unfold cellM
      rw [List.getD_eq_getElem?_getD, List.getElem?_eq_getElem (by omega : k.toNat < ns.length)]
      rfl
    · walk_at "rd"
      rw [List.length_map] at hl
      have e : cellM ns k = 0 := by
        unfold cellM
        rw [List.getD_eq_getElem?_getD, List.getElem?_eq_none (by omega : ns.length ≤ k.toNat)]
        rfl
      rw [e] at q
      exact q
theorem ok_l_mixed (D : DefAt K mg "_law_mixed" S_l_mixed ["_law_cell_here", "_law_k"]) : Cal P w K mg base CX0 1 "_law_mixed" ["_law_cell_here", "_law_k"] sp_l_mixed := by
  obtain ⟨f, fd, F, m, b⟩ := D.ex
  refine ⟨f, fd, F.ok sc_l_mixed (fun vs H Q E h => ?_) (fun cdv A outer s H vs Q E hr h => ?_), m, F.kp, b⟩
  · obtain ⟨c, k, rfl, _⟩ := h
    rfl
  · obtain ⟨c, k, rfl, hk, q⟩ := h
    have h0 : 0 ≤ (c + 7919 * k) * 48271 % 2147483647 := Int.emod_nonneg _ (by decide)
    have h1 : (c + 7919 * k) * 48271 % 2147483647 < 2147483647 := Int.emod_lt_of_pos _ (by decide)
    refine ⟨_, (pss_cons (ps_set (i := 2) sc_l_mixed.nd rfl (Or.inl rfl) (pe_op op_mod (pe_op op_mul (pe_op op_add (pv 0) (pe_op op_mul pe_int (pv 1))) pe_int) pe_int))
      (pss_one (ps_ret (pe_op op_mod (pe_op op_mul (pv 2) (pe_op op_add (pe_op op_add (pv 2) (pe_op op_mul pe_int (pv 1))) pe_int)) pe_int)))), ?_⟩
    walk_at "rd"
    exact q
theorem ok_l_reading (D : DefAt K mg "_law_reading" S_l_reading ["_law_cell_here"]) (c_l_mixed : Cal P w K mg base CX0 1 "_law_mixed" ["_law_cell_here", "_law_k"] sp_l_mixed) : Cal P w K mg base CX0 2 "_law_reading" ["_law_cell_here"] sp_l_reading := by
  obtain ⟨f, fd, F, m, b⟩ := D.ex
  obtain ⟨f_l_mixed, fd_l_mixed, G_l_mixed, m_l_mixed, k_l_mixed, b_l_mixed⟩ := c_l_mixed
  refine ⟨f, fd, F.ok sc_l_reading (fun vs H Q E h => ?_) (fun cdv A outer s H vs Q E hr h => ?_), m, F.kp, b⟩
  · obtain ⟨c, rfl, _⟩ := h
    rfl
  · obtain ⟨c, rfl, q⟩ := h
    refine ⟨_, (pss_cons (ps_set (i := 1) sc_l_reading.nd rfl (Or.inl rfl) (pe_call G_l_mixed (hr.mono (by decide)) rfl m_l_mixed k_l_mixed b_l_mixed .nil pass0 (pa_cons (pv 0) (pa_cons pe_int pa_nil))))
      (pss_cons (ps_if (pt_cmpR op_eq (pe_op op_mod (pv 1) pe_int) pe_int (nomark _)) (pss_one (ps_ret (pe_op op_sub (pe_op op_mod (pe_op op_fdiv (pv 1) pe_int) pe_int) pe_int))) pss_nil)
      (pss_cons (ps_if (pt_cmpR op_eq (pe_op op_mod (pv 1) pe_int) pe_int (nomark _)) (pss_one (ps_ret (pe_op op_sub (pe_op op_mod (pe_op op_fdiv (pv 1) pe_int) pe_int) pe_int))) pss_nil)
      (pss_cons (ps_if (pt_cmpR op_eq (pe_op op_mod (pe_op op_fdiv (pv 1) pe_int) pe_int) pe_int (nomark _)) (pss_one (ps_ret (pe_ix (ixL (K := K) rfl) (pe_lst (pa_cons (pe_op op_pow pe_int pe_int) (pa_cons (pe_un un_neg (pe_op op_pow pe_int pe_int)) pa_nil))) (pe_op op_mod (pe_op op_fdiv (pv 1) pe_int) pe_int) (fun _ _ => rfl)))) pss_nil)
      (pss_one (ps_ret (pe_op op_sub (pe_op op_mod (pe_op op_mul (pv 1) (pv 1)) (pe_op op_add (pe_op op_mul pe_int (pe_op op_pow pe_int pe_int)) pe_int)) (pe_op op_pow pe_int pe_int)))))))), ?_⟩
    have h0 : 0 ≤ mixM c 1 := mixM_lo c 1
    have h1 : mixM c 1 < 2147483629 := mixM_hi c 1
    walk_at "rd"
    refine ⟨c, 1, rfl, by decide, ?_⟩
    unfold readM at q
    generalize mixM c 1 = n at *
    walk_at "rd"
    refine if_d (fun c1 => ?_) (fun c1 => ?_)
    · rw [if_pos c1] at q
      walk_at "rd"
      exact q.go (Same.refl _)
    rw [if_neg c1] at q
    walk_at "rd"
    refine if_d (fun c2 => ?_) (fun c2 => ?_)
    · rw [if_pos c2] at q
      walk_at "rd"
      exact q.go (Same.refl _)
    rw [if_neg c2] at q
    walk_at "rd"
    refine if_d (fun c3 => ?_) (fun c3 => ?_)
    · rw [if_pos c3] at q
      walk_at "rd"
      refine ⟨by show 2 ≤ sizeLine; decide, fun p hp => ?_⟩
      walk_at "rd"
      rcases (by omega : n / 27 % 2 = 0 ∨ n / 27 % 2 = 1) with e | e
      · rw [if_pos e] at q
        exact ⟨p, _, _, _, rfl, rfl, SqL.of upd_same, at_of (j := 0) (by omega) rfl, q.go (Same.new hp)⟩
      · rw [if_neg (by omega)] at q
        exact ⟨p, _, _, _, rfl, rfl, SqL.of upd_same, at_of (j := 1) (by omega) rfl, q.go (Same.new hp)⟩
    · rw [if_neg c3] at q
      walk_at "rd"
      exact q.go (Same.refl _)
end
end RB

namespace RB
open PySem PySem.Spec PyProof.Rows L2
def sp_l_whole : Sp := fun vs H Q _ => ∃ x y : Int, vs = [.int x, .int y] ∧ Q (.bl (decide (x = y))) H
abbrev S_l_whole : Stmt := top 12
theorem sc_l_whole : FnScope ["_law_found", "_law_due_here"] ["_law_found", "_law_due_here"] (defScope S_l_whole) := ⟨rfl, rfl, rfl, by decide +kernel, rfl, by decide +kernel, by decide +kernel⟩
section
variable {P : Program} {w : World} {K : PySem.W.Frag} {mg : Str → Option Value} {base : Heap}
theorem ok_l_whole (D : DefAt K mg "_law_whole" S_l_whole ["_law_found", "_law_due_here"]) (m_isinstance : mg "isinstance" = none) (m_int : mg "int" = none) (m_bool : mg "bool" = none) : Cal P w K mg base CX0 1 "_law_whole" ["_law_found", "_law_due_here"] sp_l_whole := by
  obtain ⟨f, fd, F, m, b⟩ := D.ex
  refine ⟨f, fd, F.ok sc_l_whole (fun vs H Q E h => ?_) (fun cdv A outer s H vs Q E hr h => ?_), m, F.kp, b⟩
  · obtain ⟨x, y, rfl, _⟩ := h
    rfl
  · obtain ⟨x, y, rfl, q⟩ := h
    refine ⟨_, (pss_one (ps_ret (pe_and (pe_callB call_isi rfl m_isinstance (by decide +kernel) (pa_cons (pv 0) (pa_cons (pe_bltn (v := .ty "int") rfl m_int (by decide +kernel) rfl) pa_nil))) (pe_and (pe_not (pe_callB call_isi rfl m_isinstance (by decide +kernel) (pa_cons (pv 0) (pa_cons (pe_bltn (v := .ty "bool") rfl m_bool (by decide +kernel) rfl) pa_nil)))) (pe_one (pe_cmpR op_eq (pv 0) (pv 1) (nomark _))))))), ?_⟩
    walk_at "rd"
    exact q
end
end RB

namespace RB
open PySem PySem.Spec PyProof.Rows L2
/-! ### k02's own defs -/
def rowS (ns : List Int) (first cell : Int) : List Int := srt ((List.range (cell % 15).toNat).map fun k : Nat => readM (cellM ns (first + (k : Int))))
theorem rowS_len (ns : List Int) (first cell : Int) : (rowS ns first cell).length ≤ 14 := by
  unfold rowS
  rw [srt_length, List.length_map, List.length_range]
  omega
theorem rowS_sorted (ns : List Int) (first cell : Int) : (rowS ns first cell).Pairwise (· ≤ ·) := srt_sorted _
def sp_l_row (K : PySem.W.Frag) : Sp := fun vs H Q _ => ∃ (a : Addr) (ns : List Int) (fi c : Int), vs = [.ref a, .int fi, .int c] ∧ SqL K H a (ns.map V.int) ∧ 0 ≤ fi ∧ RetI (rowS ns fi c) H Q
def sp_l_some : Sp := fun vs H Q _ => ∃ (a : Addr) (row : List Int) (c : Int), vs = [.ref a, .int c] ∧ H a = some (.lst (row.map V.int)) ∧ row.length ≤ 1000 ∧ RetE (someE c 0 row) H Q
def sp_l_counted : Sp := fun vs H Q _ => ∃ (t b : Addr) (e : E) (os : List E) (more : Int), vs = [.ref t, .ref b, .int more] ∧ H t = some (tri e) ∧ Ents H b os ∧ Srtd os ∧ os.length ≤ 1000 ∧
  ∀ p H', H p = none → Same H H' → H' p = some (tri (moveE os more e)) → Q (.ref p) H'
def sp_l_due : Sp := fun vs H Q _ => ∃ (a b : Addr) (es os : List E) (many more : Int), vs = [.ref a, .int many, .ref b, .int more] ∧ Ents H a es ∧ Ents H b os ∧ Srtd es ∧ Srtd os ∧ es.length ≤ 1000 ∧ os.length ≤ 1000 ∧ RetE (joinM es many os more) H Q
def sp_l_like : Sp := fun vs H Q _ => ∃ (a b : Addr) (es : List E), vs = [.ref a, .ref b] ∧ Ents H a es ∧ Ents H b es ∧ es.length ≤ 1000 ∧ RetV (.bl true) H Q
def sp_l_true : Sp := fun vs H Q _ => ∃ (a b : Addr) (es : List E) (row : List Int), vs = [.ref a, .ref b] ∧ Ents H a es ∧ H b = some (.lst (row.map V.int)) ∧ (∀ e ∈ es, Tru (rowOf row) e) ∧ row.length ≤ 1000 ∧ RetV (.bl true) H Q
abbrev S_l_row : Stmt := top 13
theorem sc_l_row : FnScope ["_law_script", "_law_first", "_law_cell_here", "_law_k"] ["_law_script", "_law_first", "_law_cell_here"] (defScope S_l_row) := ⟨rfl, rfl, rfl, by decide +kernel, rfl, by decide +kernel, by decide +kernel⟩
abbrev S_l_some : Stmt := top 14
theorem sc_l_some : FnScope ["_law_row_here", "_law_cell_here", "_law_found", "_law_place", "_law_reading_here", "_law_left"] ["_law_row_here", "_law_cell_here"] (defScope S_l_some) := ⟨rfl, rfl, rfl, by decide +kernel, rfl, by decide +kernel, by decide +kernel⟩
abbrev S_l_counted : Stmt := top 15
theorem sc_l_counted : FnScope ["_law_entry", "_law_others", "_law_more", "_law_reading_here", "_law_least", "_law_most", "_law_last", "_law_one", "_law_first"] ["_law_entry", "_law_others", "_law_more"] (defScope S_l_counted) := ⟨rfl, rfl, rfl, by decide +kernel, rfl, by decide +kernel, by decide +kernel⟩
abbrev S_l_due : Stmt := top 16
theorem sc_l_due : FnScope ["_law_ones", "_law_many", "_law_others", "_law_more", "_law_found", "_law_one", "_law_other", "_law_at"] ["_law_ones", "_law_many", "_law_others", "_law_more"] (defScope S_l_due) := ⟨rfl, rfl, rfl, by decide +kernel, rfl, by decide +kernel, by decide +kernel⟩
abbrev S_l_like : Stmt := top 17
theorem sc_l_like : FnScope ["_law_found", "_law_due_here", "_law_one", "_law_other", "_law_number", "_law_wanted"] ["_law_found", "_law_due_here"] (defScope S_l_like) := ⟨rfl, rfl, rfl, by decide +kernel, rfl, by decide +kernel, by decide +kernel⟩
abbrev S_l_true : Stmt := top 18
theorem sc_l_true : FnScope ["_law_entries", "_law_row_here", "_law_reading_here", "_law_least", "_law_most", "_law_one"] ["_law_entries", "_law_row_here"] (defScope S_l_true) := ⟨rfl, rfl, rfl, by decide +kernel, rfl, by decide +kernel, by decide +kernel⟩
section
variable {P : Program} {w : World} {K : PySem.W.Frag} {mg : Str → Option Value} {base : Heap}
theorem ok_l_row (D : DefAt K mg "_law_row" S_l_row ["_law_script", "_law_first", "_law_cell_here"]) (m_sorted : mg "sorted" = none) (m_range : mg "range" = none) (c_l_cell : Cal P w K mg base CX0 1 "_law_cell" ["_law_script", "_law_k"] (sp_l_cell K))
    (c_l_reading : Cal P w K mg base CX0 2 "_law_reading" ["_law_cell_here"] sp_l_reading) : Cal P w K mg base CX0 3 "_law_row" ["_law_script", "_law_first", "_law_cell_here"] (sp_l_row K) := by
  obtain ⟨f, fd, F, m, b⟩ := D.ex
  obtain ⟨f_l_cell, fd_l_cell, G_l_cell, m_l_cell, k_l_cell, b_l_cell⟩ := c_l_cell
  obtain ⟨f_l_reading, fd_l_reading, G_l_reading, m_l_reading, k_l_reading, b_l_reading⟩ := c_l_reading
  refine ⟨f, fd, F.ok sc_l_row (fun vs H Q E h => ?_) (fun cdv A outer s H vs Q E hr h => ?_), m, F.kp, b⟩
  · obtain ⟨a, ns, fi, c, rfl, _⟩ := h
    rfl
  · obtain ⟨a, ns, fi, c, rfl, ha, h0, q⟩ := h
    refine ⟨_, (pss_one (ps_ret (pe_callB cr_sortedI rfl m_sorted (by decide +kernel) (pa_cons (pe_lc (own := [("_law_k", 3)]) (g := (gName 3)) (tt := tYes) rfl sc_l_row.nd (pi_range1 rfl m_range (pa_cons (pe_op op_mod (pv 2) pe_int) pa_nil)) (blkOk_by (N := ["_law_script", "_law_first", "_law_cell_here", "_law_k"]) (sc := defScope S_l_row) (by decide +kernel)) (fun _ _ _ _ _ => by exact (pg_name (i := 3) sc_l_row.nd rfl (Or.inl rfl))) (fun _ _ _ _ _ => by exact pts_nil) (fun _ _ _ _ _ => by exact (pe_call G_l_reading (hr.mono (by decide)) rfl m_l_reading k_l_reading b_l_reading .nil pass0 (pa_cons (pe_call G_l_cell (hr.mono (by decide)) rfl m_l_cell k_l_cell b_l_cell .nil pass0 (pa_cons (pv 0) (pa_cons (pe_op op_add (pv 1) (pv 3)) pa_nil))) pa_nil)))) pa_nil)))), ?_⟩
    have b0 : 0 ≤ c % 15 := Int.emod_nonneg _ (by decide)
    have b1 : c % 15 < 15 := Int.emod_lt_of_pos _ (by decide)
    unfold rowS at q
    walk_at "rd"
    generalize c % 15 = mm at *
    refine ⟨mm, rfl, by omega, by omega, ?_⟩
    refine lc_gen (walk_range0 (n := mm.toNat)) (fun _ => true) (fun i v _ => v = .int (readM (cellM ns (fi + (i : Int))))) (by omega) trivial (fun _ _ _ _ => trivial)
      (fun _ _ _ _ _ h => h) (fun _ _ _ _ _ _ _ h => h) (fun i hi H1 s1 _ x H' y => ?_) (fun D ys H1 hD s1 h1 M => ?_)
    · obtain ⟨rfl, rfl⟩ := y
      refine ⟨Same.refl _, fun R S hy _ => ?_⟩
      walk_at "rd"
      refine ⟨rfl, ?_⟩
      walk_at "rd"
      refine ⟨a, ns, _, rfl, s1.seq ha, by omega, ?_⟩
      walk_at "rd"
      refine ⟨_, rfl, fun H2 s2 => ?_⟩
      exact hy rfl _ _ s2 rfl
    · have e := M.ints
      rw [pickN_all] at e
      walk_at "rd"
      rw [e] at h1
      refine ⟨D, _, rfl, SqL.of h1, fun zs p hp hs hnew => ?_⟩
      obtain rfl := srt_of hp hs
      exact q p _ (s1.free hnew) (s1.trans (Same.new hnew)) upd_same
theorem ok_l_some (D : DefAt K mg "_law_some" S_l_some ["_law_row_here", "_law_cell_here"]) (m_enumerate : mg "enumerate" = none) (c_l_mixed : Cal P w K mg base CX0 1 "_law_mixed" ["_law_cell_here", "_law_k"] sp_l_mixed) : Cal P w K mg base CX0 2 "_law_some" ["_law_row_here", "_law_cell_here"] sp_l_some := by
  obtain ⟨f, fd, F, m, b⟩ := D.ex
  obtain ⟨f_l_mixed, fd_l_mixed, G_l_mixed, m_l_mixed, k_l_mixed, b_l_mixed⟩ := c_l_mixed
  refine ⟨f, fd, F.ok sc_l_some (fun vs H Q E h => ?_) (fun cdv A outer s H vs Q E hr h => ?_), m, F.kp, b⟩
  · obtain ⟨a, row, c, rfl, _⟩ := h
    rfl
  · obtain ⟨a, row, c, rfl, ha, hl, q⟩ := h
    refine ⟨_, (pss_cons (ps_set (i := 2) sc_l_some.nd rfl (Or.inl rfl) (pe_lst pa_nil))
      (pss_cons (ps_for PassesOwn.never rfl (pi_enum rfl m_enumerate (pa_cons (pv 0) pa_nil)) (pg_tup rfl (pgs_cons (pg_name (i := 3) sc_l_some.nd rfl (Or.inl rfl)) (pgs_cons (pg_name (i := 4) sc_l_some.nd rfl (Or.inl rfl)) pgs_nil))) (pss_cons (ps_set (i := 5) sc_l_some.nd rfl (Or.inl rfl) (pe_call G_l_mixed (hr.mono (by decide)) rfl m_l_mixed k_l_mixed b_l_mixed .nil pass0 (pa_cons (pv 1) (pa_cons (pv 3) pa_nil))))
      (pss_one (ps_if (pt_cmpR op_gt (pe_op op_mod (pv 5) pe_int) pe_int (nomark _)) (pss_one (ps_expr (pe_bm PySem.F.plainAttrs_list PySem.F.slot_list_append PySem.F.type_list_append mt_append (pv 2) (pa_cons (pe_tup (pa_cons (pv 4) (pa_cons (pe_op op_sub (pv 3) (pe_op op_mod (pe_op op_fdiv (pv 5) pe_int) pe_int)) (pa_cons (pe_op op_add (pv 3) (pe_op op_mod (pe_op op_fdiv (pv 5) pe_int) pe_int)) pa_nil)))) pa_nil)))) pss_nil))))
      (pss_one (ps_ret (pv 2))))), ?_⟩
    walk_at "rd"
    refine ⟨by show 0 ≤ sizeLine; decide, fun p hp => ?_⟩
    walk_at "rd"
    refine ⟨a, _, rfl, SqL.of ((Same.new hp) _ _ ha), ?_⟩
    refine for_go (walk_enum (xs := row.map V.int)) (fun i σ H' => Same H H' ∧ (∃ ys, H' p = some (.lst ys) ∧ EntsV H' ys (someE c 0 (row.take i))) ∧ ∃ v3 v4 v5, σ = [some (.ref a), some (.int c), some (.ref p), v3, v4, v5])
      ⟨Same.new hp, ⟨[], upd_same, EntsV.nil⟩, none, none, none, rfl⟩ (fun i σ H' _ z => SqL.of (z.1 _ _ ha)) (fun i x σ H1 H2 hi z y => ?_) (fun σ H1 z => ?_)
    · obtain ⟨s1, ⟨ys, hy, Y⟩, v3, v4, v5, rfl⟩ := z
      obtain ⟨T, x1, x2, rfl, hT, rfl, e1, e2⟩ := y
      cases e1
      rw [List.length_map] at hi
      dsimp only at e2
      rw [List.getElem?_map, List.getElem?_eq_getElem hi] at e2
      cases e2
      have hyT : (upd H1 T (.tup [.int (i : Int), .int row[i]])) p = some (.lst ys) := by rw [upd_ne (ne_of_none hy hT)]; exact hy
      have htk : someE c 0 (row.take (i + 1)) = someE c 0 (row.take i) ++ (if 0 < mixM c (i : Int) % 3 then [(row[i], (i : Int) - mixM c (i : Int) / 3 % 4, (i : Int) + mixM c (i : Int) / 12 % 4)] else []) := by
        rw [List.take_succ_eq_append_getElem hi, someE_append]
        congr 1
        rw [List.length_take, show 0 + min i row.length = i by omega]
        simp [someE]
      have hyl : ys.length ≤ 1000 := by
        rw [Y.1]
        have := someE_length c (row.take i) 0
        rw [List.length_take] at this
        omega
      generalize row[i] = r at *
      have m0 := mixM_lo c (i : Int)
      walk_at "rd"
      refine ⟨T, _, rfl, SqT.of' upd_same, rfl, ?_⟩
      walk_at "rd"
      refine ⟨c, (i : Int), rfl, ⟨by omega, by omega⟩, ?_⟩
      walk_at "rd"
      generalize mixM c (i : Int) = lft at *
      walk_at "rd"
      refine if_d (fun cc => ?_) (fun cc => ?_)
      · rw [if_pos cc] at htk
        walk_at "rd"
        refine ⟨ty_lst hyT, ?_⟩
        walk_at "rd"
        refine ⟨by show 3 ≤ sizeLine; decide, fun u hu => ?_⟩
        have nu : p ≠ u := ne_of_none hyT hu
        walk_at "rd"
        refine ⟨p, ys, _, rfl, rfl, by rw [upd_ne nu]; exact hyT, by rw [sizeLine_eq]; omega, ?_⟩
        refine ⟨Same.mut ((s1.trans (Same.new hT)).trans (Same.new hu)) hp, ⟨_, upd_same, ?_⟩, _, _, _, rfl⟩
        rw [htk]
        refine EntsV.imm (H := upd (upd H1 T (.tup [.int (i : Int), .int r])) u (.tup [.int r, .int ((i : Int) - lft / 3 % 4), .int ((i : Int) + lft / 12 % 4)])) ?_ fun b cs hb => ?_
        · exact EntsV.snoc ((Y.same (Same.new hT)).same (Same.new hu)) upd_same
        · rw [upd_ne (ne_of hb (by rw [upd_ne nu]; exact hyT) (by intro z; cases z))]
          exact hb
      · rw [if_neg cc, List.append_nil] at htk
        walk_at "rd"
        refine ⟨s1.trans (Same.new hT), ⟨ys, hyT, ?_⟩, _, _, _, rfl⟩
        rw [htk]
        exact Y.same (Same.new hT)
    · obtain ⟨s1, ⟨ys, hy, Y⟩, v3, v4, v5, rfl⟩ := z
      rw [List.length_map, List.take_length] at Y
      walk_at "rd"
      exact q p H1 hp s1 ⟨ys, hy, Y⟩
theorem ok_l_counted (D : DefAt K mg "_law_counted" S_l_counted ["_law_entry", "_law_others", "_law_more"]) : Cal P w K mg base CX0 1 "_law_counted" ["_law_entry", "_law_others", "_law_more"] sp_l_counted := by
  obtain ⟨f, fd, F, m, b⟩ := D.ex
  refine ⟨f, fd, F.ok sc_l_counted (fun vs H Q E h => ?_) (fun cdv A outer s H vs Q E hr h => ?_), m, F.kp, b⟩
  · obtain ⟨t, c, e, os, more, rfl, _⟩ := h
    rfl
  · obtain ⟨t, c, e, os, more, rfl, ht, ⟨xs, hc, hx⟩, hs, hl, q⟩ := h
    refine ⟨_, (pss_cons (ps_asg (pv 0) (pg_tup rfl (pgs_cons (pg_name (i := 3) sc_l_counted.nd rfl (Or.inr rfl)) (pgs_cons (pg_name (i := 4) sc_l_counted.nd rfl (Or.inl rfl)) (pgs_cons (pg_name (i := 5) sc_l_counted.nd rfl (Or.inl rfl)) pgs_nil)))))
      (pss_cons (ps_setLc (i := 6) (own := [("_law_one", 7)]) (g := (gName 7)) rfl sc_l_counted.nd rfl rfl (sw_true rfl rfl rfl (by decide +kernel)) (pi_list (pv 1)) (blkOk_by (N := ["_law_entry", "_law_others", "_law_more", "_law_reading_here", "_law_least", "_law_most", "_law_last", "_law_one", "_law_first"]) (sc := defScope S_l_counted) (by decide +kernel)) (fun _ _ _ _ _ => by exact (pg_name (i := 7) sc_l_counted.nd rfl (Or.inl rfl))) (fun _ _ _ _ _ => by exact (pts_one (pt_cmpR op_le (pe_ix (ixT (K := K) rfl) (pv 7) pe_int (fun _ _ => rfl)) (pv 3) (nomark _)))) (fun _ _ _ _ _ => by exact (pv 7)))
      (pss_cons (ps_setLc (i := 8) (own := [("_law_one", 7)]) (g := (gName 7)) rfl sc_l_counted.nd rfl rfl (sw_true rfl rfl rfl (by decide +kernel)) (pi_list (pv 1)) (blkOk_by (N := ["_law_entry", "_law_others", "_law_more", "_law_reading_here", "_law_least", "_law_most", "_law_last", "_law_one", "_law_first"]) (sc := defScope S_l_counted) (by decide +kernel)) (fun _ _ _ _ _ => by exact (pg_name (i := 7) sc_l_counted.nd rfl (Or.inl rfl))) (fun _ _ _ _ _ => by exact (pts_one (pt_cmpR op_ge (pe_ix (ixT (K := K) rfl) (pv 7) pe_int (fun _ _ => rfl)) (pv 3) (nomark _)))) (fun _ _ _ _ _ => by exact (pv 7)))
      (pss_cons (ps_if (pt_truth (pv 6) (by intro _; rfl)) (pss_one (ps_set (i := 4) sc_l_counted.nd rfl (Or.inl rfl) (pe_op op_add (pe_op op_add (pv 4) (pe_ix (ixT (K := K) rfl) (pe_ix (ixL (K := K) rfl) (pv 6) (pe_un un_neg pe_int) (fun _ _ => rfl)) pe_int (fun _ _ => rfl))) pe_int))) pss_nil)
      (pss_cons (ps_if (pt_truth (pv 8) (by intro _; rfl)) (pss_one (ps_ret (pe_tup (pa_cons (pv 3) (pa_cons (pv 4) (pa_cons (pe_op op_add (pv 5) (pe_ix (ixT (K := K) rfl) (pe_ix (ixL (K := K) rfl) (pv 8) pe_int (fun _ _ => rfl)) pe_int (fun _ _ => rfl))) pa_nil)))))) pss_nil)
      (pss_one (ps_ret (pe_tup (pa_cons (pv 3) (pa_cons (pv 4) (pa_cons (pe_op op_add (pv 5) (pv 2)) pa_nil))))))))))), ?_⟩
    walk_at "rd"
    refine ⟨t, _, rfl, SqT.of' ht, rfl, ?_⟩
    walk_at "rd"
    refine ⟨c, rfl, ⟨xs, SqL.of hc⟩, ?_⟩
    refine lc_gen (walk_list (xs := xs)) (fun i => decide (i < upTo os e.1)) (fun i v _ => v = xs.getD i .non) (by rw [hx.1]; omega) (SqL.of hc) (fun H H' s h => s.seq h)
      (fun _ _ _ _ _ h => h) (fun _ _ _ _ _ _ _ h => h) (fun i hi H1 s1 _ x H' y => ?_) (fun p1 ys H1 hp1 s1 h1 M => ?_)
    · obtain ⟨rfl, ex⟩ := y
      rw [hx.1] at hi
      obtain ⟨u, u1, u2⟩ := vals_at hx hi
      have e1 : x = .ref u := by
        rw [List.getD_eq_getElem?_getD, ex] at u1
        exact u1
      subst e1
      refine ⟨Same.refl _, fun R S hy hn => ?_⟩
      walk_at "rd"
      refine ⟨rfl, ?_⟩
      walk_at "rd"
      refine ⟨u, _, _, _, rfl, rfl, SqT.of' (s1 _ _ u2), at_of (j := 0) rfl rfl, ?_⟩
      have key := upTo_at hs (r := e.1) (List.getElem?_eq_getElem hi)
      walk_at "rd"
      refine if_d (fun c1 => ?_) (fun c1 => ?_)
      · walk_at "rd"
        exact hy (decide_eq_true (key.mp c1)) _ _ (Same.refl _) u1.symm
      · exact hn (decide_eq_false fun z => c1 (key.mpr z)) _ (Same.refl _)
    have e1 := M.vals
    rw [hx.1, pickN_lt (upTo_le os e.1)] at e1
    have hc1 := s1 _ _ hc
    have hx1 := hx.same s1
    walk_at "rd"
    refine ⟨c, rfl, ⟨xs, SqL.of hc1⟩, ?_⟩
    refine lc_gen (walk_list (xs := xs)) (fun i => decide (upTo os (e.1 - 1) ≤ i)) (fun i v _ => v = xs.getD i .non) (by rw [hx.1]; omega) (SqL.of hc1) (fun H H' s h => s.seq h)
      (fun _ _ _ _ _ h => h) (fun _ _ _ _ _ _ _ h => h) (fun i hi H2 s2 _ x H' y => ?_) (fun p2 zs H2 hp2 s2 h2 M2 => ?_)
    · obtain ⟨rfl, ex⟩ := y
      rw [hx.1] at hi
      obtain ⟨u, u1, u2⟩ := vals_at hx1 hi
      have e2 : x = .ref u := by
        rw [List.getD_eq_getElem?_getD, ex] at u1
        exact u1
      subst e2
      refine ⟨Same.refl _, fun R S hy hn => ?_⟩
      walk_at "rd"
      refine ⟨rfl, ?_⟩
      walk_at "rd"
      refine ⟨u, _, _, _, rfl, rfl, SqT.of' (s2 _ _ u2), at_of (j := 0) rfl rfl, ?_⟩
      have key := upTo_at hs (r := e.1 - 1) (List.getElem?_eq_getElem hi)
      walk_at "rd"
      refine if_d (fun c1 => ?_) (fun c1 => ?_)
      · walk_at "rd"
        refine hy (decide_eq_true ?_) _ _ (Same.refl _) u1.symm
        have : ¬ i < upTo os (e.1 - 1) := fun z => by have := key.mpr z; omega
        omega
      · refine hn (decide_eq_false fun z => ?_) _ (Same.refl _)
        have := key.mp (by omega)
        omega
    have e2 := M2.vals
    rw [hx.1, pickN_ge (upTo_le os (e.1 - 1))] at e2
    have h12 := s2 _ _ h1
    have s02 := s1.trans s2
    have ul := upTo_le os e.1
    have um := upTo_le os (e.1 - 1)
    unfold moveE leastOf mostOf at q
    -- the greater ones, the same on either way
    have fin : ∀ lst : Int, lst = e.2.1 + (if upTo os e.1 = 0 then 0 else (os.getD (upTo os e.1 - 1) (0, 0, 0)).2.1 + 1) → ∀ H3, Same H2 H3 →
        (if (!zs.isEmpty) = true then ∀ t, zs[0]? = some (.ref t) → ∃ e0, H3 t = some (tri e0) ∧ ∀ p, H3 p = none → Q (.ref p) (upd H3 p (.tup [.int e.1, .int lst, .int (e.2.2 + e0.2.2)])) else ∀ p, H3 p = none → Q (.ref p) (upd H3 p (.tup [.int e.1, .int lst, .int (e.2.2 + more)]))) := by
      intro lst el H3 s3
      have s03 := s02.trans s3
      by_cases cu : upTo os (e.1 - 1) = os.length
      · have z0 : zs = [] := by rw [e2, cu]; simp
        rw [if_pos cu] at q
        rw [z0]
        show ∀ p, _
        intro p hp
        refine q p _ (s03.free hp) (s03.trans (Same.new hp)) ?_
        rw [upd_same, el]
        rfl
      · rw [if_neg cu] at q
        have hlt : upTo os (e.1 - 1) < os.length := by omega
        have z0 : zs[0]? = some (xs.getD (upTo os (e.1 - 1)) .non) := by
          rw [e2, List.getElem?_map, List.getElem?_range' (by omega)]
          simp
        have zne : (!zs.isEmpty) = true := by
          cases zs with
          | nil => simp at z0
          | cons _ _ => rfl
        rw [if_pos zne]
        intro t hz
        obtain ⟨u, u1, u2⟩ := vals_at hx hlt
        rw [z0, u1] at hz
        cases hz
        refine ⟨_, s03 _ _ u2, fun p hp => ?_⟩
        refine q p _ (s03.free hp) (s03.trans (Same.new hp)) ?_
        rw [upd_same, el, List.getD_eq_getElem?_getD (l := os) (i := upTo os (e.1 - 1)), List.getElem?_eq_getElem hlt]
        rfl
    walk_at "rd"
    refine ⟨!ys.isEmpty, .inl ⟨ys, SqL.of h12, rfl⟩, ?_⟩
    refine if_b (fun cy => ?_) (fun cy => ?_)
    · have u0 : upTo os e.1 ≠ 0 := by
        intro z
        rw [e1, z] at cy
        simp at cy
      obtain ⟨u, u1, u2⟩ := vals_at hx (i := upTo os e.1 - 1) (by omega)
      have hlast : ys[ys.length - 1]? = some (.ref u) := by
        rw [e1, List.length_map, List.length_range, List.getElem?_map, List.getElem?_range (by omega)]
        simp only [Option.map_some]
        rw [u1]
      walk_at "rd"
      refine ⟨p1, ys, _, _, rfl, rfl, SqL.of h12, atI_back hlast, ?_⟩
      walk_at "rd"
      refine ⟨u, _, _, _, rfl, rfl, SqT.of' (s02 _ _ u2), at_of (j := 1) rfl rfl, ?_⟩
      walk_at "rd"
      refine ⟨!zs.isEmpty, .inl ⟨zs, SqL.of h2, rfl⟩, ?_⟩
      have fin' := fin (e.2.1 + os[upTo os e.1 - 1].2.1 + 1) (by rw [if_neg u0, List.getD_eq_getElem?_getD, List.getElem?_eq_getElem (by omega)]; simp only [Option.getD_some]; omega) _ (Same.refl _)
      refine if_b (fun cz => ?_) (fun cz => ?_)
      · rw [if_pos cz] at fin'
        have z0 : ∃ t, zs[0]? = some (.ref t) := by
          have hne : upTo os (e.1 - 1) < os.length := by
            by_cases cu : upTo os (e.1 - 1) = os.length
            · rw [e2, cu] at cz
              simp at cz
            · omega
          obtain ⟨t, t1, _⟩ := vals_at hx hne
          exact ⟨t, by rw [e2, List.getElem?_map, List.getElem?_range' (by omega)]; simp only [Option.map_some, Nat.mul_zero, Nat.add_zero]; rw [t1]⟩
        obtain ⟨t, z0⟩ := z0
        obtain ⟨e0, g1, g2⟩ := fin' t z0
        walk_at "rd"
        refine ⟨p2, zs, _, _, rfl, rfl, SqL.of h2, at_of (j := 0) rfl z0, ?_⟩
        walk_at "rd"
        refine ⟨t, _, _, _, rfl, rfl, SqT.of' g1, at_of (j := 2) rfl rfl, ?_⟩
        walk_at "rd"
        exact ⟨by show 3 ≤ sizeLine; decide, g2⟩
      · rw [cz] at fin'
        walk_at "rd"
        exact ⟨by show 3 ≤ sizeLine; decide, fin'⟩
    · have u0 : upTo os e.1 = 0 := by
        by_cases z : upTo os e.1 = 0
        · exact z
        · exfalso
          rw [e1] at cy
          have : ((List.range (upTo os e.1)).map fun i => xs.getD i .non).length = 0 := by
            cases hh : (List.range (upTo os e.1)).map fun i => xs.getD i .non with
            | nil => rfl
            | cons _ _ => rw [hh] at cy; simp at cy
          rw [List.length_map, List.length_range] at this
          exact z this
      walk_at "rd"
      refine ⟨!zs.isEmpty, .inl ⟨zs, SqL.of h2, rfl⟩, ?_⟩
      have fin' := fin e.2.1 (by rw [if_pos u0]; omega) _ (Same.refl _)
      refine if_b (fun cz => ?_) (fun cz => ?_)
      · rw [if_pos cz] at fin'
        have z0 : ∃ t, zs[0]? = some (.ref t) := by
          have hne : upTo os (e.1 - 1) < os.length := by
            by_cases cu : upTo os (e.1 - 1) = os.length
            · rw [e2, cu] at cz
              simp at cz
            · omega
          obtain ⟨t, t1, _⟩ := vals_at hx hne
          exact ⟨t, by rw [e2, List.getElem?_map, List.getElem?_range' (by omega)]; simp only [Option.map_some, Nat.mul_zero, Nat.add_zero]; rw [t1]⟩
        obtain ⟨t, z0⟩ := z0
        obtain ⟨e0, g1, g2⟩ := fin' t z0
        walk_at "rd"
        refine ⟨p2, zs, _, _, rfl, rfl, SqL.of h2, at_of (j := 0) rfl z0, ?_⟩
        walk_at "rd"
        refine ⟨t, _, _, _, rfl, rfl, SqT.of' g1, at_of (j := 2) rfl rfl, ?_⟩
        walk_at "rd"
        exact ⟨by show 3 ≤ sizeLine; decide, g2⟩
      · rw [cz] at fin'
        walk_at "rd"
        exact ⟨by show 3 ≤ sizeLine; decide, fin'⟩
theorem ok_l_due (D : DefAt K mg "_law_due" S_l_due ["_law_ones", "_law_many", "_law_others", "_law_more"]) (m_len : mg "len" = none) (c_l_counted : Cal P w K mg base CX0 1 "_law_counted" ["_law_entry", "_law_others", "_law_more"] sp_l_counted) : Cal P w K mg base CX0 2 "_law_due" ["_law_ones", "_law_many", "_law_others", "_law_more"] sp_l_due := by
  obtain ⟨f, fd, F, m, b⟩ := D.ex
  obtain ⟨f_l_counted, fd_l_counted, G_l_counted, m_l_counted, k_l_counted, b_l_counted⟩ := c_l_counted
  refine ⟨f, fd, F.ok sc_l_due (fun vs H Q E h => ?_) (fun cdv A outer s H vs Q E hr h => ?_), m, F.kp, b⟩
  · obtain ⟨a, c, es, os, many, more, rfl, _⟩ := h
    rfl
  · obtain ⟨a, c, es, os, many, more, rfl, ⟨xs, ha, hx⟩, ⟨ws, hc, hw⟩, sA, sO, lA, lO, q⟩ := h
    have hA : Ents H a es := ⟨xs, ha, hx⟩
    have hO : Ents H c os := ⟨ws, hc, hw⟩
    refine ⟨_, (pss_cons (ps_setLc (i := 4) (own := [("_law_one", 5)]) (g := (gName 5)) (tt := tYes) rfl sc_l_due.nd rfl rfl (sw_true rfl rfl rfl (by decide +kernel)) (pi_list (pv 0)) (blkOk_by (N := ["_law_ones", "_law_many", "_law_others", "_law_more", "_law_found", "_law_one", "_law_other", "_law_at"]) (sc := defScope S_l_due) (by decide +kernel)) (fun _ _ _ _ _ => by exact (pg_name (i := 5) sc_l_due.nd rfl (Or.inl rfl))) (fun _ _ _ _ _ => by exact pts_nil) (fun _ _ _ _ _ => by exact (pe_call G_l_counted (hr.mono (by decide)) rfl m_l_counted k_l_counted b_l_counted .nil pass0 (pa_cons (pv 5) (pa_cons (pv 2) (pa_cons (pv 3) pa_nil))))))
      (pss_cons (ps_for PassesOwn.never rfl (pi_list (pv 2)) (pg_name (i := 6) sc_l_due.nd rfl (Or.inr rfl)) (pss_cons (ps_set (i := 7) sc_l_due.nd rfl (Or.inl rfl) (pe_callB call_len_seq rfl m_len (by decide +kernel) (pa_cons (pe_lc (own := [("_law_one", 5)]) (g := (gName 5)) rfl sc_l_due.nd (pi_list (pv 4)) (blkOk_by (N := ["_law_ones", "_law_many", "_law_others", "_law_more", "_law_found", "_law_one", "_law_other", "_law_at"]) (sc := defScope S_l_due) (by decide +kernel)) (fun _ _ _ _ _ => by exact (pg_name (i := 5) sc_l_due.nd rfl (Or.inl rfl))) (fun _ _ _ _ _ => by exact (pts_one (pt_cmpR op_le (pe_ix (ixT (K := K) rfl) (pv 5) pe_int (fun _ _ => rfl)) (pe_ix (ixT (K := K) rfl) (pv 6) pe_int (fun _ _ => rfl)) (nomark _)))) (fun _ _ _ _ _ => by exact (pv 5))) pa_nil)))
      (pss_one (ps_expr (pe_bm PySem.F.plainAttrs_list PySem.F.slot_list_insert PySem.F.type_list_insert mt_insert (pv 4) (pa_cons (pv 7) (pa_cons (pe_call G_l_counted (hr.mono (by decide)) rfl m_l_counted k_l_counted b_l_counted .nil pass0 (pa_cons (pv 6) (pa_cons (pv 0) (pa_cons (pv 1) pa_nil)))) pa_nil)))))))
      (pss_one (ps_ret (pv 4))))), ?_⟩
    walk_at "rd"
    refine ⟨a, rfl, ⟨xs, SqL.of ha⟩, ?_⟩
    refine lc_gen (walk_list (xs := xs)) (fun _ => true) (PTri fun i => moveE os more (es.getD i (0, 0, 0))) (by rw [hx.1]; omega) (SqL.of ha) (fun H H' s h => s.seq h)
      PTri.same PTri.lst (fun i hi H1 s1 _ x H' y => ?_) (fun p ys H1 hp s1 h1 M => ?_)
    · obtain ⟨rfl, ex⟩ := y
      rw [hx.1] at hi
      obtain ⟨u, u1, u2⟩ := hx.2 i es[i] (List.getElem?_eq_getElem hi)
      rw [ex] at u1
      cases u1
      refine ⟨Same.refl _, fun R S hy _ => ?_⟩
      walk_at "rd"
      refine ⟨rfl, ?_⟩
      walk_at "rd"
      refine ⟨u, c, _, os, more, rfl, s1 _ _ u2, hO.same s1, sO, lO, fun p H2 hp s2 h2 => hy rfl _ _ s2 ⟨p, rfl, ?_⟩⟩
      dsimp only
      rw [List.getD_eq_getElem?_getD, List.getElem?_eq_getElem hi]
      exact h2
    have E1 := M.tris
    have em : (pickN xs.length (fun _ => true)).map (fun i => moveE os more (es.getD i (0, 0, 0))) = movedM es os more := by
      rw [pickN_all, hx.1]
      unfold movedM
      apply List.ext_getElem?
      intro i
      rw [List.getElem?_map, List.getElem?_map]
      by_cases hi : i < es.length
      · rw [List.getElem?_range hi, List.getElem?_eq_getElem hi]
        simp only [Option.map_some]
        rw [List.getD_eq_getElem?_getD, List.getElem?_eq_getElem hi]
        rfl
      · rw [List.getElem?_eq_none (by simp; omega), List.getElem?_eq_none (by omega)]
        rfl
    rw [em] at E1
    walk_at "rd"
    refine ⟨c, rfl, ⟨ws, SqL.of (s1 _ _ hc)⟩, ?_⟩
    refine for_go (walk_list (xs := ws)) (fun i σ H' => Same H H' ∧ (∃ zs, H' p = some (.lst zs) ∧ EntsV H' zs ((movedM (os.take i) es many).foldl insE (movedM es os more))) ∧ ∃ v5 v6 v7, σ = [some (.ref a), some (.int many), some (.ref c), some (.int more), some (.ref p), v5, v6, v7])
      ⟨s1, ⟨ys, h1, E1⟩, none, none, none, rfl⟩ (fun i σ H' _ z => SqL.of (z.1 _ _ hc)) (fun i x σ H2 H3 hi z y => ?_) (fun σ H2 z => ?_)
    · obtain ⟨s2, ⟨zs, hz, Z⟩, v5, v6, v7, rfl⟩ := z
      obtain ⟨rfl, ex⟩ := y
      rw [hw.1] at hi
      obtain ⟨u, u1, u2⟩ := hw.2 i os[i] (List.getElem?_eq_getElem hi)
      rw [ex] at u1
      cases u1
      have hfold : (movedM (os.take (i + 1)) es many).foldl insE (movedM es os more) = insE ((movedM (os.take i) es many).foldl insE (movedM es os more)) (moveE es many os[i]) := by
        rw [List.take_succ_eq_append_getElem hi]
        unfold movedM
        rw [List.map_append, List.foldl_append]
        rfl
      have hll : ((movedM (os.take i) es many).foldl insE (movedM es os more)).length ≤ 3000 := by
        have key : ∀ (l : List RB.E) (m : List RB.E), (l.foldl insE m).length = m.length + l.length := by
          intro l
          induction l with
          | nil => intro m; simp
          | cons y l ih =>
            intro m
            rw [List.foldl_cons, ih, insE_length, List.length_cons]
            omega
        rw [key]
        unfold movedM
        rw [List.length_map, List.length_map, List.length_take]
        omega
      have ereg : (moveE es many os[i]).1 = os[i].1 := rfl
      generalize hL : (movedM (os.take i) es many).foldl insE (movedM es os more) = L at *
      generalize os[i] = o at *
      walk_at "rd"
      refine ⟨p, rfl, ⟨zs, SqL.of hz⟩, ?_⟩
      refine lc_gen (walk_list (xs := zs)) (fun i => decide ((L.getD i (0, 0, 0)).1 ≤ o.1)) (fun i v _ => v = zs.getD i .non) (by rw [Z.1]; omega) (SqL.of hz) (fun H H' s h => s.seq h)
        (fun _ _ _ _ _ h => h) (fun _ _ _ _ _ _ _ h => h) (fun j hj H4 s4 _ x H' y => ?_) (fun p2 us H4 hp2 s4 h4 M2 => ?_)
      · obtain ⟨rfl, ex2⟩ := y
        rw [Z.1] at hj
        obtain ⟨t, t1, t2⟩ := vals_at Z hj
        have e2 : x = .ref t := by
          rw [List.getD_eq_getElem?_getD, ex2] at t1
          exact t1
        subst e2
        have eg : L.getD j (0, 0, 0) = L[j] := by rw [List.getD_eq_getElem?_getD, List.getElem?_eq_getElem hj]; rfl
        refine ⟨Same.refl _, fun R S hy hn => ?_⟩
        walk_at "rd"
        refine ⟨rfl, ?_⟩
        walk_at "rd"
        refine ⟨t, _, _, _, rfl, rfl, SqT.of' (s4 _ _ t2), at_of (j := 0) rfl rfl, ?_⟩
        have u3 := s4 _ _ (s2 _ _ u2)
        walk_at "rd"
        refine ⟨u, _, _, _, rfl, rfl, SqT.of' u3, at_of (j := 0) rfl rfl, ?_⟩
        walk_at "rd"
        refine if_d (fun c1 => ?_) (fun c1 => ?_)
        · walk_at "rd"
          exact hy (decide_eq_true (by rw [eg]; exact c1)) _ _ (Same.refl _) t1.symm
        · exact hn (decide_eq_false fun z => c1 (by rw [eg] at z; exact z)) _ (Same.refl _)
      have ul : us.length = upTo L o.1 := by rw [M2.len, Z.1, upTo_pick]
      have hz4 := s4 _ _ hz
      have s24 := s2.trans s4
      walk_at "rd"
      refine ⟨p2, us, rfl, .inl (SqL.of h4), ?_⟩
      walk_at "rd"
      refine ⟨ty_lst hz4, ?_⟩
      walk_at "rd"
      refine ⟨u, a, o, es, many, rfl, s24 _ _ u2, hA.same s24, sA, lA, fun t H5 ht s5 h5 => ?_⟩
      have hz5 := s5 _ _ hz4
      have ule := upTo_le L o.1
      refine ⟨p, zs, _, _, rfl, rfl, hz5, by rw [Z.1, sizeLine_eq]; omega, by omega, by rw [ul]; omega, ?_⟩
      have hzl : zs.length = L.length := Z.1
      refine ⟨Same.mut (s24.trans s5) hp, ⟨_, upd_same, ?_⟩, _, _, _, rfl⟩
      rw [hfold]
      unfold insE
      rw [ereg]
      have eu : ((us.length : Int)).toNat = upTo L o.1 := by rw [ul]; rfl
      rw [eu]
      refine EntsV.imm (H := H5) (((Z.same s4).same s5).ins h5 ule) fun b cs hb => ?_
      rw [upd_ne (ne_of hb hz5 (by intro z; cases z))]
      exact hb
    · obtain ⟨s2, ⟨zs, hz, Z⟩, v5, v6, v7, rfl⟩ := z
      rw [hw.1, List.take_length, due_join sA] at Z
      walk_at "rd"
      exact q p H2 hp s2 ⟨zs, hz, Z⟩
theorem ok_l_like (D : DefAt K mg "_law_like" S_l_like ["_law_found", "_law_due_here"]) (m_isinstance : mg "isinstance" = none) (m_list : mg "list" = none) (m_tuple : mg "tuple" = none) (m_len : mg "len" = none) (m_zip : mg "zip" = none) (m_all : mg "all" = none)
    (c_l_whole : Cal P w K mg base CX0 1 "_law_whole" ["_law_found", "_law_due_here"] sp_l_whole) : Cal P w K mg base CX0 2 "_law_like" ["_law_found", "_law_due_here"] sp_l_like := by
  obtain ⟨f, fd, F, m, b⟩ := D.ex
  obtain ⟨f_l_whole, fd_l_whole, G_l_whole, m_l_whole, k_l_whole, b_l_whole⟩ := c_l_whole
  refine ⟨f, fd, F.ok sc_l_like (fun vs H Q E h => ?_) (fun cdv A outer s H vs Q E hr h => ?_), m, F.kp, b⟩
  · obtain ⟨a, c, es, rfl, _⟩ := h
    rfl
  · obtain ⟨a, c, es, rfl, ⟨xs, ha, hx⟩, ⟨ys, hc, hy⟩, hl, q⟩ := h
    refine ⟨_, (pss_cons (ps_if (PW.pt (pw_or (pt_not (pt_val (pe_callB call_isi rfl m_isinstance (by decide +kernel) (pa_cons (pv 0) (pa_cons (pe_bltn (v := .ty "list") rfl m_list (by decide +kernel) rfl) pa_nil))))) (pw_or1 (pt_cmpR op_ne (pe_callB call_len_seq rfl m_len (by decide +kernel) (pa_cons (pv 0) pa_nil)) (pe_callB call_len_seq rfl m_len (by decide +kernel) (pa_cons (pv 1) pa_nil)) (nomark _))))) (pss_one (ps_ret pe_bl)) pss_nil)
      (pss_cons (ps_for PassesOwn.never rfl (pi_zip rfl m_zip (pa_cons (pv 0) (pa_cons (pv 1) pa_nil))) (pg_tup rfl (pgs_cons (pg_name (i := 2) sc_l_like.nd rfl (Or.inl rfl)) (pgs_cons (pg_name (i := 3) sc_l_like.nd rfl (Or.inl rfl)) pgs_nil))) (pss_cons (ps_if (PW.pt (pw_or (pt_not (pt_val (pe_callB call_isi rfl m_isinstance (by decide +kernel) (pa_cons (pv 2) (pa_cons (pe_bltn (v := .ty "tuple") rfl m_tuple (by decide +kernel) rfl) pa_nil))))) (pw_or1 (pt_cmpR op_ne (pe_callB call_len_seq rfl m_len (by decide +kernel) (pa_cons (pv 2) pa_nil)) pe_int (nomark _))))) (pss_one (ps_ret pe_bl)) pss_nil)
      (pss_one (ps_if (pt_not (pt_val (pe_callB (cr_all rfl) rfl m_all (by decide +kernel) (pa_cons (pe_lc (own := [("_law_number", 4), ("_law_wanted", 5)]) (g := (gTup K 2 (gCons (gName 4) (gCons (gName 5) gNil)))) (tt := tYes) rfl sc_l_like.nd (RZ.pi_zipA rfl m_zip (pa_cons (pv 2) (pa_cons (pv 3) pa_nil))) (blkOk_by (N := ["_law_found", "_law_due_here", "_law_one", "_law_other", "_law_number", "_law_wanted"]) (sc := defScope S_l_like) (by decide +kernel)) (fun _ _ _ _ _ => by exact (pg_tup rfl (pgs_cons (pg_name (i := 4) sc_l_like.nd rfl (Or.inl rfl)) (pgs_cons (pg_name (i := 5) sc_l_like.nd rfl (Or.inl rfl)) pgs_nil)))) (fun _ _ _ _ _ => by exact pts_nil) (fun _ _ _ _ _ => by exact (pe_call G_l_whole (hr.mono (by decide)) rfl m_l_whole k_l_whole b_l_whole .nil pass0 (pa_cons (pv 4) (pa_cons (pv 5) pa_nil))))) pa_nil)))) (pss_one (ps_ret pe_bl)) pss_nil))))
      (pss_one (ps_ret pe_bl)))), ?_⟩
    walk_at "rd"
    refine r_isi (.base (.lst ha)) kit_list_list ?_
    walk_at "rd"
    refine ⟨a, xs, rfl, .inl (SqL.of ha), ?_⟩
    walk_at "rd"
    refine ⟨c, ys, rfl, .inl (SqL.of hc), ?_⟩
    walk_at "rd"
    refine if_nd (fun z => absurd (by rw [hx.1, hy.1]) z) (fun _ => ?_)
    walk_at "rd"
    refine ⟨a, c, xs, ys, rfl, SqL.of ha, SqL.of hc, ?_⟩
    refine for_go (walk_zip (xs := xs) (ys := ys) (n := es.length) (by rw [hx.1, hy.1]; omega)) (fun i σ H' => Same H H' ∧ ∃ v2 v3, σ = [some (.ref a), some (.ref c), v2, v3, none, none]) ⟨Same.refl _, none, none, rfl⟩
      (fun i σ H' _ p => ⟨SqL.of (p.1 _ _ ha), SqL.of (p.1 _ _ hc)⟩) (fun i x σ H1 H' hi p y => ?_) (fun σ H1 p => ?_)
    · obtain ⟨s1, v2, v3, rfl⟩ := p
      obtain ⟨T, x1, x2, rfl, hT, rfl, e1, e2⟩ := y
      obtain ⟨t1, g1, h1⟩ := hx.2 i es[i] (List.getElem?_eq_getElem hi)
      obtain ⟨t2, g2, h2⟩ := hy.2 i es[i] (List.getElem?_eq_getElem hi)
      dsimp only at e1 e2
      rw [e1] at g1
      rw [e2] at g2
      cases g1
      cases g2
      have s2 : Same H (upd H1 T (.tup [.ref t1, .ref t2])) := s1.trans (Same.new hT)
      generalize es[i] = e at *
      walk_at "rd"
      refine ⟨T, _, rfl, .inl (.inl upd_same), rfl, ?_⟩
      walk_at "rd"
      refine r_isi (.base (.tup (s2 _ _ h1))) kit_tuple_tuple ?_
      walk_at "rd"
      refine ⟨t1, _, rfl, .inr (SqT.of' (s2 _ _ h1)), ?_⟩
      walk_at "rd"
      refine if_nd (fun z => absurd rfl z) (fun _ => ?_)
      walk_at "rd"
      refine ⟨t1, t2, _, _, rfl, .inr ⟨SqT.of' (s2 _ _ h1), SqT.of' (s2 _ _ h2), ?_⟩⟩
      refine lc_gen (walk_zipT (n := 3) rfl) (fun _ => true) (fun _ v _ => v = .bl true) (by decide) ⟨SqT.of' (s2 _ _ h1), SqT.of' (s2 _ _ h2)⟩ (fun _ _ s h => ⟨Same.tup s h.1, Same.tup s h.2⟩)
        (fun _ _ _ _ _ h => h) (fun _ _ _ _ _ _ _ h => h) (fun j hj H3 s3 _ x H4 y => ?_) (fun D zs H3 hD s3 h3 M => ?_)
      · obtain ⟨T2, z1, z2, rfl, hT2, rfl, f1, f2⟩ := y
        have f3 : z1 = z2 := Option.some.inj (f1.symm.trans f2)
        subst f3
        refine ⟨Same.new hT2, fun R S hy _ => ?_⟩
        have hz : ∃ n : Int, z1 = .int n := by
          match j, hj, f1 with
          | 0, _, f1 => exact ⟨_, (Option.some.inj f1).symm⟩
          | 1, _, f1 => exact ⟨_, (Option.some.inj f1).symm⟩
          | 2, _, f1 => exact ⟨_, (Option.some.inj f1).symm⟩
        obtain ⟨n, rfl⟩ := hz
        walk_at "rd"
        refine ⟨T2, _, rfl, .inl (.inl upd_same), rfl, ?_⟩
        walk_at "rd"
        refine ⟨rfl, ?_⟩
        walk_at "rd"
        refine ⟨n, n, rfl, ?_⟩
        rw [decide_eq_true (rfl : n = n)]
        exact hy rfl _ _ (Same.refl _) rfl
      · have e3 : zs = [true, true, true].map V.bl := by
          have := M.vals (f := fun _ => V.bl true)
          rw [pickN_all] at this
          exact this
        subst e3
        walk_at "rd"
        refine ⟨D, [true, true, true], rfl, SqL.of h3, ?_⟩
        walk_at "rd"
        exact ⟨s2.trans s3, _, _, rfl⟩
    · obtain ⟨s1, v2, v3, rfl⟩ := p
      walk_at "rd"
      exact q.go s1
theorem ok_l_true (D : DefAt K mg "_law_true" S_l_true ["_law_entries", "_law_row_here"]) (m_len : mg "len" = none) : Cal P w K mg base CX0 1 "_law_true" ["_law_entries", "_law_row_here"] sp_l_true := by
  obtain ⟨f, fd, F, m, b⟩ := D.ex
  refine ⟨f, fd, F.ok sc_l_true (fun vs H Q E h => ?_) (fun cdv A outer s H vs Q E hr h => ?_), m, F.kp, b⟩
  · obtain ⟨a, c, es, row, rfl, _⟩ := h
    rfl
  · obtain ⟨a, c, es, row, rfl, ⟨xs, ha, hx⟩, hc, hT, hl, q⟩ := h
    refine ⟨_, (pss_cons (ps_for PassesOwn.never rfl (pi_list (pv 0)) (pg_tup rfl (pgs_cons (pg_name (i := 2) sc_l_true.nd rfl (Or.inr rfl)) (pgs_cons (pg_name (i := 3) sc_l_true.nd rfl (Or.inl rfl)) (pgs_cons (pg_name (i := 4) sc_l_true.nd rfl (Or.inl rfl)) pgs_nil)))) (pss_cons (ps_if (pt_cmpR op_gt (pv 3) (pe_op op_sub (pe_callB call_len_seq rfl m_len (by decide +kernel) (pa_cons (pe_lc (own := [("_law_one", 5)]) (g := (gName 5)) rfl sc_l_true.nd (pi_list (pv 1)) (blkOk_by (N := ["_law_entries", "_law_row_here", "_law_reading_here", "_law_least", "_law_most", "_law_one"]) (sc := defScope S_l_true) (by decide +kernel)) (fun _ _ _ _ _ => by exact (pg_name (i := 5) sc_l_true.nd rfl (Or.inl rfl))) (fun _ _ _ _ _ => by exact (pts_one (pt_cmpR op_le (pv 5) (pv 2) (nomark _)))) (fun _ _ _ _ _ => by exact (pv 5))) pa_nil)) pe_int) (nomark _)) (pss_one (ps_ret pe_bl)) pss_nil)
      (pss_one (ps_if (pt_cmpR op_lt (pv 4) (pe_callB call_len_seq rfl m_len (by decide +kernel) (pa_cons (pe_lc (own := [("_law_one", 5)]) (g := (gName 5)) rfl sc_l_true.nd (pi_list (pv 1)) (blkOk_by (N := ["_law_entries", "_law_row_here", "_law_reading_here", "_law_least", "_law_most", "_law_one"]) (sc := defScope S_l_true) (by decide +kernel)) (fun _ _ _ _ _ => by exact (pg_name (i := 5) sc_l_true.nd rfl (Or.inl rfl))) (fun _ _ _ _ _ => by exact (pts_one (pt_cmpR op_lt (pv 5) (pv 2) (nomark _)))) (fun _ _ _ _ _ => by exact (pv 5))) pa_nil)) (nomark _)) (pss_one (ps_ret pe_bl)) pss_nil))))
      (pss_one (ps_ret pe_bl))), ?_⟩
    walk_at "rd"
    refine ⟨a, rfl, ⟨xs, SqL.of ha⟩, ?_⟩
    refine for_go (walk_list (xs := xs)) (fun i σ H' => Same H H' ∧ ∃ v2 v3 v4 v5, σ = [some (.ref a), some (.ref c), v2, v3, v4, v5]) ⟨Same.refl _, none, none, none, none, rfl⟩ (fun i σ H' _ z => SqL.of (z.1 _ _ ha)) (fun i x σ H1 H2 hi z y => ?_) (fun σ H1 z => ?_)
    · obtain ⟨s1, v2, v3, v4, v5, rfl⟩ := z
      obtain ⟨rfl, ex⟩ := y
      rw [hx.1] at hi
      obtain ⟨t, t1, t2⟩ := hx.2 i es[i] (List.getElem?_eq_getElem hi)
      rw [ex] at t1
      cases t1
      have T := hT es[i] (List.getElem_mem hi)
      have c1 := s1 _ _ hc
      have c2 := s1 _ _ t2
      generalize es[i] = e at *
      walk_at "rd"
      refine ⟨t, _, rfl, SqT.of' c2, rfl, ?_⟩
      walk_at "rd"
      refine ⟨c, rfl, ⟨_, SqL.of c1⟩, ?_⟩
      refine lc_gen (walk_list (xs := row.map V.int)) (fun i => decide (row.getD i 0 ≤ e.1)) (fun i v _ => v = .int (row.getD i 0)) (by rw [List.length_map]; omega) (SqL.of c1) (fun H H' s h => s.seq h)
        (fun _ _ _ _ _ h => h) (fun _ _ _ _ _ _ _ h => h) (fun j hj H3 s3 _ x H' y => ?_) (fun p1 us H3 hp1 s3 h3 M => ?_)
      · obtain ⟨rfl, ex2⟩ := y
        rw [List.length_map] at hj
        rw [List.getElem?_map, List.getElem?_eq_getElem hj] at ex2
        cases ex2
        have eg : row.getD j 0 = row[j] := by rw [List.getD_eq_getElem?_getD, List.getElem?_eq_getElem hj]; rfl
        refine ⟨Same.refl _, fun R S hy hn => ?_⟩
        walk_at "rd"
        refine ⟨rfl, ?_⟩
        walk_at "rd"
        refine if_d (fun c3 => ?_) (fun c3 => ?_)
        · walk_at "rd"
          exact hy (decide_eq_true (by rw [eg]; exact c3)) _ _ (Same.refl _) (by rw [eg])
        · exact hn (decide_eq_false fun z => c3 (by rw [eg] at z; exact z)) _ (Same.refl _)
      have ul : us.length = row.countP fun x => decide (x ≤ e.1) := by
        rw [M.len, List.length_map]
        exact pickN_count (fun x : Int => decide (x ≤ e.1)) 0 row
      have g1 := T.least
      rw [rowOf_le, ← ul] at g1
      have c4 := s3 _ _ c1
      walk_at "rd"
      refine ⟨p1, us, rfl, .inl (SqL.of h3), ?_⟩
      walk_at "rd"
      refine if_d (fun c5 => absurd c5 (by omega)) (fun _ => ?_)
      walk_at "rd"
      refine ⟨c, rfl, ⟨_, SqL.of c4⟩, ?_⟩
      refine lc_gen (walk_list (xs := row.map V.int)) (fun i => decide (row.getD i 0 < e.1)) (fun i v _ => v = .int (row.getD i 0)) (by rw [List.length_map]; omega) (SqL.of c4) (fun H H' s h => s.seq h)
        (fun _ _ _ _ _ h => h) (fun _ _ _ _ _ _ _ h => h) (fun j hj H4 s4 _ x H' y => ?_) (fun p2 ws H4 hp2 s4 h4 M2 => ?_)
      · obtain ⟨rfl, ex2⟩ := y
        rw [List.length_map] at hj
        rw [List.getElem?_map, List.getElem?_eq_getElem hj] at ex2
        cases ex2
        have eg : row.getD j 0 = row[j] := by rw [List.getD_eq_getElem?_getD, List.getElem?_eq_getElem hj]; rfl
        refine ⟨Same.refl _, fun R S hy hn => ?_⟩
        walk_at "rd"
        refine ⟨rfl, ?_⟩
        walk_at "rd"
        refine if_d (fun c3 => ?_) (fun c3 => ?_)
        · walk_at "rd"
          exact hy (decide_eq_true (by rw [eg]; exact c3)) _ _ (Same.refl _) (by rw [eg])
        · exact hn (decide_eq_false fun z => c3 (by rw [eg] at z; exact z)) _ (Same.refl _)
      have wl : ws.length = row.countP fun x => decide (x < e.1) := by
        rw [M2.len, List.length_map]
        exact pickN_count (fun x : Int => decide (x < e.1)) 0 row
      have g2 := T.most
      rw [rowOf_lt, ← wl] at g2
      walk_at "rd"
      refine ⟨p2, ws, rfl, .inl (SqL.of h4), ?_⟩
      walk_at "rd"
      refine if_d (fun c5 => absurd c5 (by omega)) (fun _ => ?_)
      walk_at "rd"
      exact ⟨(s1.trans s3).trans s4, _, _, _, _, rfl⟩
    · obtain ⟨s1, v2, v3, v4, v5, rfl⟩ := z
      walk_at "rd"
      exact q.go s1
end
end RB

namespace RB
open PySem PySem.Spec PyProof.Rows L2
def sp_law (K : PySem.W.Frag) : Sp := fun vs H Q _ => ∃ (a : Addr) (ns : List Int), vs = [.ref a] ∧ SqL K H a (ns.map V.int) ∧ ns.length ≤ 63 ∧ ∀ H', Q (.bl true) H'
abbrev S_law : Stmt := top 19
theorem sc_law : FnScope ["_law_script", "_law_cell_here", "_law_row_here", "_law_other", "_law_ones", "_law_others", "_law_handed", "_law_turn", "_law_found", "_law_due_here", "_law_back"] ["_law_script"] (defScope S_law) := ⟨rfl, rfl, rfl, by decide +kernel, rfl, by decide +kernel, by decide +kernel⟩
section
variable {P : Program} {w : World} {K : PySem.W.Frag} {mg : Str → Option Value} {base : Heap}
theorem ok_law {f : Addr} {fd : FuncData} (F : Fun K "law" "law" S_law f fd) (m_len : mg "len" = none) (m_list : mg "list" = none) (m_range : mg "range" = none) (c_l_cell : Cal P w K mg base CX0 1 "_law_cell" ["_law_script", "_law_k"] (sp_l_cell K))
    (c_l_row : Cal P w K mg base CX0 3 "_law_row" ["_law_script", "_law_first", "_law_cell_here"] (sp_l_row K)) (c_l_some : Cal P w K mg base CX0 2 "_law_some" ["_law_row_here", "_law_cell_here"] sp_l_some)
    (c_joined : Cal P w K mg base CX0 4 "joined" ["ones", "many", "others", "more"] sp_joined) (c_l_due : Cal P w K mg base CX0 2 "_law_due" ["_law_ones", "_law_many", "_law_others", "_law_more"] sp_l_due)
    (c_l_like : Cal P w K mg base CX0 2 "_law_like" ["_law_found", "_law_due_here"] sp_l_like) (c_l_true : Cal P w K mg base CX0 1 "_law_true" ["_law_entries", "_law_row_here"] sp_l_true) : FnOk P w K mg base CX0 5 f fd ["_law_script"] (sp_law K) := by
  obtain ⟨f_l_cell, fd_l_cell, G_l_cell, m_l_cell, k_l_cell, b_l_cell⟩ := c_l_cell
  obtain ⟨f_l_row, fd_l_row, G_l_row, m_l_row, k_l_row, b_l_row⟩ := c_l_row
  obtain ⟨f_l_some, fd_l_some, G_l_some, m_l_some, k_l_some, b_l_some⟩ := c_l_some
  obtain ⟨f_joined, fd_joined, G_joined, m_joined, k_joined, b_joined⟩ := c_joined
  obtain ⟨f_l_due, fd_l_due, G_l_due, m_l_due, k_l_due, b_l_due⟩ := c_l_due
  obtain ⟨f_l_like, fd_l_like, G_l_like, m_l_like, k_l_like, b_l_like⟩ := c_l_like
  obtain ⟨f_l_true, fd_l_true, G_l_true, m_l_true, k_l_true, b_l_true⟩ := c_l_true
  refine F.ok sc_law (fun vs H Q E h => ?_) (fun cdv A outer s H vs Q E hr h => ?_)
  · obtain ⟨a, ns, rfl, _⟩ := h
    rfl
  · obtain ⟨a, ns, rfl, ha, hl, q⟩ := h
    refine ⟨_, (pss_cons (ps_set (i := 1) sc_law.nd rfl (Or.inl rfl) (pe_call G_l_cell (hr.mono (by decide)) rfl m_l_cell k_l_cell b_l_cell .nil pass0 (pa_cons (pv 0) (pa_cons pe_int pa_nil))))
      (pss_cons (ps_set (i := 2) sc_law.nd rfl (Or.inl rfl) (pe_call G_l_row (hr.mono (by decide)) rfl m_l_row k_l_row b_l_row .nil pass0 (pa_cons (pv 0) (pa_cons pe_int (pa_cons (pv 1) pa_nil)))))
      (pss_cons (ps_set (i := 3) sc_law.nd rfl (Or.inl rfl) (pe_call G_l_row (hr.mono (by decide)) rfl m_l_row k_l_row b_l_row .nil pass0 (pa_cons (pv 0) (pa_cons pe_int (pa_cons (pe_op op_fdiv (pv 1) pe_int) pa_nil)))))
      (pss_cons (ps_set (i := 4) sc_law.nd rfl (Or.inl rfl) (pe_call G_l_some (hr.mono (by decide)) rfl m_l_some k_l_some b_l_some .nil pass0 (pa_cons (pv 2) (pa_cons (pe_call G_l_cell (hr.mono (by decide)) rfl m_l_cell k_l_cell b_l_cell .nil pass0 (pa_cons (pv 0) (pa_cons pe_int pa_nil))) pa_nil))))
      (pss_cons (ps_set (i := 5) sc_law.nd rfl (Or.inl rfl) (pe_call G_l_some (hr.mono (by decide)) rfl m_l_some k_l_some b_l_some .nil pass0 (pa_cons (pv 3) (pa_cons (pe_call G_l_cell (hr.mono (by decide)) rfl m_l_cell k_l_cell b_l_cell .nil pass0 (pa_cons (pv 0) (pa_cons pe_int pa_nil))) pa_nil))))
      (pss_cons (ps_set (i := 6) sc_law.nd rfl (Or.inl rfl) (pe_lst (pa_cons (pe_callTy call_list_of rfl m_list (by decide +kernel) (pa_cons (pv 4) pa_nil)) (pa_cons (pe_callTy call_list_of rfl m_list (by decide +kernel) (pa_cons (pv 5) pa_nil)) pa_nil))))
      (pss_cons (ps_for PassesOwn.never rfl (pi_range1 rfl m_range (pa_cons pe_int pa_nil)) (pg_name (i := 7) sc_law.nd rfl (Or.inl rfl)) (pss_cons (ps_set (i := 8) sc_law.nd rfl (Or.inl rfl) (pe_call G_joined (hr.mono (by decide)) rfl m_joined k_joined b_joined .nil pass0 (pa_cons (pe_ix (ixL (K := K) rfl) (pv 6) pe_int (fun _ _ => rfl)) (pa_cons (pe_callB call_len_seq rfl m_len (by decide +kernel) (pa_cons (pv 2) pa_nil)) (pa_cons (pe_ix (ixL (K := K) rfl) (pv 6) pe_int (fun _ _ => rfl)) (pa_cons (pe_callB call_len_seq rfl m_len (by decide +kernel) (pa_cons (pv 3) pa_nil)) pa_nil))))))
      (pss_cons (ps_set (i := 9) sc_law.nd rfl (Or.inl rfl) (pe_call G_l_due (hr.mono (by decide)) rfl m_l_due k_l_due b_l_due .nil pass0 (pa_cons (pv 4) (pa_cons (pe_callB call_len_seq rfl m_len (by decide +kernel) (pa_cons (pv 2) pa_nil)) (pa_cons (pv 5) (pa_cons (pe_callB call_len_seq rfl m_len (by decide +kernel) (pa_cons (pv 3) pa_nil)) pa_nil))))))
      (pss_cons (ps_set (i := 10) sc_law.nd rfl (Or.inl rfl) (pe_call G_joined (hr.mono (by decide)) rfl m_joined k_joined b_joined .nil pass0 (pa_cons (pe_ix (ixL (K := K) rfl) (pv 6) pe_int (fun _ _ => rfl)) (pa_cons (pe_callB call_len_seq rfl m_len (by decide +kernel) (pa_cons (pv 3) pa_nil)) (pa_cons (pe_ix (ixL (K := K) rfl) (pv 6) pe_int (fun _ _ => rfl)) (pa_cons (pe_callB call_len_seq rfl m_len (by decide +kernel) (pa_cons (pv 2) pa_nil)) pa_nil))))))
      (pss_cons (ps_if (PW.pt (pw_or (pt_not (pt_val (pe_call G_l_like (hr.mono (by decide)) rfl m_l_like k_l_like b_l_like .nil pass0 (pa_cons (pv 8) (pa_cons (pv 9) pa_nil))))) (pw_or1 (pt_not (pt_val (pe_call G_l_true (hr.mono (by decide)) rfl m_l_true k_l_true b_l_true .nil pass0 (pa_cons (pv 8) (pa_cons (pe_op op_cat (pv 2) (pv 3)) pa_nil)))))))) (pss_one (ps_ret pe_bl)) pss_nil)
      (pss_cons (ps_if (PW.pt (pw_or (pt_not (pt_val (pe_call G_l_like (hr.mono (by decide)) rfl m_l_like k_l_like b_l_like .nil pass0 (pa_cons (pv 10) (pa_cons (pe_call G_l_due (hr.mono (by decide)) rfl m_l_due k_l_due b_l_due .nil pass0 (pa_cons (pv 5) (pa_cons (pe_callB call_len_seq rfl m_len (by decide +kernel) (pa_cons (pv 3) pa_nil)) (pa_cons (pv 4) (pa_cons (pe_callB call_len_seq rfl m_len (by decide +kernel) (pa_cons (pv 2) pa_nil)) pa_nil))))) pa_nil))))) (pw_or1 (pt_cmpR (op_neD hr.units) (pv 6) (pe_lst (pa_cons (pv 4) (pa_cons (pv 5) pa_nil))) (nomark _))))) (pss_one (ps_ret pe_bl)) pss_nil)
      (pss_cons (ps_expr (pe_bm0 PySem.F.plainAttrs_list PySem.F.slot_list_clear PySem.F.type_list_clear mt_clear (pv 8)))
      (pss_one (ps_expr (pe_bm PySem.F.plainAttrs_list PySem.F.slot_list_append PySem.F.type_list_append mt_append (pv 10) (pa_cons (pe_tup (pa_cons pe_int (pa_cons pe_int (pa_cons pe_int pa_nil)))) pa_nil)))))))))))
      (pss_one (ps_ret pe_bl))))))))), ?_⟩
    walk_at "rd"
    refine ⟨a, ns, 0, rfl, ha, by decide, ?_⟩
    walk_at "rd"
    generalize cellM ns 0 = c
    refine ⟨a, ns, 3, c, rfl, ha, by decide, fun pr H1 hpr s1 h1 => ?_⟩
    have l1 := rowS_len ns 3 c
    have o1 := rowS_sorted ns 3 c
    generalize rowS ns 3 c = row at *
    walk_at "rd"
    refine ⟨a, ns, 18, _, rfl, s1.seq ha, by decide, fun po H2 hpo s2 h2 => ?_⟩
    have l2 := rowS_len ns 18 (c / 15)
    have o2 := rowS_sorted ns 18 (c / 15)
    generalize rowS ns 18 (c / 15) = oth at *
    walk_at "rd"
    refine ⟨a, ns, 1, rfl, (s1.trans s2).seq ha, by decide, ?_⟩
    walk_at "rd"
    refine ⟨pr, row, _, rfl, s2 _ _ h1, by omega, fun p1 H3 hp1 s3 E1 => ?_⟩
    have t1 := someE_tru (c := cellM ns 1) o1
    have e1 := someE_length (cellM ns 1) row 0
    have d1 := someE_sorted (c := cellM ns 1) o1 0
    generalize someE (cellM ns 1) 0 row = ones at *
    walk_at "rd"
    refine ⟨a, ns, 2, rfl, ((s1.trans s2).trans s3).seq ha, by decide, ?_⟩
    walk_at "rd"
    refine ⟨po, oth, _, rfl, s3 _ _ h2, by omega, fun p2 H4 hp2 s4 E2 => ?_⟩
    have t2 := someE_tru (c := cellM ns 2) o2
    have e2 := someE_length (cellM ns 2) oth 0
    have d2 := someE_sorted (c := cellM ns 2) o2 0
    generalize someE (cellM ns 2) 0 oth = ots at *
    replace E1 := E1.same s4
    obtain ⟨xs, x1, X⟩ := id E1
    obtain ⟨ys, y1, Y⟩ := id E2
    walk_at "rd"
    refine ⟨p1, xs, rfl, .inl (SqL.of x1), fun q1 hq1 => ?_⟩
    walk_at "rd"
    refine ⟨p2, ys, rfl, .inl (SqL.of ((Same.new hq1) _ _ y1)), fun q2 hq2 => ?_⟩
    walk_at "rd"
    refine ⟨by show 2 ≤ sizeLine; decide, fun ph hph => ?_⟩
    have s5 : Same H4 (upd (upd (upd H4 q1 (.lst xs)) q2 (.lst ys)) ph (.lst [.ref q1, .ref q2])) := ((Same.new hq1).trans (Same.new hq2)).trans (Same.new hph)
    have hQ1 : Ents (upd (upd (upd H4 q1 (.lst xs)) q2 (.lst ys)) ph (.lst [.ref q1, .ref q2])) q1 ones := ⟨xs, (((Same.new hq2).trans (Same.new hph)) _ _ upd_same), X.same s5⟩
    have hQ2 : Ents (upd (upd (upd H4 q1 (.lst xs)) q2 (.lst ys)) ph (.lst [.ref q1, .ref q2])) q2 ots := ⟨ys, ((Same.new hph) _ _ upd_same), Y.same s5⟩
    have hP : (upd (upd (upd H4 q1 (.lst xs)) q2 (.lst ys)) ph (.lst [.ref q1, .ref q2])) ph = some (.lst [.ref q1, .ref q2]) := upd_same
    replace E1 := E1.same s5
    replace E2 := E2.same s5
    have hr1 : (upd (upd (upd H4 q1 (.lst xs)) q2 (.lst ys)) ph (.lst [.ref q1, .ref q2])) pr = some (.lst (row.map V.int)) := s5 _ _ (s4 _ _ (s3 _ _ (s2 _ _ h1)))
    have hr2 : (upd (upd (upd H4 q1 (.lst xs)) q2 (.lst ys)) ph (.lst [.ref q1, .ref q2])) po = some (.lst (oth.map V.int)) := s5 _ _ (s4 _ _ (s3 _ _ h2))
    generalize upd (upd (upd H4 q1 (.lst xs)) q2 (.lst ys)) ph (.lst [.ref q1, .ref q2]) = H5 at *
    clear s1 s2 s3 s4 s5 x1 y1 X Y hq1 hq2 hph hp1 hp2 h1 h2 hpr hpo
    walk_at "rd"
    refine ⟨2, rfl, by decide, by decide, ?_⟩
    refine for_go (walk_range0 (n := 2)) (fun i σ H' => Same H5 H' ∧ ∃ v7 v8 v9 v10, σ = [some (.ref a), some (.int c), some (.ref pr), some (.ref po), some (.ref p1), some (.ref p2), some (.ref ph), v7, v8, v9, v10]) ⟨Same.refl _, none, none, none, none, rfl⟩ (fun _ _ _ _ _ => trivial) (fun i x σ H6 H7 hi z y => ?_) (fun σ H6 z => ?_)
    · obtain ⟨s6, v7, v8, v9, v10, rfl⟩ := z
      obtain ⟨rfl, rfl⟩ := y
      have nR : (rowOf row).n = (row.length : Int) := rowOf_n row
      have nO : (rowOf oth).n = (oth.length : Int) := rowOf_n oth
      walk_at "rd"
      refine ⟨ph, _, _, _, rfl, rfl, SqL.of (s6 _ _ hP), at_of (j := 0) rfl rfl, ?_⟩
      walk_at "rd"
      refine ⟨pr, _, rfl, .inl (SqL.of (s6 _ _ hr1)), ?_⟩
      rw [List.length_map]
      walk_at "rd"
      refine ⟨ph, _, _, _, rfl, rfl, SqL.of (s6 _ _ hP), at_of (j := 1) rfl rfl, ?_⟩
      walk_at "rd"
      refine ⟨po, _, rfl, .inl (SqL.of (s6 _ _ hr2)), ?_⟩
      rw [List.length_map]
      walk_at "rd"
      refine ⟨q1, q2, ones, ots, _, _, rfl, hQ1.same s6, hQ2.same s6, d1, d2, by omega, by omega, fun pf H8 hpf s8 F8 => ?_⟩
      have s58 := s6.trans s8
      have lJ : (joinM ones (row.length : Int) ots (oth.length : Int)).length ≤ 28 := by rw [joinM_length]; omega
      have lB : (joinM ots (oth.length : Int) ones (row.length : Int)).length ≤ 28 := by rw [joinM_length]; omega
      have tJ : ∀ e ∈ joinM ones (row.length : Int) ots (oth.length : Int), Tru (rowOf (row ++ oth)) e := by
        rw [rowOf_append, ← nR, ← nO]
        exact tru_join (rowOf_ok _) (rowOf_ok _) d1 d2 t1 t2
      walk_at "rd"
      refine ⟨pr, _, rfl, .inl (SqL.of (s58 _ _ hr1)), ?_⟩
      rw [List.length_map]
      walk_at "rd"
      refine ⟨po, _, rfl, .inl (SqL.of (s58 _ _ hr2)), ?_⟩
      rw [List.length_map]
      walk_at "rd"
      refine ⟨p1, p2, ones, ots, _, _, rfl, E1.same s58, E2.same s58, d1, d2, by omega, by omega, fun pd H9 hpd s9 D9 => ?_⟩
      have s59 := s58.trans s9
      walk_at "rd"
      refine ⟨ph, _, _, _, rfl, rfl, SqL.of (s59 _ _ hP), at_of (j := 1) rfl rfl, ?_⟩
      walk_at "rd"
      refine ⟨po, _, rfl, .inl (SqL.of (s59 _ _ hr2)), ?_⟩
      rw [List.length_map]
      walk_at "rd"
      refine ⟨ph, _, _, _, rfl, rfl, SqL.of (s59 _ _ hP), at_of (j := 0) rfl rfl, ?_⟩
      walk_at "rd"
      refine ⟨pr, _, rfl, .inl (SqL.of (s59 _ _ hr1)), ?_⟩
      rw [List.length_map]
      walk_at "rd"
      refine ⟨q2, q1, ots, ones, _, _, rfl, hQ2.same s59, hQ1.same s59, d2, d1, by omega, by omega, fun pb H10 hpb s10 B10 => ?_⟩
      have s510 := s59.trans s10
      walk_at "rd"
      refine ⟨pf, pd, _, rfl, (F8.same s9).same s10, D9.same s10, by omega, fun H11 s11 => ?_⟩
      walk_at "rd"
      have s511 := s510.trans s11
      refine ⟨pr, po, _, _, rfl, rfl, s511 _ _ hr1, s511 _ _ hr2, by rw [List.length_map, List.length_map, sizeLine_eq]; omega, fun pu hpu => ?_⟩
      have s12 : Same H11 (upd H11 pu (.lst (row.map V.int ++ oth.map V.int))) := Same.new hpu
      walk_at "rd"
      refine ⟨pf, pu, _, row ++ oth, rfl, ((((F8.same s9).same s10).same s11).same s12), by rw [upd_same, List.map_append], tJ, by rw [List.length_append]; omega, fun H13 s13 => ?_⟩
      have s513 := (s511.trans s12).trans s13
      have sF : Same H8 H13 := (((s9.trans s10).trans s11).trans s12).trans s13
      have sB : Same H10 H13 := (s11.trans s12).trans s13
      walk_at "rd"
      refine ⟨po, _, rfl, .inl (SqL.of (s513 _ _ hr2)), ?_⟩
      rw [List.length_map]
      walk_at "rd"
      refine ⟨pr, _, rfl, .inl (SqL.of (s513 _ _ hr1)), ?_⟩
      rw [List.length_map]
      walk_at "rd"
      refine ⟨p2, p1, ots, ones, _, _, rfl, E2.same s513, E1.same s513, d2, d1, by omega, by omega, fun pe H14 hpe s14 D14 => ?_⟩
      walk_at "rd"
      refine ⟨pb, pe, _, rfl, (B10.same sB).same s14, D14, by omega, fun H15 s15 => ?_⟩
      have s515 := (s513.trans s14).trans s15
      have sF' := (sF.trans s14).trans s15
      have sB' := (sB.trans s14).trans s15
      walk_at "rd"
      refine ⟨by show 2 ≤ sizeLine; decide, fun pz hpz => ?_⟩
      have s16 : Same H15 (upd H15 pz (.lst [.ref p1, .ref p2])) := Same.new hpz
      have s516 := s515.trans s16
      walk_at "rd"
      refine ⟨_, _, dp_pair (s516 _ _ hP) (hQ1.same s516) (hQ2.same s516), dp_pair upd_same (E1.same s516) (E2.same s516), shp_pair _ _, shp_pair _ _, ?_⟩
      rw [SeqAt.eqv_refl _ (lay_pair _ _)]
      walk_at "rd"
      obtain ⟨fs, f1, _⟩ := id ((F8.same sF').same s16)
      refine ⟨ty_lst f1, ?_⟩
      walk_at "rd"
      refine ⟨pf, fs, rfl, rfl, f1, ?_⟩
      walk_at "rd"
      obtain ⟨bs, b1, B1⟩ := id ((B10.same sB').same s16)
      have hfr : H5 pf = none := s6.free hpf
      have hbr : H5 pb = none := s59.free hpb
      have nfb : pb ≠ pf := by
        intro e
        subst e
        obtain ⟨_, g1, _⟩ := F8
        rw [s9 _ _ g1] at hpb
        cases hpb
      have b2 : (upd (upd H15 pz (.lst [.ref p1, .ref p2])) pf (.lst [])) pb = some (.lst bs) := by rw [upd_ne nfb]; exact b1
      refine ⟨ty_lst b2, ?_⟩
      walk_at "rd"
      refine ⟨by show 3 ≤ sizeLine; decide, fun pt hpt => ?_⟩
      have b3 := (Same.new (o := .tup [.int 0, .int 0, .int 0]) hpt) _ _ b2
      walk_at "rd"
      refine ⟨pb, bs, _, rfl, rfl, b3, by rw [B1.1, sizeLine_eq]; omega, ?_⟩
      exact ⟨Same.mut ((Same.mut s516 hfr).trans (Same.new hpt)) hbr, _, _, _, _, rfl⟩
    · obtain ⟨s6, v7, v8, v9, v10, rfl⟩ := z
      walk_at "rd"
      exact q H6
end
end RB

namespace RB
open PySem PySem.Spec PyProof.Rows L2
theorem all_mk {P : Program} {w : World} {K : PySem.W.Frag} {mg : Str → Option Value} {fa : Addr} (hfa : mg "law" = some (.ref fa)) (D_law : LawAt K mg S_law)
    (D_upto : DefAt K mg "upto" S_upto ["entries", "reading"])
    (m_len : mg "len" = none)
    (D_below : DefAt K mg "below" S_below ["entries", "reading"])
    (D_least_of : DefAt K mg "least_of" S_least_of ["entries", "count"])
    (D_most_of : DefAt K mg "most_of" S_most_of ["entries", "count", "many"])
    (D_moved : DefAt K mg "moved" S_moved ["entries", "others", "more"])
    (D_joined : DefAt K mg "joined" S_joined ["ones", "many", "others", "more"])
    (D_reading_of : DefAt K mg "reading_of" S_reading_of ["entry"])
    (m_sorted : mg "sorted" = none)
    (D_l_cell : DefAt K mg "_law_cell" S_l_cell ["_law_script", "_law_k"])
    (D_l_mixed : DefAt K mg "_law_mixed" S_l_mixed ["_law_cell_here", "_law_k"])
    (D_l_reading : DefAt K mg "_law_reading" S_l_reading ["_law_cell_here"])
    (D_l_whole : DefAt K mg "_law_whole" S_l_whole ["_law_found", "_law_due_here"])
    (m_isinstance : mg "isinstance" = none)
    (m_int : mg "int" = none)
    (m_bool : mg "bool" = none)
    (D_l_row : DefAt K mg "_law_row" S_l_row ["_law_script", "_law_first", "_law_cell_here"])
    (m_range : mg "range" = none)
    (D_l_some : DefAt K mg "_law_some" S_l_some ["_law_row_here", "_law_cell_here"])
    (m_enumerate : mg "enumerate" = none)
    (D_l_counted : DefAt K mg "_law_counted" S_l_counted ["_law_entry", "_law_others", "_law_more"])
    (D_l_due : DefAt K mg "_law_due" S_l_due ["_law_ones", "_law_many", "_law_others", "_law_more"])
    (D_l_like : DefAt K mg "_law_like" S_l_like ["_law_found", "_law_due_here"])
    (m_list : mg "list" = none)
    (m_tuple : mg "tuple" = none)
    (m_zip : mg "zip" = none)
    (m_all : mg "all" = none)
    (D_l_true : DefAt K mg "_law_true" S_l_true ["_law_entries", "_law_row_here"])
    : ∃ fd : FuncData, (∀ (s : Shared) (v : Value), BindsTo s fd ⟨[v], []⟩ [("_law_script", v)]) ∧ ∀ base : Heap, K.In base → base.Ns mainGlobals mg → FnOk P w K mg base CX0 5 fa fd ["_law_script"] (sp_law K) := by
  obtain ⟨f, fd, F, hm, hb⟩ := D_law.ex
  have e := hfa.symm.trans hm
  cases e
  refine ⟨fd, hb, fun base _ _ => ?_⟩
  have c_upto := ok_upto (P := P) (w := w) (base := base) D_upto m_len
  have c_below := ok_below (P := P) (w := w) (base := base) D_below c_upto
  have c_least_of := ok_least_of (P := P) (w := w) (base := base) D_least_of
  have c_most_of := ok_most_of (P := P) (w := w) (base := base) D_most_of m_len
  have c_moved := ok_moved (P := P) (w := w) (base := base) D_moved c_upto c_below c_least_of c_most_of
  have c_joined := ok_joined (P := P) (w := w) (base := base) D_joined D_reading_of m_sorted c_moved
  have c_l_cell := ok_l_cell (P := P) (w := w) (base := base) D_l_cell m_len
  have c_l_mixed := ok_l_mixed (P := P) (w := w) (base := base) D_l_mixed
  have c_l_reading := ok_l_reading (P := P) (w := w) (base := base) D_l_reading c_l_mixed
  have c_l_whole := ok_l_whole (P := P) (w := w) (base := base) D_l_whole m_isinstance m_int m_bool
  have c_l_row := ok_l_row (P := P) (w := w) (base := base) D_l_row m_sorted m_range c_l_cell c_l_reading
  have c_l_some := ok_l_some (P := P) (w := w) (base := base) D_l_some m_enumerate c_l_mixed
  have c_l_counted := ok_l_counted (P := P) (w := w) (base := base) D_l_counted
  have c_l_due := ok_l_due (P := P) (w := w) (base := base) D_l_due m_len c_l_counted
  have c_l_like := ok_l_like (P := P) (w := w) (base := base) D_l_like m_isinstance m_list m_tuple m_len m_zip m_all c_l_whole
  have c_l_true := ok_l_true (P := P) (w := w) (base := base) D_l_true m_len
  exact ok_law F m_len m_list m_range c_l_cell c_l_row c_l_some c_joined c_l_due c_l_like c_l_true
theorem walk {l : PySem.W.OpenLaw} {q : Program} {loose : List Str} {XP : (Str → Option Value) → Heap → Prop} {YP : World → Heap → Prop} {d : DefRec} {K : Params → PySem.W.Frag} (hn : l.most = some 63) (hdf : d.params.defaults = [])
    (hY : ∀ (w : World) (h : Heap), YP w h → (K w.params).In h)
    (F : ∀ (w : World) (mg : Str → Option Value) (fa : Addr) (h : Heap), (K w.params).In h → h.Ns mainGlobals mg → mg d.name = some (.ref fa) →
      ∃ fd : FuncData, (∀ (s : Shared) (u : Value), BindsTo s fd ⟨[u], []⟩ [("_law_script", u)]) ∧ ∀ base : Heap, (K w.params).In base → base.Ns mainGlobals mg → FnOk l.prog w (K w.params) mg base CX0 5 fa fd ["_law_script"] (sp_law (K w.params))) :
    PySem.W.WalkO q loose XP YP l.row.toRowW d [] (fun f vs => PySem.call f vs) :=
  L2.walk_of (n := 63) (k := 5) (x := "_law_script") (CX := fun _ => CX0) (sp := fun w => sp_law (K w.params)) hn (by decide) hdf ⟨rfl, by decide, by decide⟩ hY F (fun _ _ a ns hl _ hS => ⟨a, ns, rfl, hS, hl, fun _ => rfl⟩) fun _ _ _ _ _ z => z
end RB
open PySem PySem.W PyProof.Rows
set_option maxRecDepth 100000 in
set_option maxHeartbeats 0 in
theorem PySem.Challenge.cw_rankbounds_k02_entries_joined_holds : PySem.Challenge.rw_rankbounds_k02_entries_joined.Holds := by
  w_on; o_law; k_head; (case hw => w_witness2)
  k_fill
  refine RB.walk (l := PySem.Challenge.rw_rankbounds_k02_entries_joined) rfl rfl (fun w h Y => PySem.W.kIn_of Y) ?F
  case F =>
    intro w mg fa h KX G hmg
    refine' RB.all_mk hmg ?D_law ?D_upto ?m_len ?D_below ?D_least_of ?D_most_of ?D_moved ?D_joined ?D_reading_of ?m_sorted ?D_l_cell ?D_l_mixed ?D_l_reading ?D_l_whole ?m_isinstance ?m_int ?m_bool ?D_l_row ?m_range ?D_l_some ?m_enumerate ?D_l_counted ?D_l_due ?D_l_like ?m_list ?m_tuple ?m_zip ?m_all ?D_l_true
    (case D_law => (refine' RB.law_mk KX G ?a ?l ?c ?k (fun _ _ _ _ _ _ _ _ => .of_eq rfl); (case a => k_is); (case l => k_is); (case c => k_is); (case k => k_is)))
    (case D_upto => (refine' RB.def_mk KX G ?a ?l ?c ?k (fun _ _ _ _ _ _ us hl => match us, hl with | [_, _], _ => rfl); (case a => k_is); (case l => k_is); (case c => k_is); (case k => k_is)))
    (case m_len => (refine' PySem.W.mg_none_of KX G ?z; (case z => k_is)))
    (case D_below => (refine' RB.def_mk KX G ?a ?l ?c ?k (fun _ _ _ _ _ _ us hl => match us, hl with | [_, _], _ => rfl); (case a => k_is); (case l => k_is); (case c => k_is); (case k => k_is)))
    (case D_least_of => (refine' RB.def_mk KX G ?a ?l ?c ?k (fun _ _ _ _ _ _ us hl => match us, hl with | [_, _], _ => rfl); (case a => k_is); (case l => k_is); (case c => k_is); (case k => k_is)))
    (case D_most_of => (refine' RB.def_mk KX G ?a ?l ?c ?k (fun _ _ _ _ _ _ us hl => match us, hl with | [_, _, _], _ => rfl); (case a => k_is); (case l => k_is); (case c => k_is); (case k => k_is)))
    (case D_moved => (refine' RB.def_mk KX G ?a ?l ?c ?k (fun _ _ _ _ _ _ us hl => match us, hl with | [_, _, _], _ => rfl); (case a => k_is); (case l => k_is); (case c => k_is); (case k => k_is)))
    (case D_joined => (refine' RB.def_mk KX G ?a ?l ?c ?k (fun _ _ _ _ _ _ us hl => match us, hl with | [_, _, _, _], _ => rfl); (case a => k_is); (case l => k_is); (case c => k_is); (case k => k_is)))
    (case D_reading_of => (refine' RB.def_mk KX G ?a ?l ?c ?k (fun _ _ _ _ _ _ us hl => match us, hl with | [_], _ => rfl); (case a => k_is); (case l => k_is); (case c => k_is); (case k => k_is)))
    (case m_sorted => (refine' PySem.W.mg_none_of KX G ?z; (case z => k_is)))
    (case D_l_cell => (refine' RB.def_mk KX G ?a ?l ?c ?k (fun _ _ _ _ _ _ us hl => match us, hl with | [_, _], _ => rfl); (case a => k_is); (case l => k_is); (case c => k_is); (case k => k_is)))
    (case D_l_mixed => (refine' RB.def_mk KX G ?a ?l ?c ?k (fun _ _ _ _ _ _ us hl => match us, hl with | [_, _], _ => rfl); (case a => k_is); (case l => k_is); (case c => k_is); (case k => k_is)))
    (case D_l_reading => (refine' RB.def_mk KX G ?a ?l ?c ?k (fun _ _ _ _ _ _ us hl => match us, hl with | [_], _ => rfl); (case a => k_is); (case l => k_is); (case c => k_is); (case k => k_is)))
    (case D_l_whole => (refine' RB.def_mk KX G ?a ?l ?c ?k (fun _ _ _ _ _ _ us hl => match us, hl with | [_, _], _ => rfl); (case a => k_is); (case l => k_is); (case c => k_is); (case k => k_is)))
    (case m_isinstance => (refine' PySem.W.mg_none_of KX G ?z; (case z => k_is)))
    (case m_int => (refine' PySem.W.mg_none_of KX G ?z; (case z => k_is)))
    (case m_bool => (refine' PySem.W.mg_none_of KX G ?z; (case z => k_is)))
    (case D_l_row => (refine' RB.def_mk KX G ?a ?l ?c ?k (fun _ _ _ _ _ _ us hl => match us, hl with | [_, _, _], _ => rfl); (case a => k_is); (case l => k_is); (case c => k_is); (case k => k_is)))
    (case m_range => (refine' PySem.W.mg_none_of KX G ?z; (case z => k_is)))
    (case D_l_some => (refine' RB.def_mk KX G ?a ?l ?c ?k (fun _ _ _ _ _ _ us hl => match us, hl with | [_, _], _ => rfl); (case a => k_is); (case l => k_is); (case c => k_is); (case k => k_is)))
    (case m_enumerate => (refine' PySem.W.mg_none_of KX G ?z; (case z => k_is)))
    (case D_l_counted => (refine' RB.def_mk KX G ?a ?l ?c ?k (fun _ _ _ _ _ _ us hl => match us, hl with | [_, _, _], _ => rfl); (case a => k_is); (case l => k_is); (case c => k_is); (case k => k_is)))
    (case D_l_due => (refine' RB.def_mk KX G ?a ?l ?c ?k (fun _ _ _ _ _ _ us hl => match us, hl with | [_, _, _, _], _ => rfl); (case a => k_is); (case l => k_is); (case c => k_is); (case k => k_is)))
    (case D_l_like => (refine' RB.def_mk KX G ?a ?l ?c ?k (fun _ _ _ _ _ _ us hl => match us, hl with | [_, _], _ => rfl); (case a => k_is); (case l => k_is); (case c => k_is); (case k => k_is)))
    (case m_list => (refine' PySem.W.mg_none_of KX G ?z; (case z => k_is)))
    (case m_tuple => (refine' PySem.W.mg_none_of KX G ?z; (case z => k_is)))
    (case m_zip => (refine' PySem.W.mg_none_of KX G ?z; (case z => k_is)))
    (case m_all => (refine' PySem.W.mg_none_of KX G ?z; (case z => k_is)))
    (case D_l_true => (refine' RB.def_mk KX G ?a ?l ?c ?k (fun _ _ _ _ _ _ us hl => match us, hl with | [_, _], _ => rfl); (case a => k_is); (case l => k_is); (case c => k_is); (case k => k_is)))
