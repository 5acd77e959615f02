import PyProof.Rows.All
import Wide.All
import OpenK.AllK
import Wide.FinOn
import HandS.ForMost
import HandS.ForExc
import HandS.More
import HandS.Walk
import HandS.IsInst
import HandS.SortInts
import HandS.SortKw
import HandS.Zip
import HandS.ListItems
import HandS.Flow
import HandS.Style
import HandS.Wide
import KE.SortKeyHeap
import HandS.Dict
import PyProof.ReprBulk
import PyProof.FitsInt
import HandS.HotCalls
import HandS.TryMany
import HandS.ExcCtx
import HandS.ExcIs
import HandS.ExcOwn
import HandS.Flt
import PySem.Challenge.RW_rankbounds_k09_whole_any_pouring
set_option Elab.async false
set_option linter.all false
set_option maxRecDepth 100000
set_option maxHeartbeats 4000000
/-! Entries, their mirror and their laws: plain Lean, no program in sight. -/
namespace RB
abbrev E := Int × Int × Int
def keyLe (a b : E) : Bool := decide (a.1 ≤ b.1)
theorem keyLe_trans (a b c : E) (h1 : keyLe a b = true) (h2 : keyLe b c = true) : keyLe a c = true := by
  simp only [keyLe, decide_eq_true_eq] at *
  omega
theorem keyLe_total (a b : E) : (keyLe a b || keyLe b a) = true := by
  simp only [keyLe, Bool.or_eq_true, decide_eq_true_eq]
  omega
abbrev Srtd (es : List E) : Prop := es.Pairwise fun a b => a.1 ≤ b.1
def upTo (es : List E) (r : Int) : Nat := es.countP fun e => decide (e.1 ≤ r)
def leastOf (es : List E) (c : Nat) : Int := if c = 0 then 0 else (es.getD (c - 1) (0, 0, 0)).2.1 + 1
def mostOf (es : List E) (c : Nat) (many : Int) : Int := if c = es.length then many else (es.getD c (0, 0, 0)).2.2
def moveE (os : List E) (more : Int) (e : E) : E := (e.1, e.2.1 + leastOf os (upTo os e.1), e.2.2 + mostOf os (upTo os (e.1 - 1)) more)
def movedM (es os : List E) (more : Int) : List E := es.map (moveE os more)
def joinM (a : List E) (many : Int) (b : List E) (more : Int) : List E := (movedM a b more ++ movedM b a many).mergeSort keyLe
def halvedM : List E → List E
  | _ :: y :: t => y :: halvedM t
  | _ => []
def intLe (a b : Int) : Bool := decide (a ≤ b)
theorem intLe_trans (a b c : Int) (h1 : intLe a b = true) (h2 : intLe b c = true) : intLe a c = true := by
  simp only [intLe, decide_eq_true_eq] at *
  omega
theorem intLe_total (a b : Int) : (intLe a b || intLe b a) = true := by
  simp only [intLe, Bool.or_eq_true, decide_eq_true_eq]
  omega
def srt (row : List Int) : List Int := row.mergeSort intLe
def enumE (k : Nat) : List Int → List E
  | [] => []
  | r :: t => (r, (k : Int), (k : Int)) :: enumE (k + 1) t
def exactM (row : List Int) : List E := enumE 0 (srt row)

/-! ### one sorted arrangement -/
theorem srt_perm (row : List Int) : (srt row).Perm row := List.mergeSort_perm _ _
theorem srt_sorted (row : List Int) : (srt row).Pairwise (· ≤ ·) := by
  have h := List.pairwise_mergeSort intLe_trans intLe_total row
  exact h.imp fun {a b} q => by simpa [intLe] using q
theorem srt_of {row l : List Int} (hp : l.Perm row) (hs : l.Pairwise (· ≤ ·)) : l = srt row :=
  List.Perm.eq_of_pairwise (le := (· ≤ ·)) (fun a b _ _ h1 h2 => Int.le_antisymm h1 h2) hs (srt_sorted row) (hp.trans (srt_perm row).symm)
theorem srt_length (row : List Int) : (srt row).length = row.length := (srt_perm row).length_eq

/-- two sorted lists with the same rows of like keys are one -/
theorem stable_one : ∀ {l m : List E}, Srtd l → Srtd m → (∀ z : Int, l.filter (fun e => decide (e.1 = z)) = m.filter (fun e => decide (e.1 = z))) → l = m
  | [], [], _, _, _ => rfl
  | [], y :: m, _, _, h => by
    have q := h y.1
    simp at q
  | x :: l, [], _, _, h => by
    have q := h x.1
    simp at q
  | x :: l, y :: m, hl, hm, h => by
    have exy : x.1 = y.1 := by
      have h1 : x ∈ (y :: m).filter (fun e => decide (e.1 = x.1)) := by
        rw [← h x.1]
        simp
      have h2 : y ∈ (x :: l).filter (fun e => decide (e.1 = y.1)) := by
        rw [h y.1]
        simp
      have h3 := (List.mem_filter.mp h1).1
      have h4 := (List.mem_filter.mp h2).1
      have h5 : y.1 ≤ x.1 := by
        rcases List.mem_cons.mp h3 with e | e
        · rw [e]; exact Int.le_refl _
        · exact List.rel_of_pairwise_cons hm e
      have h6 : x.1 ≤ y.1 := by
        rcases List.mem_cons.mp h4 with e | e
        · rw [e]; exact Int.le_refl _
        · exact List.rel_of_pairwise_cons hl e
      omega
    have e0 : x = y := by
      have q := h x.1
      rw [List.filter_cons_of_pos (by simp), List.filter_cons_of_pos (by simp [exy])] at q
      exact (List.cons.inj q).1
    subst e0
    rw [stable_one (l := l) (m := m) hl.tail hm.tail fun z => ?_]
    have q := h z
    by_cases c : x.1 = z
    · rw [List.filter_cons_of_pos (by simp [c]), List.filter_cons_of_pos (by simp [c])] at q
      exact (List.cons.inj q).2
    · rw [List.filter_cons_of_neg (by simp [c]), List.filter_cons_of_neg (by simp [c])] at q
      exact q
theorem keySorted (l : List E) : Srtd (l.mergeSort keyLe) := by
  have h := List.pairwise_mergeSort keyLe_trans keyLe_total l
  exact h.imp fun {a b} q => by simpa [keyLe] using q
theorem keyStable (l : List E) (z : Int) : (l.mergeSort keyLe).filter (fun e => decide (e.1 = z)) = l.filter (fun e => decide (e.1 = z)) := by
  have hp : (l.filter (fun e => decide (e.1 = z))).Pairwise (fun a b => keyLe a b = true) := by
    rw [List.pairwise_filter]
    refine List.pairwise_of_forall fun a b h1 h2 => ?_
    simp only [decide_eq_true_eq] at h1 h2
    simp only [keyLe, decide_eq_true_eq]
    omega
  have hs := List.sublist_mergeSort keyLe_trans keyLe_total hp (List.filter_sublist (p := fun e => decide (e.1 = z)) (l := l))
  have h2 := hs.filter (fun e => decide (e.1 = z))
  rw [List.filter_filter] at h2
  simp only [Bool.and_self] at h2
  exact (h2.eq_of_length ((List.mergeSort_perm l keyLe).filter _).length_eq.symm).symm
theorem merge_filter : ∀ {a b : List E}, Srtd a → Srtd b → ∀ z : Int, (a.merge b keyLe).filter (fun e => decide (e.1 = z)) = a.filter (fun e => decide (e.1 = z)) ++ b.filter (fun e => decide (e.1 = z))
  | [], b, _, _, z => by simp
  | x :: a, [], _, _, z => by simp
  | x :: a, y :: b, ha, hb, z => by
    rw [List.cons_merge_cons]
    by_cases c : keyLe x y = true
    · rw [if_pos c]
      have ih := merge_filter (a := a) (b := y :: b) ha.tail hb z
      by_cases d : x.1 = z
      · rw [List.filter_cons_of_pos (by simp [d]), List.filter_cons_of_pos (p := fun e : E => decide (e.1 = z)) (a := x) (by simp [d]), ih]
        rfl
      · rw [List.filter_cons_of_neg (by simp [d]), List.filter_cons_of_neg (p := fun e : E => decide (e.1 = z)) (a := x) (by simp [d]), ih]
    · rw [if_neg c]
      have ih := merge_filter (a := x :: a) (b := b) ha hb.tail z
      have hxy : y.1 < x.1 := by
        simp only [keyLe, decide_eq_true_eq] at c
        omega
      by_cases d : y.1 = z
      · have hn : (x :: a).filter (fun e => decide (e.1 = z)) = [] := by
          rw [List.filter_eq_nil_iff]
          intro e he
          simp only [decide_eq_true_eq]
          rcases List.mem_cons.mp he with q | q
          · rw [q]; omega
          · have := List.rel_of_pairwise_cons ha q
            omega
        rw [List.filter_cons_of_pos (by simp [d]), ih, hn, List.filter_cons_of_pos (p := fun e : E => decide (e.1 = z)) (a := y) (by simp [d])]
        rfl
      · rw [List.filter_cons_of_neg (by simp [d]), ih, List.filter_cons_of_neg (p := fun e : E => decide (e.1 = z)) (a := y) (by simp [d])]
termination_by a b => a.length + b.length
theorem merge_sorted {a b : List E} (ha : Srtd a) (hb : Srtd b) : Srtd (a.merge b keyLe) := by
  have h := List.pairwise_merge (le := keyLe) keyLe_trans keyLe_total a b (ha.imp fun {a b} q => by simpa [keyLe] using q) (hb.imp fun {a b} q => by simpa [keyLe] using q)
  exact h.imp fun {a b} q => by simpa [keyLe] using q
/-- a sorted, stable arrangement of two sorted rows is their merge -/
theorem merge_of {a b l : List E} (ha : Srtd a) (hb : Srtd b) (hl : Srtd l) (hf : ∀ z : Int, l.filter (fun e => decide (e.1 = z)) = (a ++ b).filter (fun e => decide (e.1 = z))) : l = a.merge b keyLe :=
  stable_one hl (merge_sorted ha hb) fun z => by rw [hf z, List.filter_append, merge_filter ha hb z]
theorem moved_sorted {es os : List E} {more : Int} (h : Srtd es) : Srtd (movedM es os more) := by
  unfold movedM
  rw [Srtd, List.pairwise_map]
  exact h
theorem joinM_merge {a b : List E} {many more : Int} (ha : Srtd a) (hb : Srtd b) : joinM a many b more = (movedM a b more).merge (movedM b a many) keyLe :=
  merge_of (moved_sorted ha) (moved_sorted hb) (keySorted _) fun z => keyStable _ z
theorem joinM_sorted (a b : List E) (many more : Int) : Srtd (joinM a many b more) := keySorted _
theorem joinM_length (a b : List E) (many more : Int) : (joinM a many b more).length = a.length + b.length := by
  unfold joinM movedM
  rw [List.length_mergeSort, List.length_append, List.length_map, List.length_map]
theorem halvedM_length : ∀ es : List E, (halvedM es).length = es.length / 2
  | [] => by simp [halvedM]
  | [_] => by simp [halvedM]
  | x :: y :: t => by
    show (halvedM t).length + 1 = (t.length + 1 + 1) / 2
    rw [halvedM_length t]
    omega
theorem halvedM_sub : ∀ es : List E, (halvedM es).Sublist es
  | [] => .slnil
  | [x] => .cons _ .slnil
  | x :: y :: t => .cons _ (.cons_cons _ (halvedM_sub t))
theorem halvedM_sorted {es : List E} (h : Srtd es) : Srtd (halvedM es) := h.sublist (halvedM_sub es)
theorem enumE_length : ∀ (l : List Int) (k : Nat), (enumE k l).length = l.length
  | [], _ => rfl
  | _ :: t, k => by
    show (enumE (k + 1) t).length + 1 = t.length + 1
    rw [enumE_length t]
theorem exactM_length (row : List Int) : (exactM row).length = row.length := by
  unfold exactM
  rw [enumE_length, srt_length]
theorem enumE_keys : ∀ (l : List Int) (k : Nat), (enumE k l).map (·.1) = l
  | [], _ => rfl
  | a :: t, k => by
    show a :: (enumE (k + 1) t).map (·.1) = a :: t
    rw [enumE_keys t]
theorem exactM_sorted (row : List Int) : Srtd (exactM row) := by
  have h := srt_sorted row
  rw [← enumE_keys (srt row) 0, List.pairwise_map] at h
  exact h
theorem enumE_get : ∀ (l : List Int) (k i : Nat), (enumE k l)[i]? = (l[i]?).map fun r => (r, ((k + i : Nat) : Int), ((k + i : Nat) : Int))
  | [], _, _ => by simp [enumE]
  | a :: t, k, 0 => by simp [enumE]
  | a :: t, k, i + 1 => by
    have ih := enumE_get t (k + 1) i
    have e : k + 1 + i = k + (i + 1) := by omega
    rw [e] at ih
    simpa [enumE] using ih

/-! ### how many are no greater -/
theorem upTo_le (es : List E) (r : Int) : upTo es r ≤ es.length := List.countP_le_length
theorem upTo_split {a b : List E} {r : Int} (h1 : ∀ e ∈ a, e.1 ≤ r) (h2 : ∀ e ∈ b, r < e.1) : upTo (a ++ b) r = a.length := by
  unfold upTo
  rw [List.countP_append, List.countP_eq_length.mpr (fun e he => by simpa using h1 e he), List.countP_eq_zero.mpr (fun e he => by have := h2 e he; simp; omega)]
  omega
/-- by place -/
theorem upTo_at {es : List E} (hs : Srtd es) {r : Int} {i : Nat} {e : E} (h : es[i]? = some e) : e.1 ≤ r ↔ i < upTo es r := by
  induction es generalizing i with
  | nil => simp at h
  | cons x t ih =>
    unfold upTo
    by_cases c : x.1 ≤ r
    · rw [List.countP_cons_of_pos (by simpa using c)]
      cases i with
      | zero =>
        have e0 : x = e := by simpa using h
        subst e0
        constructor
        · intro _; omega
        · intro _; exact c
      | succ i =>
        have hi : t[i]? = some e := by simpa using h
        have := ih hs.tail hi
        unfold upTo at this
        rw [this]
        omega
    · rw [List.countP_cons_of_neg (by simpa using c)]
      have hz : t.countP (fun e => decide (e.1 ≤ r)) = 0 := by
        rw [List.countP_eq_zero]
        intro y hy
        have := List.rel_of_pairwise_cons hs hy
        simp
        omega
      rw [hz]
      constructor
      · intro q
        exfalso
        have hm : e ∈ x :: t := List.mem_of_getElem? h
        rcases List.mem_cons.mp hm with z | z
        · rw [z] at q; exact c q
        · have := List.rel_of_pairwise_cons hs z
          omega
      · intro q; omega
theorem upTo_cut {es : List E} (hs : Srtd es) (r : Int) : (∀ e ∈ es.take (upTo es r), e.1 ≤ r) ∧ ∀ e ∈ es.drop (upTo es r), r < e.1 := by
  constructor
  · intro e he
    obtain ⟨i, hi⟩ := List.mem_iff_getElem?.mp he
    rw [List.getElem?_take] at hi
    split at hi
    · rename_i hlt
      exact (upTo_at hs hi).mpr hlt
    · cases hi
  · intro e he
    obtain ⟨i, hi⟩ := List.mem_iff_getElem?.mp he
    rw [List.getElem?_drop] at hi
    have := (upTo_at hs (r := r) hi)
    omega
theorem upTo_mono {es : List E} {r q : Int} (h : r ≤ q) : upTo es r ≤ upTo es q := by
  unfold upTo
  refine List.countP_mono_left fun e _ he => ?_
  simp only [decide_eq_true_eq] at *
  omega
end RB

/-! Rows, what is true of them, and how far off the bounds are. -/
namespace RB
/-- a row: how many readings are less than a number, and how many there are -/
structure Row where
  lt : Int → Int
  n : Int
theorem Row.ext' {a b : Row} (h : ∀ x, a.lt x = b.lt x) (hn : a.n = b.n) : a = b := by
  cases a; cases b
  have : (fun x => _) = _ := funext h
  simp only at this hn
  simp [hn]
  exact this
def Row.nil : Row := ⟨fun _ => 0, 0⟩
def Row.add (a b : Row) : Row := ⟨fun x => a.lt x + b.lt x, a.n + b.n⟩
def Row.one (r : Int) (t : Int) : Row := ⟨fun x => if r < x then t else 0, t⟩
structure Row.Ok (R : Row) : Prop where
  mono : ∀ x y, x ≤ y → R.lt x ≤ R.lt y
  lo : ∀ x, 0 ≤ R.lt x
  hi : ∀ x, R.lt x ≤ R.n
theorem Row.nil_ok : Row.nil.Ok := ⟨fun _ _ _ => Int.le_refl _, fun _ => Int.le_refl _, fun _ => Int.le_refl _⟩
theorem Row.add_ok {a b : Row} (ha : a.Ok) (hb : b.Ok) : (a.add b).Ok :=
  ⟨fun x y h => Int.add_le_add (ha.mono x y h) (hb.mono x y h), fun x => Int.add_nonneg (ha.lo x) (hb.lo x), fun x => Int.add_le_add (ha.hi x) (hb.hi x)⟩
theorem Row.one_ok {r t : Int} (h : 0 ≤ t) : (Row.one r t).Ok := by
  refine ⟨fun x y hxy => ?_, fun x => ?_, fun x => ?_⟩
  all_goals simp only [Row.one]
  · split <;> split <;> omega
  · split <;> omega
  · split <;> omega
theorem Row.add_comm (a b : Row) : a.add b = b.add a := Row.ext' (fun x => Int.add_comm _ _) (Int.add_comm _ _)
theorem Row.add_assoc (a b c : Row) : (a.add b).add c = a.add (b.add c) := Row.ext' (fun x => Int.add_assoc _ _ _) (Int.add_assoc _ _ _)
theorem Row.nil_add (a : Row) : Row.nil.add a = a := Row.ext' (fun x => Int.zero_add _) (Int.zero_add _)
theorem Row.add_nil (a : Row) : a.add Row.nil = a := Row.ext' (fun x => Int.add_zero _) (Int.add_zero _)
theorem Row.n_nonneg {R : Row} (h : R.Ok) : 0 ≤ R.n := Int.le_trans (h.lo 0) (h.hi 0)
/-- the row of a list -/
def rowOf : List Int → Row
  | [] => Row.nil
  | r :: t => (Row.one r 1).add (rowOf t)
theorem rowOf_ok : ∀ l : List Int, (rowOf l).Ok
  | [] => Row.nil_ok
  | r :: t => Row.add_ok (Row.one_ok (by decide)) (rowOf_ok t)
theorem rowOf_n : ∀ l : List Int, (rowOf l).n = (l.length : Int)
  | [] => rfl
  | r :: t => by
    show 1 + (rowOf t).n = ((t.length + 1 : Nat) : Int)
    rw [rowOf_n t]
    omega
theorem rowOf_append : ∀ a b : List Int, rowOf (a ++ b) = (rowOf a).add (rowOf b)
  | [], b => (Row.nil_add _).symm
  | r :: t, b => by
    show (Row.one r 1).add (rowOf (t ++ b)) = ((Row.one r 1).add (rowOf t)).add (rowOf b)
    rw [rowOf_append t b, Row.add_assoc]
theorem rowOf_perm {a b : List Int} (h : a.Perm b) : rowOf a = rowOf b := by
  induction h with
  | nil => rfl
  | cons x _ ih => show (Row.one x 1).add _ = (Row.one x 1).add _; rw [ih]
  | swap x y l => show (Row.one y 1).add ((Row.one x 1).add _) = (Row.one x 1).add ((Row.one y 1).add _); rw [← Row.add_assoc, ← Row.add_assoc, Row.add_comm (Row.one y 1)]
  | trans _ _ h1 h2 => exact h1.trans h2
theorem rowOf_lt : ∀ (l : List Int) (x : Int), (rowOf l).lt x = (l.countP fun r => decide (r < x) : Nat)
  | [], x => rfl
  | r :: t, x => by
    show (if r < x then 1 else 0) + (rowOf t).lt x = _
    rw [rowOf_lt t x, List.countP_cons]
    by_cases c : r < x
    · simp [c]; omega
    · simp [c]
theorem rowOf_replicate (r : Int) : ∀ t : Nat, rowOf (List.replicate t r) = Row.one r t
  | 0 => Row.ext' (fun x => by simp [rowOf, Row.nil, Row.one]) rfl
  | t + 1 => by
    show (Row.one r 1).add (rowOf (List.replicate t r)) = _
    rw [rowOf_replicate r t]
    refine Row.ext' (fun x => ?_) ?_
    · simp only [Row.one, Row.add]
      split <;> omega
    · simp only [Row.one, Row.add]
      omega
/-- the entry is true of the row -/
structure Tru (R : Row) (e : E) : Prop where
  here : R.lt e.1 < R.lt (e.1 + 1)
  least : e.2.1 + 1 ≤ R.lt (e.1 + 1)
  most : R.lt e.1 ≤ e.2.2
/-- weights: how many readings the entries speak for; a of them ahead -/
def Lin (err : Int) : Int → List E → List Int → Prop
  | _, [], [] => True
  | a, e :: es, w :: ws => a + w ≤ e.2.1 + 1 ∧ e.2.2 ≤ a + err ∧ 0 ≤ w ∧ Lin err (a + w) es ws
  | _, _, _ => False
structure Gd (R : Row) (err : Int) (es : List E) (ws : List Int) : Prop where
  ok : R.Ok
  srt : Srtd es
  tru : ∀ e ∈ es, Tru R e
  lin : Lin err 0 es ws
  sum : ws.sum = R.n
  err0 : 0 ≤ err
theorem Lin.length {err : Int} : ∀ {es : List E} {ws : List Int} {a : Int}, Lin err a es ws → es.length = ws.length
  | [], [], _, _ => rfl
  | _ :: es, _ :: ws, _, h => by
    have := Lin.length h.2.2.2
    simp [this]
  | [], _ :: _, _, h => h.elim
  | _ :: _, [], _, h => h.elim
theorem Lin.nonneg {err : Int} : ∀ {es : List E} {ws : List Int} {a : Int}, Lin err a es ws → ∀ w ∈ ws, 0 ≤ w
  | [], [], _, _, _, h => by cases h
  | _ :: es, w' :: ws, _, h, w, hw => by
    rcases List.mem_cons.mp hw with e | e
    · rw [e]; exact h.2.2.1
    · exact Lin.nonneg h.2.2.2 w e
theorem sum_take_le {ws : List Int} (h : ∀ w ∈ ws, 0 ≤ w) : ∀ {i j : Nat}, i ≤ j → (ws.take i).sum ≤ (ws.take j).sum := by
  induction ws with
  | nil => intro i j _; simp
  | cons w t ih =>
    intro i j hij
    cases i with
    | zero =>
      cases j with
      | zero => simp
      | succ j =>
        have h1 := ih (fun w hw => h w (List.mem_cons_of_mem _ hw)) (Nat.zero_le j)
        have h2 := h w List.mem_cons_self
        simp only [List.take_zero, List.sum_nil, List.take_succ_cons, List.sum_cons] at *
        omega
    | succ i =>
      cases j with
      | zero => omega
      | succ j =>
        have h1 := ih (fun w hw => h w (List.mem_cons_of_mem _ hw)) (by omega : i ≤ j)
        simp only [List.take_succ_cons, List.sum_cons]
        omega
theorem Lin.at_ {err : Int} : ∀ {es : List E} {ws : List Int} {a : Int}, Lin err a es ws → ∀ {i : Nat} {e : E}, es[i]? = some e → a + (ws.take (i + 1)).sum ≤ e.2.1 + 1 ∧ e.2.2 ≤ a + (ws.take i).sum + err
  | [], [], _, _, i, e, he => by simp at he
  | x :: es, w :: ws, a, h, 0, e, he => by
    have e0 : x = e := by simpa using he
    subst e0
    simp
    exact ⟨h.1, h.2.1⟩
  | x :: es, w :: ws, a, h, i + 1, e, he => by
    have hi : es[i]? = some e := by simpa using he
    have := Lin.at_ h.2.2.2 hi
    simp only [List.take_succ_cons, List.sum_cons]
    omega
/-- the two bounds at a cut -/
theorem Lin.leastOf {err : Int} {es : List E} {ws : List Int} (h : Lin err 0 es ws) {c : Nat} (hc : c ≤ es.length) : (ws.take c).sum ≤ leastOf es c := by
  unfold RB.leastOf
  cases c with
  | zero => simp
  | succ c =>
    rw [if_neg (by omega)]
    have he : es[c]? = some es[c] := List.getElem?_eq_getElem (by omega)
    have := (h.at_ he).1
    rw [show c + 1 - 1 = c by omega, List.getD_eq_getElem?_getD, he]
    simp only [Option.getD_some]
    omega
theorem Lin.mostOf {err : Int} {es : List E} {ws : List Int} (h : Lin err 0 es ws) (he0 : 0 ≤ err) {c : Nat} (hc : c ≤ es.length) {many : Int} (hm : ws.sum = many) : mostOf es c many ≤ (ws.take c).sum + err := by
  unfold RB.mostOf
  by_cases hl : c = es.length
  · rw [if_pos hl, List.take_of_length_le (by rw [← h.length]; omega)]
    omega
  · rw [if_neg hl]
    have he : es[c]? = some es[c] := List.getElem?_eq_getElem (by omega)
    have := (h.at_ he).2
    rw [List.getD_eq_getElem?_getD, he]
    simp only [Option.getD_some]
    omega
/-! ### truth of the joined -/
theorem Tru.moved {R S : Row} {e : E} {os : List E} (hR : Tru R e) (hS : S.Ok) (hs : Srtd os) (ho : ∀ o ∈ os, Tru S o) : Tru (R.add S) (moveE os S.n e) := by
  refine ⟨?_, ?_, ?_⟩
  · show R.lt e.1 + S.lt e.1 < R.lt (e.1 + 1) + S.lt (e.1 + 1)
    have := hR.here
    have := hS.mono e.1 (e.1 + 1) (by omega)
    omega
  · show e.2.1 + leastOf os (upTo os e.1) + 1 ≤ R.lt (e.1 + 1) + S.lt (e.1 + 1)
    have h1 := hR.least
    have h2 : leastOf os (upTo os e.1) ≤ S.lt (e.1 + 1) := by
      unfold leastOf
      split
      · exact hS.lo _
      · rename_i hc
        have hl := upTo_le os e.1
        have hi : os[upTo os e.1 - 1]? = some os[upTo os e.1 - 1] := List.getElem?_eq_getElem (by omega)
        have hle := (upTo_at hs (r := e.1) hi).mpr (by omega)
        have ht := (ho _ (List.mem_of_getElem? hi)).least
        have hm := hS.mono (os[upTo os e.1 - 1].1 + 1) (e.1 + 1) (by omega)
        rw [List.getD_eq_getElem?_getD, hi]
        simp only [Option.getD_some]
        omega
    omega
  · show R.lt e.1 + S.lt e.1 ≤ e.2.2 + mostOf os (upTo os (e.1 - 1)) S.n
    have h1 := hR.most
    have h2 : S.lt e.1 ≤ mostOf os (upTo os (e.1 - 1)) S.n := by
      unfold mostOf
      split
      · exact hS.hi _
      · rename_i hc
        have hl := upTo_le os (e.1 - 1)
        have hi : os[upTo os (e.1 - 1)]? = some os[upTo os (e.1 - 1)] := List.getElem?_eq_getElem (by omega)
        have hle : ¬ os[upTo os (e.1 - 1)].1 ≤ e.1 - 1 := fun q => by
          have := (upTo_at hs (r := e.1 - 1) hi).mp q
          omega
        have ht := (ho _ (List.mem_of_getElem? hi)).most
        have hm := hS.mono e.1 os[upTo os (e.1 - 1)].1 (by omega)
        rw [List.getD_eq_getElem?_getD, hi]
        simp only [Option.getD_some]
        omega
    omega
/-! ### how far off: the merge -/
theorem take_append_sum (a b : List Int) : ((a ++ b).take a.length).sum = a.sum := by simp
theorem lin_merge {errA errB : Int} {A B : List E} {wA wB : List Int} {nA nB : Int} (hA : Lin errA 0 A wA) (hB : Lin errB 0 B wB) (eA : 0 ≤ errA) (eB : 0 ≤ errB) (sA : Srtd A) (sB : Srtd B) (tA : wA.sum = nA) (tB : wB.sum = nB) :
    ∀ (A1 A2 B1 B2 : List E) (u1 u2 v1 v2 : List Int), A = A1 ++ A2 → B = B1 ++ B2 → wA = u1 ++ u2 → wB = v1 ++ v2 → A1.length = u1.length → B1.length = v1.length → A2.length = u2.length → B2.length = v2.length →
      (∀ x ∈ B1, ∀ y ∈ A2, x.1 < y.1) → (∀ x ∈ A1, ∀ y ∈ B2, x.1 ≤ y.1) →
      ∃ ws : List Int, ws.Perm (u2 ++ v2) ∧ Lin (errA + errB) (u1.sum + v1.sum) ((movedM A2 B nB).merge (movedM B2 A nA) keyLe) ws := by
  have stepA : ∀ (A1 : List E) (x : E) (A2 B1 B2 : List E) (u1 : List Int) (p : Int) (u2 v1 v2 : List Int), A = A1 ++ x :: A2 → B = B1 ++ B2 → wA = u1 ++ p :: u2 → wB = v1 ++ v2 → A1.length = u1.length → B1.length = v1.length →
      (∀ z ∈ B1, z.1 < x.1) → (∀ z ∈ B2, x.1 ≤ z.1) → u1.sum + v1.sum + p ≤ (moveE B nB x).2.1 + 1 ∧ (moveE B nB x).2.2 ≤ u1.sum + v1.sum + (errA + errB) ∧ 0 ≤ p := by
    intro A1 x A2 B1 B2 u1 p u2 v1 v2 e1 e2 e3 e4 l1 l2 h1 h2
    have hx : A[A1.length]? = some x := by rw [e1]; simp
    have q := hA.at_ hx
    have t1 : (wA.take (A1.length + 1)).sum = u1.sum + p := by
      rw [e3, l1, show u1 ++ p :: u2 = (u1 ++ [p]) ++ u2 by simp, List.take_append_of_le_length (by simp), List.take_of_length_le (by simp)]
      simp
    have t2 : (wA.take A1.length).sum = u1.sum := by rw [e3, l1, take_append_sum]
    have hc : upTo B (x.1 - 1) = B1.length := by
      rw [e2]
      exact upTo_split (fun e he => by have := h1 e he; omega) (fun e he => by have := h2 e he; omega)
    have hu : B1.length ≤ upTo B x.1 := by rw [← hc]; exact upTo_mono (by omega)
    have g1 := hB.leastOf (upTo_le B x.1)
    have g2 := sum_take_le hB.nonneg hu
    have t3 : (wB.take B1.length).sum = v1.sum := by rw [e4, l2, take_append_sum]
    have g3 := hB.mostOf eB (c := B1.length) (by rw [← hc]; exact upTo_le _ _) tB
    have hp : 0 ≤ p := hA.nonneg p (by rw [e3]; simp)
    refine ⟨?_, ?_, hp⟩
    · show u1.sum + v1.sum + p ≤ x.2.1 + leastOf B (upTo B x.1) + 1
      omega
    · show x.2.2 + mostOf B (upTo B (x.1 - 1)) nB ≤ _
      rw [hc]
      omega
  have stepB : ∀ (B1 : List E) (y : E) (B2 A1 A2 : List E) (v1 : List Int) (p : Int) (v2 u1 u2 : List Int), B = B1 ++ y :: B2 → A = A1 ++ A2 → wB = v1 ++ p :: v2 → wA = u1 ++ u2 → B1.length = v1.length → A1.length = u1.length →
      (∀ z ∈ A1, z.1 ≤ y.1) → (∀ z ∈ A2, y.1 < z.1) → u1.sum + v1.sum + p ≤ (moveE A nA y).2.1 + 1 ∧ (moveE A nA y).2.2 ≤ u1.sum + v1.sum + (errA + errB) ∧ 0 ≤ p := by
    intro B1 y B2 A1 A2 v1 p v2 u1 u2 e1 e2 e3 e4 l1 l2 h1 h2
    have hx : B[B1.length]? = some y := by rw [e1]; simp
    have q := hB.at_ hx
    have t1 : (wB.take (B1.length + 1)).sum = v1.sum + p := by
      rw [e3, l1, show v1 ++ p :: v2 = (v1 ++ [p]) ++ v2 by simp, List.take_append_of_le_length (by simp), List.take_of_length_le (by simp)]
      simp
    have t2 : (wB.take B1.length).sum = v1.sum := by rw [e3, l1, take_append_sum]
    have hc : upTo A y.1 = A1.length := by
      rw [e2]
      exact upTo_split h1 h2
    have hu : upTo A (y.1 - 1) ≤ A1.length := by rw [← hc]; exact upTo_mono (by omega)
    have g1 := hA.leastOf (c := A1.length) (by rw [← hc]; exact upTo_le _ _)
    have t3 : (wA.take A1.length).sum = u1.sum := by rw [e4, l2, take_append_sum]
    have g3 := hA.mostOf eA (upTo_le A (y.1 - 1)) tA
    have g2 := sum_take_le hA.nonneg hu
    have hp : 0 ≤ p := hB.nonneg p (by rw [e3]; simp)
    refine ⟨?_, ?_, hp⟩
    · show u1.sum + v1.sum + p ≤ y.2.1 + leastOf A (upTo A y.1) + 1
      rw [hc]
      omega
    · show y.2.2 + mostOf A (upTo A (y.1 - 1)) nA ≤ _
      omega
  intro A1 A2
  induction A2 generalizing A1 with
  | nil =>
    intro B1 B2 u1 u2 v1 v2 e1 e2 e3 e4 l1 l2 l3 l4 _ hAB
    have hu2 : u2 = [] := List.length_eq_zero_iff.mp (by simpa using l3.symm)
    subst hu2
    induction B2 generalizing B1 v1 v2 with
    | nil =>
      have hv2 : v2 = [] := List.length_eq_zero_iff.mp (by simpa using l4.symm)
      subst hv2
      exact ⟨[], by simp, by simp [movedM, Lin]⟩
    | cons y B2 ih =>
      cases v2 with
      | nil => simp at l4
      | cons p v2 =>
        obtain ⟨k1, k2, k3⟩ := stepB B1 y B2 A1 [] v1 p v2 u1 [] e2 e1 e4 e3 l2 l1 (fun z hz => hAB z hz y List.mem_cons_self) (by simp)
        obtain ⟨ws, hp, hl⟩ := ih (B1 ++ [y]) (v1 ++ [p]) v2 (by rw [e2]; simp) (by rw [e4]; simp) (by simp [l2]) (by simpa using l4) (by simp) (fun x hx z hz => hAB x hx z (List.mem_cons_of_mem _ hz))
        refine ⟨p :: ws, by simpa using hp, ?_⟩
        have em : (movedM [] B nB).merge (movedM (y :: B2) A nA) keyLe = moveE A nA y :: (movedM [] B nB).merge (movedM B2 A nA) keyLe := by simp [movedM]
        rw [em]
        refine ⟨k1, k2, k3, ?_⟩
        have : u1.sum + v1.sum + p = u1.sum + (v1 ++ [p]).sum := by simp; omega
        rw [this]
        exact hl
  | cons x A2 ihA =>
    intro B1 B2 u1 u2 v1 v2 e1 e2 e3 e4 l1 l2 l3 l4 hBA hAB
    cases u2 with
    | nil => simp at l3
    | cons p u2 =>
    have sA' : Srtd (x :: A2) := by rw [e1] at sA; exact (List.pairwise_append.mp sA).2.1
    induction B2 generalizing B1 v1 v2 with
    | nil =>
      have hv2 : v2 = [] := List.length_eq_zero_iff.mp (by simpa using l4.symm)
      subst hv2
      obtain ⟨k1, k2, k3⟩ := stepA A1 x A2 B1 [] u1 p u2 v1 [] e1 e2 e3 e4 l1 l2 (fun z hz => hBA z hz x List.mem_cons_self) (by simp)
      obtain ⟨ws, hp, hl⟩ := ihA (A1 ++ [x]) B1 [] (u1 ++ [p]) u2 v1 [] (by rw [e1]; simp) e2 (by rw [e3]; simp) e4 (by simp [l1]) l2 (by simpa using l3) rfl (fun z hz y hy => hBA z hz y (List.mem_cons_of_mem _ hy)) (by simp)
      refine ⟨p :: ws, by simpa using hp, ?_⟩
      have em : (movedM (x :: A2) B nB).merge (movedM [] A nA) keyLe = moveE B nB x :: (movedM A2 B nB).merge (movedM [] A nA) keyLe := by simp [movedM]
      rw [em]
      refine ⟨k1, k2, k3, ?_⟩
      have : u1.sum + v1.sum + p = (u1 ++ [p]).sum + v1.sum := by simp; omega
      rw [this]
      exact hl
    | cons y B2 ihB =>
      cases v2 with
      | nil => simp at l4
      | cons q v2 =>
      have sB' : Srtd (y :: B2) := by rw [e2] at sB; exact (List.pairwise_append.mp sB).2.1
      by_cases c : x.1 ≤ y.1
      · have hB2 : ∀ z ∈ y :: B2, x.1 ≤ z.1 := fun z hz => by
          rcases List.mem_cons.mp hz with e | e
          · rw [e]; exact c
          · have := List.rel_of_pairwise_cons sB' e
            omega
        obtain ⟨k1, k2, k3⟩ := stepA A1 x A2 B1 (y :: B2) u1 p u2 v1 (q :: v2) e1 e2 e3 e4 l1 l2 (fun z hz => hBA z hz x List.mem_cons_self) hB2
        obtain ⟨ws, hp, hl⟩ := ihA (A1 ++ [x]) B1 (y :: B2) (u1 ++ [p]) u2 v1 (q :: v2) (by rw [e1]; simp) e2 (by rw [e3]; simp) e4 (by simp [l1]) l2 (by simpa using l3) l4 (fun z hz y hy => hBA z hz y (List.mem_cons_of_mem _ hy))
          (fun z hz y' hy => by
            rcases List.mem_append.mp hz with h | h
            · exact hAB z h y' hy
            · rw [List.mem_singleton.mp h]; exact hB2 y' hy)
        refine ⟨p :: ws, by simpa using hp, ?_⟩
        have em : (movedM (x :: A2) B nB).merge (movedM (y :: B2) A nA) keyLe = moveE B nB x :: (movedM A2 B nB).merge (movedM (y :: B2) A nA) keyLe := by
          show (moveE B nB x :: movedM A2 B nB).merge (moveE A nA y :: movedM B2 A nA) keyLe = _
          rw [List.cons_merge_cons, if_pos (show keyLe (moveE B nB x) (moveE A nA y) = true from decide_eq_true c)]
          rfl
        rw [em]
        refine ⟨k1, k2, k3, ?_⟩
        have : u1.sum + v1.sum + p = (u1 ++ [p]).sum + v1.sum := by simp; omega
        rw [this]
        exact hl
      · have hA2 : ∀ z ∈ x :: A2, y.1 < z.1 := fun z hz => by
          rcases List.mem_cons.mp hz with e | e
          · rw [e]; omega
          · have := List.rel_of_pairwise_cons sA' e
            omega
        obtain ⟨k1, k2, k3⟩ := stepB B1 y B2 A1 (x :: A2) v1 q v2 u1 (p :: u2) e2 e1 e4 e3 l2 l1 (fun z hz => hAB z hz y List.mem_cons_self) hA2
        obtain ⟨ws, hp, hl⟩ := ihB (B1 ++ [y]) (v1 ++ [q]) v2 (by rw [e2]; simp) (by rw [e4]; simp) (by simp [l2]) (by simpa using l4)
          (fun z hz y' hy => by
            rcases List.mem_append.mp hz with h | h
            · exact hBA z h y' hy
            · rw [List.mem_singleton.mp h]; exact hA2 y' hy) (fun z hz y' hy => hAB z hz y' (List.mem_cons_of_mem _ hy))
        refine ⟨q :: ws, ?_, ?_⟩
        · have := hp.cons q
          refine this.trans ?_
          have h3 : (q :: ((p :: u2) ++ v2)).Perm ((p :: u2) ++ q :: v2) := (List.perm_middle (a := q) (l₁ := p :: u2) (l₂ := v2)).symm
          exact h3
        · have em : (movedM (x :: A2) B nB).merge (movedM (y :: B2) A nA) keyLe = moveE A nA y :: (movedM (x :: A2) B nB).merge (movedM B2 A nA) keyLe := by
            show (moveE B nB x :: movedM A2 B nB).merge (moveE A nA y :: movedM B2 A nA) keyLe = _
            rw [List.cons_merge_cons, if_neg (show ¬ keyLe (moveE B nB x) (moveE A nA y) = true from fun h => c (of_decide_eq_true h))]
            rfl
          rw [em]
          refine ⟨k1, k2, k3, ?_⟩
          have : u1.sum + v1.sum + q = u1.sum + (v1 ++ [q]).sum := by simp; omega
          rw [this]
          exact hl
theorem perm_sum {a b : List Int} (h : a.Perm b) : a.sum = b.sum := by
  induction h with
  | nil => rfl
  | cons x _ ih => simp [ih]
  | swap x y l => simp; omega
  | trans _ _ h1 h2 => exact h1.trans h2
theorem Gd.join {R S : Row} {e1 e2 : Int} {A B : List E} {wA wB : List Int} (hA : Gd R e1 A wA) (hB : Gd S e2 B wB) : ∃ ws : List Int, ws.Perm (wA ++ wB) ∧ Gd (R.add S) (e1 + e2) (joinM A R.n B S.n) ws := by
  obtain ⟨ws, hp, hl⟩ := lin_merge hA.lin hB.lin hA.err0 hB.err0 hA.srt hB.srt hA.sum hB.sum [] A [] B [] wA [] wB rfl rfl rfl rfl rfl rfl hA.lin.length hB.lin.length (by simp) (by simp)
  refine ⟨ws, hp, Row.add_ok hA.ok hB.ok, joinM_sorted _ _ _ _, fun e he => ?_, ?_, ?_, Int.add_nonneg hA.err0 hB.err0⟩
  · unfold joinM at he
    have he' := (List.mergeSort_perm _ _).mem_iff.mp he
    rcases List.mem_append.mp he' with h | h
    · obtain ⟨x, hx, rfl⟩ := List.mem_map.mp h
      exact (hA.tru x hx).moved hB.ok hB.srt hB.tru
    · obtain ⟨x, hx, rfl⟩ := List.mem_map.mp h
      rw [Row.add_comm]
      exact (hB.tru x hx).moved hA.ok hA.srt hA.tru
  · rw [joinM_merge hA.srt hB.srt]
    simpa using hl
  · rw [perm_sum hp, List.sum_append, hA.sum, hB.sum]
    rfl
theorem lin_halve {err w : Int} (hw : 0 ≤ w) : ∀ (m : Nat) (es : List E) (a : Int), Lin err a es (List.replicate (2 * m) w) → Lin (err + w) a (halvedM es) (List.replicate m (2 * w))
  | 0, es, a, h => by
    cases es with
    | nil => simp [halvedM, Lin]
    | cons x t => simp [Lin] at h
  | m + 1, es, a, h => by
    have e : List.replicate (2 * (m + 1)) w = w :: w :: List.replicate (2 * m) w := by
      rw [show 2 * (m + 1) = 2 * m + 1 + 1 by omega, List.replicate_succ, List.replicate_succ]
    rw [e] at h
    match es, h with
    | x :: y :: t, h =>
      obtain ⟨h1, h2, h3, h4, h5, h6, h7⟩ := h
      have ih := lin_halve hw m t (a + w + w) h7
      rw [List.replicate_succ]
      refine ⟨by omega, by omega, by omega, ?_⟩
      rw [show a + 2 * w = a + w + w by omega]
      exact ih
theorem replicate_sum (m : Nat) (w : Int) : (List.replicate m w).sum = m * w := by
  induction m with
  | zero => simp
  | succ m ih => rw [List.replicate_succ, List.sum_cons, ih, Int.natCast_add, Int.add_mul]; omega
theorem Gd.halve {R : Row} {err w : Int} {es : List E} {m : Nat} (hw : 0 ≤ w) (h : Gd R err es (List.replicate (2 * m) w)) : Gd R (err + w) (halvedM es) (List.replicate m (2 * w)) := by
  refine ⟨h.ok, halvedM_sorted h.srt, fun e he => h.tru e ((halvedM_sub es).subset he), lin_halve hw m es 0 h.lin, ?_, Int.add_nonneg h.err0 hw⟩
  rw [← h.sum, replicate_sum, replicate_sum, Int.natCast_mul]
  show (m : Int) * (2 * w) = (2 : Int) * (m : Int) * w
  rw [Int.mul_comm 2 (m : Int), Int.mul_assoc]
theorem lin_exact : ∀ (l : List Int) (k : Nat), Lin 0 k (enumE k l) (List.replicate l.length 1)
  | [], _ => by simp [enumE, Lin]
  | x :: t, k => by
    rw [List.length_cons, List.replicate_succ]
    refine ⟨Int.le_refl _, by simp, by decide, ?_⟩
    have := lin_exact t (k + 1)
    simpa using this
theorem enumE_tru : ∀ (pre l : List Int), (pre ++ l).Pairwise (· ≤ ·) → ∀ e ∈ enumE pre.length l, Tru (rowOf (pre ++ l)) e
  | pre, [], _, e, he => by simp [enumE] at he
  | pre, x :: t, h, e, he => by
    rcases List.mem_cons.mp he with q | q
    · subst q
      obtain ⟨p1, p2, p3⟩ := List.pairwise_append.mp h
      have c1 : pre.countP (fun r => decide (r < x + 1)) = pre.length := List.countP_eq_length.mpr fun r hr => by
        have := p3 r hr x List.mem_cons_self
        simp; omega
      have c2 : t.countP (fun r => decide (r < x)) = 0 := List.countP_eq_zero.mpr fun r hr => by
        have := List.rel_of_pairwise_cons p2 hr
        simp; omega
      have c3 : pre.countP (fun r => decide (r < x)) ≤ pre.length := List.countP_le_length
      have c4 : t.countP (fun r => decide (r < x)) ≤ t.countP (fun r => decide (r < x + 1)) := List.countP_mono_left fun r _ hr => by simp at *; omega
      have l1 : (rowOf (pre ++ x :: t)).lt x = ((pre.countP (fun r => decide (r < x)) + 0 : Nat) : Int) := by
        rw [rowOf_lt, List.countP_append, List.countP_cons_of_neg (by simp), c2]
      have l2 : (rowOf (pre ++ x :: t)).lt (x + 1) = ((pre.length + (t.countP (fun r => decide (r < x + 1)) + 1) : Nat) : Int) := by
        rw [rowOf_lt, List.countP_append, List.countP_cons_of_pos (by simp; omega), c1]
      refine ⟨?_, ?_, ?_⟩
      · show (rowOf (pre ++ x :: t)).lt x < (rowOf (pre ++ x :: t)).lt (x + 1)
        rw [l1, l2]; omega
      · show (pre.length : Int) + 1 ≤ (rowOf (pre ++ x :: t)).lt (x + 1)
        rw [l2]; omega
      · show (rowOf (pre ++ x :: t)).lt x ≤ (pre.length : Int)
        rw [l1]; omega
    · have e0 : pre ++ x :: t = (pre ++ [x]) ++ t := by simp
      have := enumE_tru (pre ++ [x]) t (by rw [← e0]; exact h) e (by simpa using q)
      rw [← e0] at this
      exact this
theorem Gd.exact (row : List Int) : Gd (rowOf row) 0 (exactM row) (List.replicate row.length 1) := by
  refine ⟨rowOf_ok _, exactM_sorted _, fun e he => ?_, ?_, ?_, Int.le_refl _⟩
  · have := enumE_tru [] (RB.srt row) (by simpa using srt_sorted row) e he
    rw [← rowOf_perm (srt_perm row)]
    simpa using this
  · have := lin_exact (RB.srt row) 0
    rw [srt_length] at this
    exact this
  · rw [replicate_sum, rowOf_n]; omega
theorem Gd.empty : Gd Row.nil 0 [] [] := ⟨Row.nil_ok, List.Pairwise.nil, by simp, trivial, rfl, Int.le_refl _⟩
/-! ### what is told of a reading, and of a place -/
theorem Gd.ahead {R : Row} {err : Int} {es : List E} {ws : List Int} (h : Gd R err es ws) (r : Int) :
    leastOf es (upTo es (r - 1)) ≤ R.lt r ∧ R.lt r ≤ mostOf es (upTo es (r - 1)) R.n ∧ mostOf es (upTo es (r - 1)) R.n - leastOf es (upTo es (r - 1)) ≤ err := by
  have hl := upTo_le es (r - 1)
  refine ⟨?_, ?_, ?_⟩
  · unfold leastOf
    split
    · exact h.ok.lo _
    · rename_i hc
      have hi : es[upTo es (r - 1) - 1]? = some es[upTo es (r - 1) - 1] := List.getElem?_eq_getElem (by omega)
      have hle := (upTo_at h.srt (r := r - 1) hi).mpr (by omega)
      have ht := (h.tru _ (List.mem_of_getElem? hi)).least
      have hm := h.ok.mono (es[upTo es (r - 1) - 1].1 + 1) r (by omega)
      rw [List.getD_eq_getElem?_getD, hi]
      simp only [Option.getD_some]
      omega
  · unfold mostOf
    split
    · exact h.ok.hi _
    · rename_i hc
      have hi : es[upTo es (r - 1)]? = some es[upTo es (r - 1)] := List.getElem?_eq_getElem (by omega)
      have hle : ¬ es[upTo es (r - 1)].1 ≤ r - 1 := fun q => by
        have := (upTo_at h.srt (r := r - 1) hi).mp q
        omega
      have ht := (h.tru _ (List.mem_of_getElem? hi)).most
      have hm := h.ok.mono r es[upTo es (r - 1)].1 (by omega)
      rw [List.getD_eq_getElem?_getD, hi]
      simp only [Option.getD_some]
      omega
  · have g1 := h.lin.leastOf hl
    have g2 := h.lin.mostOf h.err0 hl h.sum
    omega
def far (p : Int) (e : E) : Int := max (p - e.2.1) (e.2.2 - p)
def nearF (p : Int) (best e : E) : E := if far p e < far p best then e else best
def nearestE (es : List E) (p : Int) : E := es.foldl (nearF p) (es.headD (0, 0, 0))
theorem near_fold (p : Int) : ∀ (es : List E) (b : E), far p (es.foldl (nearF p) b) ≤ far p b ∧ (∀ e ∈ es, far p (es.foldl (nearF p) b) ≤ far p e) ∧ (es.foldl (nearF p) b = b ∨ es.foldl (nearF p) b ∈ es)
  | [], b => ⟨Int.le_refl _, by simp, .inl rfl⟩
  | x :: t, b => by
    obtain ⟨h1, h2, h3⟩ := near_fold p t (nearF p b x)
    have hb : far p (nearF p b x) ≤ far p b ∧ far p (nearF p b x) ≤ far p x := by
      unfold nearF
      split <;> omega
    refine ⟨Int.le_trans h1 hb.1, fun e he => ?_, ?_⟩
    · rcases List.mem_cons.mp he with q | q
      · rw [q]; exact Int.le_trans h1 hb.2
      · exact h2 e q
    · show t.foldl (nearF p) (nearF p b x) = b ∨ t.foldl (nearF p) (nearF p b x) ∈ x :: t
      rcases h3 with h | h
      · have : nearF p b x = b ∨ nearF p b x = x := by
          unfold nearF
          split
          · exact .inr rfl
          · exact .inl rfl
        rcases this with q | q
        · left; rw [h, q]
        · right; rw [h, q]; simp
      · right; exact List.mem_cons_of_mem _ h
theorem nearest_mem {es : List E} (p : Int) (h : es ≠ []) : nearestE es p ∈ es := by
  cases es with
  | nil => exact absurd rfl h
  | cons x t =>
    rcases (near_fold p (x :: t) x).2.2 with q | q
    · show (x :: t).foldl (nearF p) x ∈ x :: t
      rw [q]; simp
    · exact q
theorem lin_find {err : Int} : ∀ {es : List E} {ws : List Int} {a : Int}, Lin err a es ws → 0 ≤ err → ∀ p, a ≤ p → p < a + ws.sum → ∃ e ∈ es, far p e ≤ err
  | [], [], a, _, _, p, h1, h2 => by simp at h2; omega
  | x :: es, w :: ws, a, h, h0, p, h1, h2 => by
    by_cases c : p < a + w
    · refine ⟨x, List.mem_cons_self, ?_⟩
      have := h.1
      have := h.2.1
      unfold far
      omega
    · rw [List.sum_cons] at h2
      obtain ⟨e, he, hf⟩ := lin_find h.2.2.2 h0 p (by omega) (by omega)
      exact ⟨e, List.mem_cons_of_mem _ he, hf⟩
theorem Gd.near {R : Row} {err : Int} {es : List E} {ws : List Int} (h : Gd R err es ws) {p : Int} (h0 : 0 ≤ p) (h1 : p < R.n) :
    es ≠ [] ∧ R.lt (nearestE es p).1 < R.lt ((nearestE es p).1 + 1) ∧ R.lt (nearestE es p).1 - err ≤ p ∧ p ≤ R.lt ((nearestE es p).1 + 1) - 1 + err := by
  obtain ⟨e, he, hf⟩ := lin_find h.lin h.err0 p h0 (by rw [h.sum]; omega)
  have hne : es ≠ [] := by rintro rfl; cases he
  have hm := nearest_mem p hne
  have hle : far p (nearestE es p) ≤ far p e := (near_fold p es (es.headD (0, 0, 0))).2.1 e he
  have t := h.tru _ hm
  have t1 := t.here
  have t2 := t.least
  have t3 := t.most
  unfold far at hle hf
  refine ⟨hne, t1, ?_, ?_⟩ <;> omega
end RB

/-! Cups: their mirror and their laws. -/
namespace RB
abbrev Blk := Nat × List E
structure CupM where
  keep : Nat
  loose : List Int
  blocks : List Blk
def err (pl : Nat) : Nat := pl * 2 ^ pl / 2
theorem err_succ (pl : Nat) : err (pl + 1) = 2 * err pl + 2 ^ pl := by
  unfold err
  cases pl with
  | zero => rfl
  | succ n =>
    have h1 : (n + 1) * 2 ^ (n + 1) = 2 * ((n + 1) * 2 ^ n) := by rw [Nat.pow_succ]; simp only [Nat.mul_comm, Nat.mul_left_comm]
    have h2 : (n + 1 + 1) * 2 ^ (n + 1 + 1) = 2 * ((n + 1) * 2 ^ (n + 1) + 2 ^ (n + 1)) := by rw [Nat.pow_succ 2 (n + 1), Nat.add_mul (n + 1) 1, Nat.one_mul, Nat.mul_add]; simp only [Nat.mul_comm, Nat.mul_left_comm]
    rw [h2, Nat.mul_div_cancel_left _ (by decide), h1, Nat.mul_div_cancel_left _ (by decide)]
/-! ### digits -/
def digitsF : Nat → Nat → Nat → List Nat
  | 0, _, _ => []
  | f + 1, pl, n => if n = 0 then [] else if n % 2 = 1 then pl :: digitsF f (pl + 1) (n / 2) else digitsF f (pl + 1) (n / 2)
def digitsM (n : Nat) : List Nat := digitsF n 0 n
theorem digitsF_fuel : ∀ (f g pl n : Nat), n ≤ f → n ≤ g → digitsF f pl n = digitsF g pl n
  | 0, 0, _, _, _, _ => rfl
  | 0, g + 1, pl, n, h, _ => by
    have : n = 0 := by omega
    simp [digitsF, this]
  | f + 1, 0, pl, n, _, h => by
    have : n = 0 := by omega
    simp [digitsF, this]
  | f + 1, g + 1, pl, n, h1, h2 => by
    simp only [digitsF]
    split
    · rfl
    · rw [digitsF_fuel f g (pl + 1) (n / 2) (by omega) (by omega)]
/-- powers of two, each at most once, are the digits of their sum -/
theorem digits_of : ∀ (f pl n : Nat) (ks : List Nat), n ≤ f → ks.Pairwise (· < ·) → (∀ k ∈ ks, pl ≤ k) → (ks.map fun k => 2 ^ (k - pl)).sum = n → ks = digitsF f pl n
  | 0, pl, n, ks, h, _, _, hs => by
    cases ks with
    | nil => rfl
    | cons k t =>
      have : 0 < 2 ^ (k - pl) := Nat.pow_pos (by decide)
      simp at hs
      omega
  | f + 1, pl, n, ks, h, hp, hk, hs => by
    have shift : ∀ (t : List Nat), (∀ k ∈ t, pl + 1 ≤ k) → (t.map fun k => 2 ^ (k - pl)).sum = 2 * (t.map fun k => 2 ^ (k - (pl + 1))).sum := by
      intro t
      induction t with
      | nil => intro _; rfl
      | cons k t ih =>
        intro hk
        have h1 : k - pl = (k - (pl + 1)) + 1 := by have := hk k List.mem_cons_self; omega
        simp only [List.map_cons, List.sum_cons]
        rw [ih (fun k hk' => hk k (List.mem_cons_of_mem _ hk')), h1, Nat.pow_succ]
        omega
    simp only [digitsF]
    cases ks with
    | nil =>
      have : n = 0 := by simpa using hs.symm
      rw [if_pos this]
    | cons k t =>
      have hpos : 0 < 2 ^ (k - pl) := Nat.pow_pos (by decide)
      have hn : n ≠ 0 := by
        rw [List.map_cons, List.sum_cons] at hs
        omega
      rw [if_neg hn]
      have ht : ∀ x ∈ t, k < x := fun x hx => List.rel_of_pairwise_cons hp hx
      by_cases c : k = pl
      · subst c
        have hs' := hs
        rw [List.map_cons, List.sum_cons, shift t (fun x hx => by have := ht x hx; omega), Nat.sub_self, Nat.pow_zero] at hs'
        rw [if_pos (by omega)]
        congr 1
        exact digits_of f (k + 1) (n / 2) t (by omega) hp.tail (fun x hx => by have := ht x hx; omega) (by omega)
      · have hall : ∀ x ∈ k :: t, pl + 1 ≤ x := by
          intro x hx
          have hkp := hk k List.mem_cons_self
          rcases List.mem_cons.mp hx with e | e
          · omega
          · have := ht x e; omega
        rw [shift (k :: t) hall] at hs
        rw [if_neg (by omega)]
        exact digits_of f (pl + 1) (n / 2) (k :: t) (by omega) hp hall (by omega)
theorem digitsF_up : ∀ (f pl n : Nat), (digitsF f pl n).Pairwise (· < ·) ∧ ∀ k ∈ digitsF f pl n, pl ≤ k
  | 0, _, _ => ⟨List.Pairwise.nil, by simp [digitsF]⟩
  | f + 1, pl, n => by
    obtain ⟨h1, h2⟩ := digitsF_up f (pl + 1) (n / 2)
    simp only [digitsF]
    split
    · exact ⟨List.Pairwise.nil, by simp⟩
    split
    · refine ⟨List.pairwise_cons.mpr ⟨fun k hk => by have := h2 k hk; omega, h1⟩, fun k hk => ?_⟩
      rcases List.mem_cons.mp hk with e | e
      · omega
      · have := h2 k e; omega
    · exact ⟨h1, fun k hk => by have := h2 k hk; omega⟩
theorem digitsF_sum : ∀ (f pl n : Nat), n ≤ f → ((digitsF f pl n).map fun k => 2 ^ (k - pl)).sum = n
  | 0, pl, n, h => by
    have : n = 0 := by omega
    simp [digitsF, this]
  | f + 1, pl, n, h => by
    have ih := digitsF_sum f (pl + 1) (n / 2)
    have up := (digitsF_up f (pl + 1) (n / 2)).2
    have shift : ((digitsF f (pl + 1) (n / 2)).map fun k => 2 ^ (k - pl)).sum = 2 * ((digitsF f (pl + 1) (n / 2)).map fun k => 2 ^ (k - (pl + 1))).sum := by
      generalize digitsF f (pl + 1) (n / 2) = t at *
      clear ih
      induction t with
      | nil => rfl
      | cons k t ih2 =>
        have h1 : k - pl = (k - (pl + 1)) + 1 := by have := up k List.mem_cons_self; omega
        simp only [List.map_cons, List.sum_cons]
        rw [ih2 (fun x hx => up x (List.mem_cons_of_mem _ hx)), h1, Nat.pow_succ]
        omega
    simp only [digitsF]
    split
    · rename_i e; simp [e]
    · have ih' := ih (by omega)
      split
      · rw [List.map_cons, List.sum_cons, shift, ih', Nat.sub_self, Nat.pow_zero]
        omega
      · rw [shift, ih']
        omega
theorem digitsM_sum (n : Nat) : ((digitsM n).map fun k => 2 ^ k).sum = n := by
  have := digitsF_sum n 0 n (Nat.le_refl _)
  simpa [digitsM] using this
theorem digitsM_up (n : Nat) : (digitsM n).Pairwise (· < ·) := (digitsF_up n 0 n).1
theorem sum_ge {l : List Nat} {x : Nat} (h : x ∈ l) : x ≤ l.sum := by
  induction l with
  | nil => cases h
  | cons y t ih =>
    rw [List.sum_cons]
    rcases List.mem_cons.mp h with e | e
    · omega
    · have := ih e; omega
theorem digitsM_le {n k : Nat} (h : k ∈ digitsM n) : 2 ^ k ≤ n := by
  have h1 : 2 ^ k ∈ (digitsM n).map fun k => 2 ^ k := List.mem_map.mpr ⟨k, h, rfl⟩
  have := sum_ge h1
  rwa [digitsM_sum] at this
/-! ### the mirror -/
def size (k pl : Nat) : Nat := k * 2 ^ pl
def findB (bs : List Blk) (pl : Nat) : Option Blk := bs.find? fun b => decide (b.1 = pl)
def dropB (bs : List Blk) (pl : Nat) : List Blk := bs.filter fun b => decide (b.1 ≠ pl)
def mergeB (k pl : Nat) (a b : List E) : List E := halvedM (joinM a (size k pl : Nat) b (size k pl : Nat))
def layM (k : Nat) : Nat → Nat → List E → List Blk → List Blk
  | 0, pl, es, bs => bs ++ [(pl, es)]
  | f + 1, pl, es, bs => match findB bs pl with
    | none => bs ++ [(pl, es)]
    | some b => layM k f (pl + 1) (mergeB k pl b.2 es) (dropB bs pl)
def CupM.lay (s : CupM) (pl : Nat) (es : List E) : CupM := { s with blocks := layM s.keep s.blocks.length pl es s.blocks }
def CupM.fill (s : CupM) (r : Int) (t : Nat) : CupM :=
  if s.loose.length + t = s.keep then { keep := s.keep, loose := [], blocks := layM s.keep s.blocks.length 0 (exactM (s.loose ++ List.replicate t r)) s.blocks } else { s with loose := s.loose ++ List.replicate t r }
def raisedM (k : Nat) (es : List E) : Nat → List E
  | 0 => es
  | n + 1 => mergeB k n (raisedM k es n) (raisedM k es n)
def CupM.add (s : CupM) (r : Int) (t : Nat) : CupM :=
  let first := min t (s.keep - s.loose.length)
  let s1 := s.fill r first
  let s2 := (digitsM ((t - first) / s.keep)).foldl (fun s pl => s.lay pl (raisedM s.keep (exactM (List.replicate s.keep r)) pl)) s1
  s2.fill r ((t - first) % s.keep)
/-- the blocks by rising places -/
def sortB (bs : List Blk) : List Blk := bs.mergeSort fun a b => decide (a.1 ≤ b.1)
def CupM.pour (s o : CupM) : CupM := (sortB o.blocks).foldl (fun s b => s.lay b.1 b.2) (o.loose.foldl (fun s r => s.fill r 1) s)
def CupM.count (s : CupM) : Nat := s.loose.length + (s.blocks.map fun b => size s.keep b.1).sum
def keptF (k : Nat) (x : List E × Nat) (b : Blk) : List E × Nat := (joinM x.1 (x.2 : Int) b.2 (size k b.1 : Nat), x.2 + size k b.1)
def CupM.kept (s : CupM) : List E :=
  let x := (sortB s.blocks).foldl (keptF s.keep) ([], 0)
  joinM x.1 (x.2 : Int) (exactM s.loose) (s.loose.length : Int)
def offM (q : Nat) : Nat := ((digitsM q).map err).sum
def CupM.new (k : Nat) : CupM := ⟨k, [], []⟩
/-! ### blocks of rows -/
inductive BG (k : Nat) : List Blk → Row → Prop where
  | nil : BG k [] Row.nil
  | cons {pl : Nat} {es : List E} {bs : List Blk} {R S : Row} : Gd R (err pl : Nat) es (List.replicate k ((2 ^ pl : Nat) : Int)) → BG k bs S → BG k ((pl, es) :: bs) (R.add S)
theorem BG.ok {k : Nat} {bs : List Blk} {R : Row} (h : BG k bs R) : R.Ok := by
  induction h with
  | nil => exact Row.nil_ok
  | cons g _ ih => exact Row.add_ok g.ok ih
theorem BG.snoc {k : Nat} {bs : List Blk} {R S : Row} {pl : Nat} {es : List E} (h : BG k bs R) (g : Gd S (err pl : Nat) es (List.replicate k ((2 ^ pl : Nat) : Int))) : BG k (bs ++ [(pl, es)]) (S.add R) := by
  induction h with
  | nil => exact .cons g .nil
  | @cons pl' es' bs' R' S' g' h' ih =>
    have e : S.add (R'.add S') = R'.add (S.add S') := by rw [← Row.add_assoc, Row.add_comm S R', Row.add_assoc]
    rw [e]
    exact .cons g' ih
theorem BG.pop {k : Nat} {bs : List Blk} {R : Row} {pl : Nat} {b : Blk} (h : BG k bs R) (hn : (bs.map (·.1)).Nodup) (hf : findB bs pl = some b) :
    ∃ R1 R2, R = R1.add R2 ∧ b.1 = pl ∧ Gd R1 (err pl : Nat) b.2 (List.replicate k ((2 ^ pl : Nat) : Int)) ∧ BG k (dropB bs pl) R2 := by
  induction h with
  | nil => simp [findB] at hf
  | @cons pl' es' bs' R' S' g' h' ih =>
    rw [List.map_cons] at hn
    have hn1 := (List.nodup_cons.mp hn).1
    have hn2 := (List.nodup_cons.mp hn).2
    by_cases c : pl' = pl
    · subst c
      have e : b = (pl', es') := by
        unfold findB at hf
        rw [List.find?_cons_of_pos (by simp)] at hf
        exact (Option.some.inj hf).symm
      subst e
      refine ⟨R', S', rfl, rfl, g', ?_⟩
      have hd : dropB ((pl', es') :: bs') pl' = bs' := by
        unfold dropB
        rw [List.filter_cons_of_neg (by simp), List.filter_eq_self]
        intro x hx
        simp only [ne_eq, decide_eq_true_eq]
        intro q
        exact hn1 (List.mem_map.mpr ⟨x, hx, q⟩)
      rw [hd]
      exact h'
    · have hf' : findB bs' pl = some b := by
        unfold findB at hf ⊢
        rw [List.find?_cons_of_neg (by simpa using c)] at hf
        exact hf
      obtain ⟨R1, R2, e1, e2, g, hb⟩ := ih hn2 hf'
      refine ⟨R1, R'.add R2, ?_, e2, g, ?_⟩
      · rw [e1, ← Row.add_assoc, Row.add_comm R' R1, Row.add_assoc]
      · have hd : dropB ((pl', es') :: bs') pl = (pl', es') :: dropB bs' pl := by
          unfold dropB
          rw [List.filter_cons_of_pos (by simpa using c)]
        rw [hd]
        exact .cons g' hb
theorem pow_cast (pl : Nat) : ((2 ^ (pl + 1) : Nat) : Int) = 2 * ((2 ^ pl : Nat) : Int) := by
  rw [Nat.pow_succ, Int.natCast_mul]
  omega
theorem Gd.n_eq {R : Row} {e : Int} {es : List E} {k pl : Nat} (g : Gd R e es (List.replicate k ((2 ^ pl : Nat) : Int))) : R.n = ((size k pl : Nat) : Int) := by
  rw [← g.sum, replicate_sum]
  unfold size
  rw [Int.natCast_mul]
theorem Gd.merge {R S : Row} {k pl : Nat} {a b : List E} (ga : Gd R (err pl : Nat) a (List.replicate k ((2 ^ pl : Nat) : Int))) (gb : Gd S (err pl : Nat) b (List.replicate k ((2 ^ pl : Nat) : Int))) :
    Gd (R.add S) (err (pl + 1) : Nat) (mergeB k pl a b) (List.replicate k ((2 ^ (pl + 1) : Nat) : Int)) := by
  obtain ⟨ws, hp, g⟩ := ga.join gb
  rw [ga.n_eq, gb.n_eq] at g
  have e : List.replicate k ((2 ^ pl : Nat) : Int) ++ List.replicate k ((2 ^ pl : Nat) : Int) = List.replicate (2 * k) ((2 ^ pl : Nat) : Int) := by
    rw [List.replicate_append_replicate]
    congr 1
    omega
  rw [e, List.perm_replicate] at hp
  subst hp
  have h := g.halve (Int.natCast_nonneg _)
  have e2 : ((err pl : Nat) : Int) + ((err pl : Nat) : Int) + ((2 ^ pl : Nat) : Int) = ((err (pl + 1) : Nat) : Int) := by
    rw [err_succ]
    omega
  rw [e2, ← pow_cast] at h
  exact h
theorem dropB_keys (bs : List Blk) (pl : Nat) : ((dropB bs pl).map (·.1)).Sublist (bs.map (·.1)) := (List.filter_sublist).map _
theorem dropB_lt {bs : List Blk} {pl : Nat} {b : Blk} (h : findB bs pl = some b) : (dropB bs pl).length < bs.length := by
  have hm := List.mem_of_find?_eq_some h
  have hk : b.1 = pl := by
    have := List.find?_some h
    simpa using this
  unfold dropB
  rw [List.length_filter_lt_length_iff_exists]
  exact ⟨b, hm, by simp [hk]⟩
theorem findB_none {bs : List Blk} {pl : Nat} (h : findB bs pl = none) : pl ∉ bs.map (·.1) := by
  intro hm
  obtain ⟨b, hb, e⟩ := List.mem_map.mp hm
  unfold findB at h
  rw [List.find?_eq_none] at h
  have := h b hb
  simp [e] at this
theorem layM_good {k : Nat} : ∀ (f pl : Nat) (es : List E) (bs : List Blk) (R S : Row), bs.length ≤ f → BG k bs R → (bs.map (·.1)).Nodup → Gd S (err pl : Nat) es (List.replicate k ((2 ^ pl : Nat) : Int)) →
    BG k (layM k f pl es bs) (S.add R) ∧ ((layM k f pl es bs).map (·.1)).Nodup
  | 0, pl, es, bs, R, S, hl, hb, hn, g => by
    have e : bs = [] := List.length_eq_zero_iff.mp (by omega)
    subst e
    exact ⟨hb.snoc g, by simp [layM]⟩
  | f + 1, pl, es, bs, R, S, hl, hb, hn, g => by
    simp only [layM]
    cases hf : findB bs pl with
    | none =>
      refine ⟨hb.snoc g, ?_⟩
      rw [List.map_append, List.nodup_append]
      refine ⟨hn, by simp, fun a ha b hb' => ?_⟩
      have : b = pl := by simpa using hb'
      rw [this]
      rintro rfl
      exact findB_none hf ha
    | some b =>
      obtain ⟨R1, R2, e1, e2, g1, h2⟩ := hb.pop hn hf
      have hd := dropB_lt hf
      have ih := layM_good f (pl + 1) (mergeB k pl b.2 es) (dropB bs pl) R2 (R1.add S) (by omega) h2 (hn.sublist (dropB_keys bs pl)) (g1.merge g)
      have e3 : (R1.add S).add R2 = S.add R := by rw [e1, Row.add_comm R1 S, Row.add_assoc]
      rw [e3] at ih
      exact ih
structure Good (s : CupM) (R : Row) : Prop where
  k1 : 1 ≤ s.keep
  k64 : s.keep ≤ 64
  ll : s.loose.length < s.keep
  nd : (s.blocks.map (·.1)).Nodup
  rows : ∃ S, BG s.keep s.blocks S ∧ R = (rowOf s.loose).add S
theorem Good.new {k : Nat} (h1 : 1 ≤ k) (h2 : k ≤ 64) : Good (CupM.new k) Row.nil := ⟨h1, h2, h1, by simp [CupM.new], Row.nil, .nil, (Row.nil_add _).symm⟩
theorem Good.lay {s : CupM} {R S : Row} (h : Good s R) {pl : Nat} {es : List E} (g : Gd S (err pl : Nat) es (List.replicate s.keep ((2 ^ pl : Nat) : Int))) : Good (s.lay pl es) (R.add S) := by
  obtain ⟨T, hb, e⟩ := h.rows
  obtain ⟨h1, h2⟩ := layM_good s.blocks.length pl es s.blocks T S (Nat.le_refl _) hb h.nd g
  exact ⟨h.k1, h.k64, h.ll, h2, S.add T, h1, by rw [e, Row.add_assoc, Row.add_comm T S]; rfl⟩
theorem Good.fill {s : CupM} {R : Row} (h : Good s R) {r : Int} {t : Nat} (ht : s.loose.length + t ≤ s.keep) : Good (s.fill r t) (R.add (Row.one r t)) := by
  obtain ⟨T, hb, e⟩ := h.rows
  have hrow : rowOf (s.loose ++ List.replicate t r) = (rowOf s.loose).add (Row.one r t) := by rw [rowOf_append, rowOf_replicate]
  unfold CupM.fill
  split
  · rename_i hk
    have g := Gd.exact (s.loose ++ List.replicate t r)
    have hl : (s.loose ++ List.replicate t r).length = s.keep := by simp; exact hk
    rw [hl, hrow] at g
    have g' : Gd ((rowOf s.loose).add (Row.one r t)) ((err 0 : Nat) : Int) (exactM (s.loose ++ List.replicate t r)) (List.replicate s.keep ((2 ^ 0 : Nat) : Int)) := g
    obtain ⟨h1, h2⟩ := layM_good s.blocks.length 0 _ s.blocks T _ (Nat.le_refl _) hb h.nd g'
    refine ⟨h.k1, h.k64, h.k1, h2, _, h1, ?_⟩
    rw [e]
    show _ = Row.nil.add _
    rw [Row.nil_add, Row.add_assoc, Row.add_assoc, Row.add_comm T]
  · rename_i hk
    refine ⟨h.k1, h.k64, ?_, h.nd, T, hb, ?_⟩
    · show (s.loose ++ List.replicate t r).length < s.keep
      simp
      omega
    · show _ = (rowOf (s.loose ++ List.replicate t r)).add T
      rw [hrow, e, Row.add_assoc, Row.add_assoc, Row.add_comm T]
theorem raised_good {k : Nat} {R : Row} {es : List E} (g : Gd R ((err 0 : Nat) : Int) es (List.replicate k ((2 ^ 0 : Nat) : Int))) : ∀ pl : Nat, ∃ S : Row, (∀ x, S.lt x = ((2 ^ pl : Nat) : Int) * R.lt x) ∧ S.n = ((2 ^ pl : Nat) : Int) * R.n ∧ Gd S (err pl : Nat) (raisedM k es pl) (List.replicate k ((2 ^ pl : Nat) : Int))
  | 0 => ⟨R, fun x => by simp, by simp, g⟩
  | pl + 1 => by
    obtain ⟨S, h1, h2, h3⟩ := raised_good g pl
    refine ⟨S.add S, fun x => ?_, ?_, h3.merge h3⟩
    · show S.lt x + S.lt x = _
      rw [h1, pow_cast, Int.mul_assoc]
      omega
    · show S.n + S.n = _
      rw [h2, pow_cast, Int.mul_assoc]
      omega
theorem one_scale (r : Int) (m t : Nat) (S : Row) (h1 : ∀ x, S.lt x = (m : Int) * (Row.one r t).lt x) (h2 : S.n = (m : Int) * (Row.one r t).n) : S = Row.one r (m * t : Nat) := by
  refine Row.ext' (fun x => ?_) ?_
  · rw [h1]
    simp only [Row.one]
    split
    · rw [Int.natCast_mul]
    · simp
  · rw [h2]
    simp only [Row.one]
    rw [Int.natCast_mul]
theorem one_add (r : Int) (a b : Nat) : (Row.one r a).add (Row.one r b) = Row.one r (a + b : Nat) := by
  refine Row.ext' (fun x => ?_) ?_
  · simp only [Row.one, Row.add]
    split <;> omega
  · simp only [Row.one, Row.add]
    omega
theorem lay_keep (s : CupM) (pl : Nat) (es : List E) : (s.lay pl es).keep = s.keep := rfl
theorem fill_keep (s : CupM) (r : Int) (t : Nat) : (s.fill r t).keep = s.keep := by
  unfold CupM.fill
  split <;> rfl
theorem fill_empty (s : CupM) (r : Int) (t : Nat) (h : s.loose.length + t = s.keep) : (s.fill r t).loose = [] := by
  unfold CupM.fill
  rw [if_pos h]
def layR (r : Int) (s : CupM) (pl : Nat) : CupM := s.lay pl (raisedM s.keep (exactM (List.replicate s.keep r)) pl)
theorem layR_keep (r : Int) : ∀ (ds : List Nat) (s : CupM), (ds.foldl (layR r) s).keep = s.keep ∧ (ds.foldl (layR r) s).loose = s.loose
  | [], s => ⟨rfl, rfl⟩
  | d :: ds, s => by
    obtain ⟨h1, h2⟩ := layR_keep r ds (layR r s d)
    exact ⟨h1, h2⟩
theorem layR_good (r : Int) : ∀ (ds : List Nat) (s : CupM) (R : Row), Good s R → Good (ds.foldl (layR r) s) (R.add (Row.one r ((s.keep * (ds.map fun k => 2 ^ k).sum : Nat) : Int)))
  | [], s, R, h => by
    have e : R.add (Row.one r ((s.keep * (([] : List Nat).map fun k => 2 ^ k).sum : Nat) : Int)) = R := by
      refine Row.ext' (fun x => ?_) ?_
      · simp [Row.add, Row.one]
      · simp [Row.add, Row.one]
    rw [e]
    exact h
  | d :: ds, s, R, h => by
    have g := Gd.exact (List.replicate s.keep r)
    rw [List.length_replicate, rowOf_replicate] at g
    obtain ⟨S, h1, h2, h3⟩ := raised_good (k := s.keep) g d
    have eS : S = Row.one r ((2 ^ d * s.keep : Nat) : Int) := one_scale r (2 ^ d) s.keep S h1 h2
    have ih := layR_good r ds (layR r s d) _ (h.lay h3)
    rw [eS, Row.add_assoc] at ih
    have e : (Row.one r ((2 ^ d * s.keep : Nat) : Int)).add (Row.one r (((layR r s d).keep * (ds.map fun k => 2 ^ k).sum : Nat) : Int)) = Row.one r ((s.keep * ((d :: ds).map fun k => 2 ^ k).sum : Nat) : Int) := by
      rw [one_add]
      congr 2
      show 2 ^ d * s.keep + s.keep * (ds.map fun k => 2 ^ k).sum = s.keep * (2 ^ d + (ds.map fun k => 2 ^ k).sum)
      rw [Nat.mul_add, Nat.mul_comm (2 ^ d)]
    rw [e] at ih
    exact ih
theorem Good.add {s : CupM} {R : Row} (h : Good s R) {r : Int} {t : Nat} : Good (s.add r t) (R.add (Row.one r t)) := by
  unfold CupM.add
  simp only
  generalize hf : min t (s.keep - s.loose.length) = fi
  have hll := h.ll
  have h1 := h.fill (r := r) (t := fi) (by omega)
  have k1 := fill_keep s r fi
  have h2 := layR_good r (digitsM ((t - fi) / s.keep)) _ _ h1
  rw [digitsM_sum, k1] at h2
  obtain ⟨e1, e2⟩ := layR_keep r (digitsM ((t - fi) / s.keep)) (s.fill r fi)
  have hlt : (t - fi) % s.keep < s.keep := Nat.mod_lt _ h.k1
  have hroom : ((digitsM ((t - fi) / s.keep)).foldl (layR r) (s.fill r fi)).loose.length + (t - fi) % s.keep ≤ ((digitsM ((t - fi) / s.keep)).foldl (layR r) (s.fill r fi)).keep := by
    rw [e1, e2, k1]
    by_cases c : t ≤ s.keep - s.loose.length
    · have e : fi = t := by omega
      rw [e, Nat.sub_self, Nat.zero_mod]
      have := h1.ll
      rw [k1, e] at this
      omega
    · have e : fi = s.keep - s.loose.length := by omega
      rw [fill_empty s r fi (by omega)]
      simp
      omega
  have h3 := h2.fill (r := r) hroom
  have e : ((R.add (Row.one r fi)).add (Row.one r ((s.keep * ((t - fi) / s.keep) : Nat) : Int))).add (Row.one r (((t - fi) % s.keep : Nat) : Int)) = R.add (Row.one r t) := by
    rw [Row.add_assoc, Row.add_assoc, one_add, one_add]
    congr 3
    have := Nat.div_add_mod (t - fi) s.keep
    omega
  rw [e] at h3
  exact h3
/-! ### pouring -/
theorem sortB_perm (bs : List Blk) : (sortB bs).Perm bs := List.mergeSort_perm _ _
theorem BG.perm {k : Nat} {a b : List Blk} {R : Row} (hp : a.Perm b) (h : BG k a R) : BG k b R := by
  induction hp generalizing R with
  | nil => exact h
  | cons x _ ih =>
    cases h with
    | cons g h' => exact .cons g (ih h')
  | swap x y l =>
    cases h with
    | cons g h' =>
      cases h' with
      | @cons _ _ _ R1 S1 g' h'' =>
        rw [← Row.add_assoc, Row.add_comm _ R1, Row.add_assoc]
        exact .cons g' (.cons g h'')
  | trans _ _ h1 h2 => exact h2 (h1 h)
theorem pour_keep : ∀ (l : List Int) (s : CupM), (l.foldl (fun s r => s.fill r 1) s).keep = s.keep
  | [], _ => rfl
  | r :: l, s => by
    rw [List.foldl_cons, pour_keep l]
    exact fill_keep s r 1
theorem pour_loose : ∀ (l : List Int) (s : CupM) (R : Row), Good s R → Good (l.foldl (fun s r => s.fill r 1) s) (R.add (rowOf l))
  | [], s, R, h => by
    show Good s (R.add Row.nil)
    rw [Row.add_nil]
    exact h
  | r :: l, s, R, h => by
    have h1 := h.fill (r := r) (t := 1) h.ll
    have h2 := pour_loose l _ _ h1
    rw [Row.add_assoc] at h2
    exact h2
theorem pour_blocks {k : Nat} {bs : List Blk} {S : Row} (hb : BG k bs S) : ∀ (s : CupM) (R : Row), s.keep = k → Good s R → Good (bs.foldl (fun s b => s.lay b.1 b.2) s) (R.add S) := by
  induction hb with
  | nil =>
    intro s R _ h
    rw [Row.add_nil]
    exact h
  | @cons pl es bs R1 S1 g hb' ih =>
    intro s R hk h
    subst hk
    have h1 := h.lay g
    have h2 := ih (s.lay pl es) (R.add R1) rfl h1
    rw [Row.add_assoc] at h2
    exact h2
theorem Good.pour {s o : CupM} {R S : Row} (h : Good s R) (ho : Good o S) (hk : s.keep = o.keep) : Good (s.pour o) (R.add S) := by
  obtain ⟨T, hb, e⟩ := ho.rows
  unfold CupM.pour
  have h1 := pour_loose o.loose s R h
  have h2 := pour_blocks (hb.perm (sortB_perm o.blocks).symm) _ _ ((pour_keep o.loose s).trans hk) h1
  rw [e, ← Row.add_assoc]
  exact h2
/-! ### the count, and what the digits tell -/
theorem BG.n {k : Nat} {bs : List Blk} {R : Row} (h : BG k bs R) : R.n = (((bs.map fun b => size k b.1).sum : Nat) : Int) := by
  induction h with
  | nil => rfl
  | cons g _ ih =>
    show _ + _ = _
    rw [g.n_eq, ih, List.map_cons, List.sum_cons]
    dsimp only
    omega
theorem Good.n {s : CupM} {R : Row} (h : Good s R) : R.n = (s.count : Int) := by
  obtain ⟨S, hb, e⟩ := h.rows
  rw [e]
  show (rowOf s.loose).n + S.n = _
  rw [hb.n, rowOf_n]
  unfold CupM.count
  omega
theorem sizes_sum (k : Nat) : ∀ bs : List Blk, (bs.map fun b => size k b.1).sum = k * (bs.map fun b => 2 ^ b.1).sum
  | [] => rfl
  | b :: t => by
    rw [List.map_cons, List.sum_cons, sizes_sum k t, List.map_cons, List.sum_cons, Nat.mul_add]
    rfl
theorem Good.quot {s : CupM} {R : Row} (h : Good s R) : s.count / s.keep = (s.blocks.map fun b => 2 ^ b.1).sum ∧ s.count % s.keep = s.loose.length := by
  unfold CupM.count
  rw [sizes_sum]
  have hk := h.k1
  have hl := h.ll
  constructor
  · rw [Nat.add_mul_div_left _ _ hk, Nat.div_eq_of_lt hl, Nat.zero_add]
  · rw [Nat.add_mul_mod_self_left, Nat.mod_eq_of_lt hl]
theorem sortB_up {bs : List Blk} (hn : (bs.map (·.1)).Nodup) : ((sortB bs).map (·.1)).Pairwise (· < ·) := by
  have h1 : (sortB bs).Pairwise (fun a b => decide (a.1 ≤ b.1) = true) := List.pairwise_mergeSort (fun a b c h1 h2 => by simp only [decide_eq_true_eq] at *; omega) (fun a b => by simp only [Bool.or_eq_true, decide_eq_true_eq]; omega) bs
  have h2 : ((sortB bs).map (·.1)).Nodup := ((sortB_perm bs).map _).nodup_iff.mpr hn
  rw [List.pairwise_map]
  rw [List.Nodup, List.pairwise_map] at h2
  exact (h1.and h2).imp fun {a b} q => by
    have := q.1
    have := q.2
    simp only [decide_eq_true_eq] at *
    omega
theorem Good.digits {s : CupM} {R : Row} (h : Good s R) : (sortB s.blocks).map (·.1) = digitsM (s.count / s.keep) := by
  refine digits_of _ 0 _ _ (Nat.le_refl _) (sortB_up h.nd) (fun k _ => Nat.zero_le k) ?_
  rw [h.quot.1, List.map_map]
  exact ((sortB_perm s.blocks).map (fun b => 2 ^ b.1)).sum_nat
theorem kept_fold {k : Nat} {bs : List Blk} {S : Row} (hb : BG k bs S) : ∀ (f : List E) (m : Nat) (R : Row) (e : Int) (ws : List Int), Gd R e f ws → R.n = (m : Int) → ∃ ws', Gd (R.add S) (e + ((bs.map fun b => err b.1).sum : Nat)) (bs.foldl (keptF k) (f, m)).1 ws' ∧
    (R.add S).n = (((bs.foldl (keptF k) (f, m)).2 : Nat) : Int) ∧ (bs.foldl (keptF k) (f, m)).1.length = f.length + k * bs.length := by
  induction hb with
  | nil =>
    intro f m R e ws g hn
    refine ⟨ws, ?_, ?_, ?_⟩
    · rw [Row.add_nil]
      simpa using g
    · rw [Row.add_nil]
      exact hn
    · simp
  | @cons pl es bs R1 S1 g1 hb' ih =>
    intro f m R e ws g hn
    obtain ⟨ws1, hp, gj⟩ := g.join g1
    rw [hn, g1.n_eq] at gj
    have hn' : (R.add R1).n = ((m + size k pl : Nat) : Int) := by
      show R.n + R1.n = _
      rw [hn, g1.n_eq]
      omega
    obtain ⟨ws', h1, h2, h3⟩ := ih _ (m + size k pl) (R.add R1) _ ws1 gj hn'
    have e1 : (R.add R1).add S1 = R.add (R1.add S1) := Row.add_assoc _ _ _
    rw [e1] at h1 h2
    refine ⟨ws', ?_, h2, ?_⟩
    · have e2 : e + ((err pl : Nat) : Int) + (((bs.map fun b => err b.1).sum : Nat) : Int) = e + (((((pl, es) :: bs).map fun b => err b.1).sum : Nat) : Int) := by
        have e3 : (((pl, es) :: bs).map fun b => err b.1).sum = err pl + (bs.map fun b => err b.1).sum := rfl
        rw [e3, Int.natCast_add, Int.add_assoc]
      rw [e2] at h1
      exact h1
    · show (bs.foldl (keptF k) (joinM f (m : Int) es ((size k pl : Nat) : Int), m + size k pl)).1.length = _
      rw [h3, joinM_length, g1.lin.length, List.length_replicate, List.length_cons, Nat.mul_add]
      omega
theorem Good.kept {s : CupM} {R : Row} (h : Good s R) : ∃ ws, Gd R (offM (s.count / s.keep) : Nat) s.kept ws ∧ s.kept.length = s.keep * (digitsM (s.count / s.keep)).length + s.count % s.keep := by
  obtain ⟨S, hb, e⟩ := h.rows
  obtain ⟨ws, h1, h2, h3⟩ := kept_fold (hb.perm (sortB_perm s.blocks).symm) [] 0 Row.nil 0 [] Gd.empty rfl
  rw [Row.nil_add] at h1 h2
  obtain ⟨ws', hp, g⟩ := h1.join (Gd.exact s.loose)
  rw [h2, rowOf_n] at g
  have eo : offM (s.count / s.keep) = ((sortB s.blocks).map fun b => err b.1).sum := by
    unfold offM
    rw [← h.digits, List.map_map]
    rfl
  have hlen : (digitsM (s.count / s.keep)).length = (sortB s.blocks).length := by rw [← h.digits, List.length_map]
  refine ⟨ws', ?_, ?_⟩
  · rw [e, Row.add_comm, eo]
    have : (0 : Int) + ((((sortB s.blocks).map fun b => err b.1).sum : Nat) : Int) + 0 = ((((sortB s.blocks).map fun b => err b.1).sum : Nat) : Int) := by omega
    rw [this] at g
    exact g
  · unfold CupM.kept
    rw [joinM_length, h3, exactM_length, hlen, h.quot.2]
    simp
end RB

/-! Deeds on three cups, their mirror. -/
namespace RB
theorem digits_step {pl n : Nat} (h : n ≠ 0) : digitsF n pl n = if n % 2 = 1 then pl :: digitsF (n / 2) (pl + 1) (n / 2) else digitsF (n / 2) (pl + 1) (n / 2) := by
  cases n with
  | zero => exact absurd rfl h
  | succ m =>
    rw [digitsF, if_neg h, digitsF_fuel m ((m + 1) / 2) (pl + 1) ((m + 1) / 2) (by omega) (Nat.le_refl _)]
theorem digits_zero {pl : Nat} : digitsF 0 pl 0 = [] := rfl
theorem digits_lt {pl n m : Nat} (h : n < 2 ^ m) : (digitsF n pl n).length ≤ m := by
  induction m generalizing pl n with
  | zero =>
    have : n = 0 := by simpa using h
    subst this
    exact Nat.le_refl _
  | succ m ih =>
    by_cases h0 : n = 0
    · subst h0; exact Nat.zero_le _
    · rw [digits_step h0]
      have h2 : n / 2 < 2 ^ m := by rw [Nat.pow_succ] at h; omega
      have := ih (pl := pl + 1) h2
      split
      · rw [List.length_cons]; omega
      · omega
theorem layF_keep : ∀ (f : CupM → Nat → CupM), (∀ s x, (f s x).keep = s.keep) → ∀ (l : List Nat) (s : CupM), (l.foldl f s).keep = s.keep
  | _, _, [], _ => rfl
  | f, h, x :: l, s => by rw [List.foldl_cons, layF_keep f h l, h]
theorem add_keep (s : CupM) (r : Int) (t : Nat) : (s.add r t).keep = s.keep := by
  unfold CupM.add
  simp only
  rw [fill_keep, layF_keep _ (fun s x => by rfl), fill_keep]
theorem pourB_keep : ∀ (bs : List Blk) (s : CupM), (bs.foldl (fun s b => s.lay b.1 b.2) s).keep = s.keep
  | [], _ => rfl
  | b :: bs, s => by
    rw [List.foldl_cons, pourB_keep bs]
    rfl
theorem pour_keepS (s o : CupM) : (s.pour o).keep = s.keep := by
  unfold CupM.pour
  rw [pourB_keep, pour_keep]
inductive Deed where
  | come (c : Nat) (r : Int) (n : Nat) (st : Int) (t : Nat)
  | pour (a b : Nat)
def Deed.cup : Deed → Nat
  | .come c _ _ _ _ => c
  | .pour a _ => a
def Deed.Ok (m : Nat) : Deed → Prop
  | .come c r n st t => c < 3 ∧ 1 ≤ t ∧ t ≤ 1000000000 ∧ n * t ≤ m ∧ n ≤ 14 ∧ -3 ≤ st ∧ st ≤ 3 ∧ ∀ k : Nat, k < n → -1000000000000000000 ≤ r + k * st ∧ r + k * st ≤ 1000000000000000000
  | .pour a b => a < 3 ∧ b < 3
theorem Deed.Ok.cup {m : Nat} {d : Deed} (h : d.Ok m) : d.cup < 3 := by
  cases d with
  | come => exact h.1
  | pour => exact h.1
def put {α : Type} (S : Nat → α) (i : Nat) (x : α) : Nat → α := fun j => if j = i then x else S j
theorem put_here {α : Type} {S : Nat → α} {i : Nat} {x : α} : put S i x i = x := if_pos rfl
theorem put_else {α : Type} {S : Nat → α} {i j : Nat} {x : α} (h : j ≠ i) : put S i x j = S j := if_neg h
theorem put_put {α : Type} {S : Nat → α} {i : Nat} {x y : α} : put (put S i x) i y = put S i y := by
  funext j
  unfold put
  split <;> rfl
theorem put_same {α : Type} {S : Nat → α} {i : Nat} : put S i (S i) = S := by
  funext j
  unfold put
  split
  · rename_i h; rw [h]
  · rfl
def comeM (s : CupM) (r st : Int) (t n : Nat) : CupM := (List.range n).foldl (fun s (k : Nat) => s.add (r + k * st) t) s
def comeR (R : Row) (r st : Int) (t n : Nat) : Row := (List.range n).foldl (fun R (k : Nat) => R.add (Row.one (r + k * st) t)) R
theorem comeM_succ (s : CupM) (r st : Int) (t n : Nat) : comeM s r st t (n + 1) = (comeM s r st t n).add (r + n * st) t := by
  unfold comeM
  rw [List.range_succ, List.foldl_append]
  rfl
theorem comeR_succ (R : Row) (r st : Int) (t n : Nat) : comeR R r st t (n + 1) = (comeR R r st t n).add (Row.one (r + n * st) t) := by
  unfold comeR
  rw [List.range_succ, List.foldl_append]
  rfl
theorem Good.come {s : CupM} {R : Row} (h : Good s R) (r st : Int) (t : Nat) : ∀ n, Good (comeM s r st t n) (comeR R r st t n) ∧ (comeM s r st t n).keep = s.keep ∧ (comeM s r st t n).count = s.count + n * t
  | 0 => ⟨h, rfl, by show s.count = _; omega⟩
  | n + 1 => by
    obtain ⟨g, k, c⟩ := Good.come h r st t n
    rw [comeM_succ, comeR_succ]
    have g' := g.add (r := r + n * st) (t := t)
    refine ⟨g', by rw [add_keep, k], ?_⟩
    have e1 := g'.n
    have e2 := g.n
    have e3 : ((comeR R r st t n).add (Row.one (r + n * st) t)).n = (comeR R r st t n).n + (t : Int) := rfl
    rw [Nat.succ_mul]
    omega
def doD (S : Nat → CupM) : Deed → Nat → CupM
  | .come c r n st t => put S c (comeM (S c) r st t n)
  | .pour a b => put S a ((S a).pour (S b))
def doR (R : Nat → Row) : Deed → Nat → Row
  | .come c r n st t => put R c (comeR (R c) r st t n)
  | .pour a b => put R a ((R a).add (R b))
structure St (k : Nat) (S : Nat → CupM) (R : Nat → Row) : Prop where
  g : ∀ i, i < 3 → Good (S i) (R i)
  k : ∀ i, i < 3 → (S i).keep = k
def tot (S : Nat → CupM) : Nat := (S 0).count + (S 1).count + (S 2).count
theorem count_le (S : Nat → CupM) {i : Nat} (h : i < 3) : (S i).count ≤ tot S := by
  unfold tot
  rcases (by omega : i = 0 ∨ i = 1 ∨ i = 2) with e | e | e <;> subst e <;> omega
theorem tot_put (S : Nat → CupM) {i : Nat} (h : i < 3) (s : CupM) : tot (put S i s) + (S i).count = tot S + s.count := by
  unfold tot put
  rcases (by omega : i = 0 ∨ i = 1 ∨ i = 2) with e | e | e <;> subst e <;> simp <;> omega
theorem Good.pour_count {s o : CupM} {R S : Row} (h : Good s R) (ho : Good o S) (hk : s.keep = o.keep) : (s.pour o).count = s.count + o.count := by
  have e1 := (h.pour ho hk).n
  have e2 := h.n
  have e3 := ho.n
  have e4 : (R.add S).n = R.n + S.n := rfl
  omega
theorem St.put {k : Nat} {S : Nat → CupM} {R : Nat → Row} (h : St k S R) {i : Nat} {s : CupM} {T : Row} (g : Good s T) (hk : s.keep = k) : St k (RB.put S i s) (RB.put R i T) := by
  refine ⟨fun j hj => ?_, fun j hj => ?_⟩
  · unfold RB.put
    split
    · exact g
    · exact h.g j hj
  · unfold RB.put
    split
    · exact hk
    · exact h.k j hj
theorem St.deed {k m : Nat} {S : Nat → CupM} {R : Nat → Row} (h : St k S R) {d : Deed} (hd : d.Ok m) : St k (doD S d) (doR R d) ∧ tot (doD S d) ≤ 2 * tot S + m := by
  cases d with
  | come c r n st t =>
    obtain ⟨hc, h1, h2, h3, _⟩ := hd
    obtain ⟨g, e, q⟩ := (h.g c hc).come r st t n
    refine ⟨h.put g (by rw [e, h.k c hc]), ?_⟩
    have := tot_put S hc (comeM (S c) r st t n)
    show tot (RB.put S c _) ≤ _
    omega
  | pour a b =>
    obtain ⟨ha, hb⟩ := hd
    have e : (S a).keep = (S b).keep := by rw [h.k a ha, h.k b hb]
    refine ⟨h.put ((h.g a ha).pour (h.g b hb) e) (by rw [pour_keepS, h.k a ha]), ?_⟩
    have := tot_put S ha ((S a).pour (S b))
    have h2 := (h.g a ha).pour_count (h.g b hb) e
    have := count_le S hb
    show tot (RB.put S a _) ≤ _
    omega
def doDs (S : Nat → CupM) (ds : List Deed) : Nat → CupM := ds.foldl doD S
def doRs (R : Nat → Row) (ds : List Deed) : Nat → Row := ds.foldl doR R
theorem St.deeds {k m : Nat} : ∀ (ds : List Deed) (S : Nat → CupM) (R : Nat → Row), St k S R → (∀ d ∈ ds, d.Ok m) → St k (doDs S ds) (doRs R ds) ∧ tot (doDs S ds) + m ≤ 2 ^ ds.length * (tot S + m)
  | [], S, R, h, _ => ⟨h, by show tot S + m ≤ _; simp⟩
  | d :: ds, S, R, h, hd => by
    obtain ⟨h1, h2⟩ := h.deed (hd d List.mem_cons_self)
    obtain ⟨h3, h4⟩ := St.deeds ds _ _ h1 fun x hx => hd x (List.mem_cons_of_mem _ hx)
    refine ⟨h3, Nat.le_trans h4 ?_⟩
    rw [List.length_cons, Nat.pow_succ, Nat.mul_assoc]
    exact Nat.mul_le_mul_left _ (by omega)
def newS (k : Nat) : Nat → CupM := fun _ => CupM.new k
def newR : Nat → Row := fun _ => Row.nil
theorem St.new {k : Nat} (h1 : 1 ≤ k) (h2 : k ≤ 64) : St k (newS k) newR := ⟨fun _ _ => Good.new h1 h2, fun _ _ => rfl⟩
theorem tot_new (k : Nat) : tot (newS k) = 0 := by simp [tot, newS, CupM.new, CupM.count]
/-- so few readings come by so many deeds -/
def Small (m n : Nat) : Prop := 2 ^ n * m < 2 ^ 63
theorem St.small {k m n : Nat} (h1 : 1 ≤ k) (h2 : k ≤ 64) (hs : Small m n) (ds : List Deed) (hd : ∀ d ∈ ds, d.Ok m) (hl : ds.length ≤ n) : St k (doDs (newS k) ds) (doRs newR ds) ∧ tot (doDs (newS k) ds) + m < 2 ^ 63 := by
  obtain ⟨g, t⟩ := St.deeds ds _ _ (St.new h1 h2) hd
  refine ⟨g, Nat.lt_of_le_of_lt t ?_⟩
  rw [tot_new, Nat.zero_add]
  exact Nat.lt_of_le_of_lt (Nat.mul_le_mul_right _ (Nat.pow_le_pow_right (by decide) hl)) hs
theorem doDs_snoc (S : Nat → CupM) (ds : List Deed) (d : Deed) : doDs S (ds ++ [d]) = doD (doDs S ds) d := by
  unfold doDs
  rw [List.foldl_append]
  rfl
theorem doRs_snoc (R : Nat → Row) (ds : List Deed) (d : Deed) : doRs R (ds ++ [d]) = doR (doRs R ds) d := by
  unfold doRs
  rw [List.foldl_append]
  rfl
end RB

/-! Rows as the law keeps them: which reading how many times. -/
namespace RB
abbrev DD := List (Int × Int)
def rowD : DD → Row
  | [] => Row.nil
  | x :: D => (Row.one x.1 x.2).add (rowD D)
def getDD (D : DD) (r : Int) : Option Int := (D.find? fun x => decide (x.1 = r)).map (·.2)
def putDD (D : DD) (r v : Int) : DD := if (D.any fun x => decide (x.1 = r)) = true then D.map (fun x => if x.1 = r then (x.1, v) else x) else D ++ [(r, v)]
def bump (D : DD) (r t : Int) : DD := putDD D r ((getDD D r).getD 0 + t)
theorem one_split (r a b : Int) : Row.one r (a + b) = (Row.one r a).add (Row.one r b) := by
  refine Row.ext' (fun x => ?_) rfl
  simp only [Row.one, Row.add]
  split <;> omega
theorem rowD_append : ∀ (a b : DD), rowD (a ++ b) = (rowD a).add (rowD b)
  | [], b => (Row.nil_add _).symm
  | x :: a, b => by
    show (Row.one x.1 x.2).add (rowD (a ++ b)) = _
    rw [rowD_append a b, ← Row.add_assoc]
    rfl
theorem map_off (D : DD) (r v : Int) (h : ∀ x ∈ D, x.1 ≠ r) : D.map (fun x => if x.1 = r then (x.1, v) else x) = D := by
  induction D with
  | nil => rfl
  | cons x D ih =>
    rw [List.map_cons, if_neg (h x List.mem_cons_self), ih fun y hy => h y (List.mem_cons_of_mem _ hy)]
theorem bump_row {r t : Int} : ∀ {D : DD}, (D.map (·.1)).Nodup → rowD (bump D r t) = (rowD D).add (Row.one r t)
  | [], _ => by
    show (Row.one r (0 + t)).add Row.nil = Row.nil.add (Row.one r t)
    rw [Int.zero_add, Row.add_nil, Row.nil_add]
  | x :: D, h => by
    rw [List.map_cons] at h
    obtain ⟨h1, h2⟩ := List.nodup_cons.mp h
    by_cases e : x.1 = r
    · have hoff : ∀ y ∈ D, y.1 ≠ r := fun y hy z => h1 (List.mem_map.mpr ⟨y, hy, by rw [z, e]⟩)
      have e1 : bump (x :: D) r t = (x.1, x.2 + t) :: D := by
        unfold bump putDD getDD
        rw [List.find?_cons_of_pos (p := fun x : Int × Int => decide (x.1 = r)) (decide_eq_true e), if_pos (by rw [List.any_cons, decide_eq_true e]; rfl), List.map_cons, if_pos e, map_off D r _ hoff]
        rfl
      rw [e1]
      show (Row.one x.1 (x.2 + t)).add (rowD D) = ((Row.one x.1 x.2).add (rowD D)).add (Row.one r t)
      rw [one_split, e, Row.add_assoc, Row.add_assoc, Row.add_comm (rowD D)]
    · have e1 : bump (x :: D) r t = x :: bump D r t := by
        unfold bump putDD getDD
        rw [List.find?_cons_of_neg (by rw [decide_eq_true_eq]; exact e), List.any_cons, decide_eq_false e, Bool.false_or]
        split
        · rw [List.map_cons, if_neg e]
        · rfl
      rw [e1]
      show (Row.one x.1 x.2).add (rowD (bump D r t)) = ((Row.one x.1 x.2).add (rowD D)).add (Row.one r t)
      rw [bump_row h2, Row.add_assoc]
structure RowOk (D : DD) (U : List Int) : Prop where
  nd : (D.map (·.1)).Nodup
  sub : ∀ x ∈ D, x.1 ∈ U
  pos : ∀ x ∈ D, 1 ≤ x.2
theorem RowOk.nil (U : List Int) : RowOk [] U := ⟨List.nodup_nil, (fun _ h => by cases h), (fun _ h => by cases h)⟩
theorem RowOk.mono {D : DD} {U U' : List Int} (h : RowOk D U) (hs : ∀ x ∈ U, x ∈ U') : RowOk D U' := ⟨h.nd, fun x hx => hs _ (h.sub x hx), h.pos⟩
theorem RowOk.get0 {D : DD} {U : List Int} (h : RowOk D U) (r : Int) : 0 ≤ (getDD D r).getD 0 := by
  unfold getDD
  cases e : D.find? fun x => decide (x.1 = r) with
  | none => exact Int.le_refl _
  | some x =>
    have := h.pos x (List.mem_of_find?_eq_some e)
    show 0 ≤ x.2
    omega
theorem RowOk.bump {D : DD} {U : List Int} (h : RowOk D U) {r t : Int} (hr : r ∈ U) (ht : 1 ≤ t) : RowOk (RB.bump D r t) U := by
  have h0 := h.get0 r
  unfold RB.bump putDD
  generalize (getDD D r).getD 0 = g at *
  split
  · rename_i ha
    have e : (D.map (fun x => if x.1 = r then (x.1, g + t) else x)).map (·.1) = D.map (·.1) := by
      rw [List.map_map]
      refine List.map_congr_left fun x _ => ?_
      show (if x.1 = r then (x.1, g + t) else x).1 = x.1
      split <;> rfl
    refine ⟨by rw [e]; exact h.nd, fun x hx => ?_, fun x hx => ?_⟩
    · obtain ⟨y, hy, rfl⟩ := List.mem_map.mp hx
      have := h.sub y hy
      split
      · exact this
      · exact this
    · obtain ⟨y, hy, rfl⟩ := List.mem_map.mp hx
      have := h.pos y hy
      split
      · show 1 ≤ g + t; omega
      · exact this
  · rename_i ha
    refine ⟨?_, fun x hx => ?_, fun x hx => ?_⟩
    · rw [List.map_append]
      refine List.nodup_append.mpr ⟨h.nd, by simp, fun a ha' b hb z => ha ?_⟩
      rw [List.map_cons, List.map_nil, List.mem_singleton] at hb
      obtain ⟨y, hy, e⟩ := List.mem_map.mp ha'
      rw [List.any_eq_true]
      exact ⟨y, hy, decide_eq_true (by rw [e, z, hb])⟩
    · rcases List.mem_append.mp hx with e | e
      · exact h.sub x e
      · rw [List.mem_singleton.mp e]; exact hr
    · rcases List.mem_append.mp hx with e | e
      · exact h.pos x e
      · rw [List.mem_singleton.mp e]; show 1 ≤ g + t; omega
theorem nodup_len : ∀ {l m : List Int}, l.Nodup → (∀ x ∈ l, x ∈ m) → l.length ≤ m.length
  | [], _, _, _ => Nat.zero_le _
  | x :: l, m, h, hs => by
    obtain ⟨h1, h2⟩ := List.nodup_cons.mp h
    have hx := hs x List.mem_cons_self
    have := nodup_len (m := m.erase x) h2 fun y hy => (List.mem_erase_of_ne fun e => h1 (by rw [← e]; exact hy)).mpr (hs y (List.mem_cons_of_mem _ hy))
    rw [List.length_erase_of_mem hx] at this
    have hp := List.length_pos_of_mem hx
    rw [List.length_cons]
    omega
theorem RowOk.len {D : DD} {U : List Int} (h : RowOk D U) : D.length ≤ U.length := by
  have := nodup_len h.nd fun x hx => by
    obtain ⟨y, hy, rfl⟩ := List.mem_map.mp hx
    exact h.sub y hy
  rw [List.length_map] at this
  exact this
theorem rowD_n : ∀ D : DD, (rowD D).n = (D.map (·.2)).sum
  | [] => rfl
  | x :: D => by
    rw [List.map_cons, List.sum_cons, ← rowD_n D]
    rfl
theorem rowD_lt : ∀ (D : DD) (r : Int), (rowD D).lt r = ((D.filter fun x => decide (x.1 < r)).map (·.2)).sum
  | [], _ => rfl
  | x :: D, r => by
    show (if x.1 < r then x.2 else 0) + (rowD D).lt r = _
    rw [rowD_lt D r]
    by_cases h : x.1 < r
    · rw [if_pos h, List.filter_cons_of_pos (by rw [decide_eq_true_eq]; exact h), List.map_cons, List.sum_cons]
    · rw [if_neg h, List.filter_cons_of_neg (by rw [decide_eq_true_eq]; exact h), Int.zero_add]
theorem rowD_at {r : Int} : ∀ {D : DD}, (D.map (·.1)).Nodup → (rowD D).lt (r + 1) = (rowD D).lt r + (getDD D r).getD 0
  | [], _ => rfl
  | x :: D, h => by
    rw [List.map_cons] at h
    obtain ⟨h1, h2⟩ := List.nodup_cons.mp h
    have ih := rowD_at (r := r) h2
    show (if x.1 < r + 1 then x.2 else 0) + (rowD D).lt (r + 1) = (if x.1 < r then x.2 else 0) + (rowD D).lt r + _
    by_cases e : x.1 = r
    · have hn : getDD D r = none := by
        unfold getDD
        rw [List.find?_eq_none.mpr fun y hy z => h1 (List.mem_map.mpr ⟨y, hy, by rw [of_decide_eq_true z, e]⟩)]
        rfl
      have hg : getDD (x :: D) r = some x.2 := by
        unfold getDD
        rw [List.find?_cons_of_pos (p := fun x : Int × Int => decide (x.1 = r)) (decide_eq_true e)]
        rfl
      rw [hn] at ih
      rw [hg, ih, if_pos (by omega), if_neg (by omega)]
      simp
      omega
    · have hg : getDD (x :: D) r = getDD D r := by
        unfold getDD
        rw [List.find?_cons_of_neg (by rw [decide_eq_true_eq]; exact e)]
      rw [hg, ih]
      by_cases c : x.1 < r
      · rw [if_pos (by omega), if_pos c]; omega
      · rw [if_neg (by omega), if_neg c]; omega
/-! ### deeds on rows -/
def comeDD (D : DD) (r st : Int) (t n : Nat) : DD := (List.range n).foldl (fun D (k : Nat) => bump D (r + k * st) t) D
def pourDD (D o : DD) : DD := o.foldl (fun D x => bump D x.1 x.2) D
def doDD (D : Nat → DD) : Deed → Nat → DD
  | .come c r n st t => put D c (comeDD (D c) r st t n)
  | .pour a b => put D a (pourDD (D a) (D b))
theorem comeDD_succ (D : DD) (r st : Int) (t n : Nat) : comeDD D r st t (n + 1) = bump (comeDD D r st t n) (r + n * st) t := by
  unfold comeDD
  rw [List.range_succ, List.foldl_append]
  rfl
/-- the readings that a deed may bring -/
def Deed.news : Deed → List Int
  | .come _ r n st _ => (List.range n).map fun (k : Nat) => r + k * st
  | .pour _ _ => []
theorem RowOk.come {D : DD} {U : List Int} (h : RowOk D U) {r st : Int} {t : Nat} (ht : 1 ≤ t) : ∀ n : Nat, (∀ k : Nat, k < n → r + k * st ∈ U) → RowOk (comeDD D r st t n) U ∧ rowD (comeDD D r st t n) = comeR (rowD D) r st t n
  | 0, _ => ⟨h, rfl⟩
  | n + 1, hU => by
    obtain ⟨h1, h2⟩ := RowOk.come h ht n fun k hk => hU k (by omega)
    rw [comeDD_succ, comeR_succ]
    exact ⟨h1.bump (hU n (by omega)) (by omega), by rw [bump_row h1.nd, h2]⟩
theorem RowOk.pour {U : List Int} : ∀ {o D : DD}, RowOk D U → RowOk o U → RowOk (pourDD D o) U ∧ rowD (pourDD D o) = (rowD D).add (rowD o)
  | [], D, h, _ => ⟨h, (Row.add_nil _).symm⟩
  | x :: o, D, h, ho => by
    have h1 := h.bump (ho.sub x List.mem_cons_self) (ho.pos x List.mem_cons_self)
    have nd := ho.nd
    rw [List.map_cons] at nd
    obtain ⟨h2, h3⟩ := RowOk.pour h1 (o := o) ⟨(List.nodup_cons.mp nd).2, fun y hy => ho.sub y (List.mem_cons_of_mem _ hy), fun y hy => ho.pos y (List.mem_cons_of_mem _ hy)⟩
    refine ⟨h2, h3.trans ?_⟩
    rw [bump_row h.nd, Row.add_assoc]
    rfl
structure RowsOk (D : Nat → DD) (U : List Int) (R : Nat → Row) : Prop where
  ok : ∀ i, i < 3 → RowOk (D i) U
  row : ∀ i, i < 3 → rowD (D i) = R i
theorem RowsOk.put {D : Nat → DD} {U : List Int} {R : Nat → Row} (h : RowsOk D U R) {i : Nat} {E : DD} {T : Row} (h1 : RowOk E U) (h2 : rowD E = T) : RowsOk (RB.put D i E) U (RB.put R i T) := by
  refine ⟨fun j hj => ?_, fun j hj => ?_⟩
  · unfold RB.put
    split
    · exact h1
    · exact h.ok j hj
  · unfold RB.put
    split
    · exact h2
    · exact h.row j hj
theorem RowsOk.mono {D : Nat → DD} {U U' : List Int} {R : Nat → Row} (h : RowsOk D U R) (hs : ∀ x ∈ U, x ∈ U') : RowsOk D U' R := ⟨fun i hi => (h.ok i hi).mono hs, h.row⟩
theorem RowsOk.deed {D : Nat → DD} {U : List Int} {R : Nat → Row} {d : Deed} {m : Nat} (h : RowsOk D U R) (hd : d.Ok m) : RowsOk (doDD D d) (U ++ d.news) (doR R d) := by
  have h' := h.mono (U' := U ++ d.news) fun x hx => List.mem_append_left _ hx
  cases d with
  | come c r n st t =>
    obtain ⟨hc, h1, _⟩ := hd
    obtain ⟨g1, g2⟩ := (h'.ok c hc).come h1 n fun k hk => List.mem_append_right _ (List.mem_map.mpr ⟨k, List.mem_range.mpr hk, rfl⟩)
    exact h'.put g1 (by rw [g2, h.row c hc])
  | pour a b =>
    obtain ⟨ha, hb⟩ := hd
    obtain ⟨g1, g2⟩ := (h'.ok a ha).pour (h'.ok b hb)
    exact h'.put g1 (by rw [g2, h.row a ha, h.row b hb])
def newsOf (ds : List Deed) : List Int := ds.foldl (fun U d => U ++ d.news) []
def doDDs (D : Nat → DD) (ds : List Deed) : Nat → DD := ds.foldl doDD D
def newD : Nat → DD := fun _ => []
theorem news_len {d : Deed} {m : Nat} (h : d.Ok m) : d.news.length ≤ 14 := by
  cases d with
  | come c r n st t =>
    show ((List.range n).map _).length ≤ 14
    rw [List.length_map, List.length_range]
    exact h.2.2.2.2.1
  | pour a b => exact Nat.zero_le _
theorem RowsOk.deeds {m : Nat} : ∀ (ds : List Deed) (D : Nat → DD) (U : List Int) (R : Nat → Row), RowsOk D U R → (∀ d ∈ ds, d.Ok m) → ∃ U', RowsOk (doDDs D ds) U' (doRs R ds) ∧ U'.length ≤ U.length + 14 * ds.length
  | [], D, U, R, h, _ => ⟨U, h, Nat.le_refl _⟩
  | d :: ds, D, U, R, h, hd => by
    have hd0 := hd d List.mem_cons_self
    obtain ⟨U', h1, h2⟩ := RowsOk.deeds ds _ _ _ (h.deed hd0) fun x hx => hd x (List.mem_cons_of_mem _ hx)
    refine ⟨U', h1, ?_⟩
    rw [List.length_append] at h2
    have := news_len hd0
    rw [List.length_cons]
    omega
theorem RowsOk.new : RowsOk newD [] newR := ⟨fun _ _ => RowOk.nil _, fun _ _ => rfl⟩
theorem doDDs_snoc (D : Nat → DD) (ds : List Deed) (d : Deed) : doDDs D (ds ++ [d]) = doDD (doDDs D ds) d := by
  unfold doDDs
  rw [List.foldl_append]
  rfl
theorem RowsOk.deedsR {m : Nat} {Pr : Int → Prop} (hP : ∀ d : Deed, d.Ok m → ∀ x ∈ d.news, Pr x) : ∀ (ds : List Deed) (D : Nat → DD) (U : List Int) (R : Nat → Row), RowsOk D U R → (∀ x ∈ U, Pr x) → (∀ d ∈ ds, d.Ok m) → ∃ U', RowsOk (doDDs D ds) U' (doRs R ds) ∧ U'.length ≤ U.length + 14 * ds.length ∧ ∀ x ∈ U', Pr x
  | [], D, U, R, h, hu, _ => ⟨U, h, Nat.le_refl _, hu⟩
  | d :: ds, D, U, R, h, hu, hd => by
    have hd0 := hd d List.mem_cons_self
    obtain ⟨U', h1, h2, h3⟩ := RowsOk.deedsR hP ds _ _ _ (h.deed hd0) (fun x hx => by
      rcases List.mem_append.mp hx with e | e
      · exact hu x e
      · exact hP d hd0 x e) fun x hx => hd x (List.mem_cons_of_mem _ hx)
    refine ⟨U', h1, ?_, h3⟩
    rw [List.length_append] at h2
    have := news_len hd0
    rw [List.length_cons]
    omega
theorem news_in {d : Deed} {m : Nat} (h : d.Ok m) : ∀ x ∈ d.news, -1000000000000000000 ≤ x ∧ x ≤ 1000000000000000000 := by
  cases d with
  | come c r n st t =>
    intro x hx
    obtain ⟨k, hk, rfl⟩ := List.mem_map.mp hx
    exact h.2.2.2.2.2.2.2 k (List.mem_range.mp hk)
  | pour a b => intro x hx; cases hx
theorem RowOk.lt_in {D : DD} {U : List Int} (h : RowOk D U) {r : Int} (hr : (rowD D).lt r < (rowD D).lt (r + 1)) : r ∈ U := by
  have ha := rowD_at (r := r) h.nd
  cases g : getDD D r with
  | none =>
    rw [g] at ha
    simp at ha
    omega
  | some v =>
    unfold getDD at g
    cases e : D.find? fun x => decide (x.1 = r) with
    | none => rw [e] at g; cases g
    | some x =>
      have hm := List.mem_of_find?_eq_some e
      have hx := List.find?_some e
      have := h.sub x hm
      rwa [of_decide_eq_true hx] at this
end RB

/-! Rules of my own over the hand layer, and short steps through a reading. -/
namespace RB
open PySem PySem.Spec PyProof.Rows L2
/-! ### steps: from what a reading asks to what is left -/
section
variable {σ : L2.St} {H : Hp} {Q : VK} {i j : Int} {v x y : V} {ta tb tc te : TE} {t u : TT} {D : Ends}
theorem r_var {n : Nat} (h : σ[n]? = some (some v)) (q : Q v H) : tVar n σ H Q := ⟨v, h, q⟩
theorem r_c (q : Q v H) : tC v σ H Q := q
theorem r_op {r : R2} (q : ta σ H fun x H1 => tb σ H1 fun y H2 => r x y H2 Q) : tOp r ta tb σ H Q := q
theorem r_un {r : V → Hp → VK → Prop} (q : ta σ H fun x H1 => r x H1 Q) : tUn r ta σ H Q := q
theorem r_I0 {g : Int → Int → V} (q : Q (g i j) H) : rI0 g (.int i) (.int j) H Q := ⟨i, j, rfl, rfl, q⟩
theorem r_I {C : Int → Int → Prop} {g : Int → Int → V} (c : C i j) (q : Q (g i j) H) : rI C g (.int i) (.int j) H Q := ⟨i, j, rfl, rfl, c, q⟩
theorem r_U {g : Int → V} (q : Q (g i) H) : rU g (.int i) H Q := ⟨i, rfl, q⟩
theorem r_eqI (q : Q (.bl (decide (i = j))) H) : rEq (.int i) (.int j) H Q := ⟨rfl, by rw [show decide (V.int i = V.int j) = decide (i = j) from decide_eq_decide.mpr ⟨fun h => V.int.inj h, fun h => by rw [h]⟩]; exact q⟩
theorem r_neI (q : Q (.bl (!decide (i = j))) H) : rNe (.int i) (.int j) H Q := ⟨rfl, by rw [show decide (V.int i = V.int j) = decide (i = j) from decide_eq_decide.mpr ⟨fun h => V.int.inj h, fun h => by rw [h]⟩]; exact q⟩
theorem r_test {R : Bool → Hp → Prop} (q : te σ H fun x H1 => ∃ k, x = .bl k ∧ R k H1) : tTest te σ H R := q
theorem r_B {R : Bool → Hp → Prop} (q : te σ H fun x H1 => ∃ k, x = .bl k ∧ R k H1) : tB te σ H R := q
theorem r_bl {b : Bool} {R : Bool → Prop} (q : R b) : ∃ k, V.bl b = .bl k ∧ R k := ⟨b, rfl, q⟩
theorem r_seq {t1 t2 : TS} (q : t1 { D with nx := t2 D } σ H) : tSeq t1 t2 D σ H := q
theorem r_asg {g : TG} (q : te σ H fun x H1 => g x σ H1 D.nx) : tAsg te g D σ H := q
theorem r_name {n : Nat} {R : L2.St → Hp → Prop} (q : R (σ.set n (some v)) H) : gName n v σ H R := q
theorem r_ret (q : te σ H D.rt) : tRet te D σ H := q
theorem r_drop (q : te σ H fun _ H1 => D.nx σ H1) : tDrop te D σ H := q
theorem r_next (q : D.nx σ H) : tNext D σ H := q
theorem r_ifS {t1 t2 : TS} (q : t σ H fun b H1 => if b = true then t1 D σ H1 else t2 D σ H1) : tIfS t t1 t2 D σ H := q
theorem r_and {R : Bool → Hp → Prop} (q : t σ H fun c H1 => if c = true then u σ H1 R else R false H1) : tAnd t u σ H R := q
theorem r_or {R : Bool → Hp → Prop} (q : t σ H fun c H1 => if c = true then R true H1 else u σ H1 R) : tOr t u σ H R := q
theorem r_not {R : Bool → Hp → Prop} (q : t σ H fun c H1 => R (!c) H1) : tNot t σ H R := q
theorem r_notV (q : ta σ H fun x H1 => ∃ c, x = .bl c ∧ Q (.bl (!c)) H1) : tNotV ta σ H Q := q
theorem r_andV (q : ta σ H fun x H1 => ∃ c, x = .bl c ∧ if c = true then tb σ H1 Q else Q (.bl false) H1) : tAndV ta tb σ H Q := q
theorem r_orV (q : ta σ H fun x H1 => ∃ c, x = .bl c ∧ if c = true then Q (.bl true) H1 else tb σ H1 Q) : tOrV ta tb σ H Q := q
theorem r_cb {r : List V → Hp → VK → Prop} {tt : TA} (q : tt σ H fun vs H1 => r vs H1 Q) : tCB r tt σ H Q := q
theorem r_call {sp : Sp} {dvs : List V} {E : XK} {tt : TA} (q : tt σ H fun vs H1 => sp (vs ++ dvs) H1 Q E) : tCall sp dvs E tt σ H Q := q
theorem r_nil {R : List V → Hp → Prop} (q : R [] H) : tNil σ H R := q
theorem r_cons {tr : TA} {R : List V → Hp → Prop} (q : ta σ H fun x H1 => tr σ H1 fun xs H2 => R (x :: xs) H2) : tCons ta tr σ H R := q
theorem r_lst {tt : TA} (q : tt σ H fun xs H1 => xs.length ≤ sizeLine ∧ ∀ p, H1 p = none → Q (.ref p) (upd H1 p (.lst xs))) : tLst tt σ H Q := q
theorem r_tup {tt : TA} (q : tt σ H fun xs H1 => xs.length ≤ sizeLine ∧ ∀ p, H1 p = none → Q (.ref p) (upd H1 p (.tup xs))) : tTup tt σ H Q := q
end
/-- an if by its test -/
theorem if_b {b : Bool} {A B : Prop} (h1 : b = true → A) (h2 : b = false → B) : if b = true then A else B := by
  cases b with
  | true => exact h1 rfl
  | false => rw [if_neg (by decide)]; exact h2 rfl
theorem if_d {p : Prop} [Decidable p] {A B : Prop} (h1 : p → A) (h2 : ¬ p → B) : if decide p = true then A else B := by
  by_cases h : p
  · rw [if_pos (decide_eq_true h)]; exact h1 h
  · rw [if_neg (by simpa using h)]; exact h2 h
theorem mulL {i j : Int} (h : -18446744073709551616 < i ∧ i < 18446744073709551616) : CMul i j := .inl h
theorem mulR {i j : Int} (h : -18446744073709551616 < j ∧ j < 18446744073709551616) : CMul i j := .inr h
/-- one value, all that was there kept -/
def RetV (v : V) (H : Hp) (Q : VK) : Prop := ∀ H', Same H H' → Q v H'
theorem RetV.go {v : V} {H H' : Hp} {Q : VK} (k : RetV v H Q) (e : Same H H') : Q v H' := k H' e
theorem Same.new {H : Hp} {p : Addr} {o : HO} (h : H p = none) : Same H (upd H p o) := fun a u e => by
  rw [upd_ne (ne_of_none e h)]
  exact e
/-- what H does not know may change -/
theorem Same.mut {H H' : Hp} {p : Addr} {o : HO} (e : Same H H') (h : H p = none) : Same H (upd H' p o) := fun a u ha => by
  rw [upd_ne (ne_of_none ha h)]
  exact e a u ha
end RB

namespace RB
open PySem PySem.Spec PyProof.Rows L2
/-! ### xs[1::2] -/
def oddsV {α : Type} : List α → List α
  | _ :: y :: t => y :: oddsV t
  | _ => []
theorem oddsV_length {α : Type} : ∀ xs : List α, (oddsV xs).length = xs.length / 2
  | [] => by simp [oddsV]
  | [_] => by simp [oddsV]
  | x :: y :: t => by
    show (oddsV t).length + 1 = (t.length + 1 + 1) / 2
    rw [oddsV_length t]
    omega
theorem oddsV_get {α : Type} : ∀ (xs : List α) (i : Nat), (oddsV xs)[i]? = xs[2 * i + 1]?
  | [], i => by simp [oddsV]
  | [x], i => by simp [oddsV]
  | x :: y :: t, 0 => by simp [oddsV]
  | x :: y :: t, i + 1 => by
    have h := oddsV_get t i
    have e : 2 * (i + 1) + 1 = (2 * i + 1) + 1 + 1 := by omega
    rw [e]
    simpa [oddsV] using h
theorem oddsV_halved : ∀ es : List E, oddsV es = halvedM es
  | [] => rfl
  | [_] => rfl
  | x :: y :: t => by
    show y :: oddsV t = y :: halvedM t
    rw [oddsV_halved t]
theorem odds_vals : ∀ {xs : List V} {us : List Value}, Vals xs us → Vals (oddsV xs) (oddsV us)
  | _, _, .nil => .nil
  | _, _, .cons _ .nil => .nil
  | _, _, .cons _ (.cons r t) => .cons r (odds_vals t)
theorem odds_range (n : Nat) : sliceRange (sliceBounds (some 1) none (some 2) n).1 (sliceBounds (some 1) none (some 2) n).2.1 (sliceBounds (some 1) none (some 2) n).2.2 = (List.range (n / 2)).map fun k => 2 * k + 1 := by
  have e1 : (sliceBounds (some 1) none (some 2) n).2.2 = 2 := rfl
  have e2 : (sliceBounds (some 1) none (some 2) n).2.1 = (n : Int) := by
    unfold sliceBounds
    simp
  have e3 : (sliceBounds (some 1) none (some 2) n).1 = min 1 (n : Int) := by
    unfold sliceBounds
    simp only [Option.getD_some]
    simp
    omega
  rw [e1, e2, e3]
  unfold sliceRange
  rw [if_pos (by decide)]
  by_cases h : min 1 (n : Int) < (n : Int)
  · rw [if_pos h]
    have e : (((n : Int) - min 1 (n : Int) + 2 - 1) / 2).toNat = n / 2 := by omega
    simp only [e]
    apply List.map_congr_left
    intro k hk
    omega
  · rw [if_neg h]
    have e : n / 2 = 0 := by omega
    rw [e]
    rfl
theorem odds_pickL {α : Type} : ∀ xs : List α, ((List.range (xs.length / 2)).map fun k => 2 * k + 1).filterMap (fun i => xs[i]?) = oddsV xs
  | [] => by simp [oddsV]
  | [_] => by simp [oddsV]
  | x :: y :: t => by
    have ih := odds_pickL t
    have e : (x :: y :: t).length / 2 = t.length / 2 + 1 := by
      show (t.length + 1 + 1) / 2 = _
      omega
    rw [e, List.range_succ_eq_map, List.map_cons, List.map_map, List.filterMap_cons]
    show y :: _ = y :: oddsV t
    rw [← ih, List.filterMap_map, List.filterMap_map]
    rfl
theorem odds_pick (items : Array Value) : slicePick items (some 1) none (some 2) = (oddsV items.toList).toArray := by
  unfold slicePick
  rw [odds_range, ← odds_pickL items.toList, Array.length_toList]
  have e : (fun x : Nat => items[x]?) = fun i : Nat => items.toList[i]? := by
    funext i
    simp
  rw [e]
def tOdds (K : PySem.W.Frag) (te : TE) : TE := fun σ H Q => te σ H fun x H1 => ∃ a xs, x = .ref a ∧ SqL K H1 a xs ∧ ∀ p, H1 p = none → Q (.ref p) (upd H1 p (.lst (oddsV xs)))
theorem pe_odds {X : Cx} {e : Expr} {te : TE} {k1 k2 : Nat} {p1 p2 p3 pos : Pos} (he : PE X e te) : PE X (.Subscript e (.Slice (some (.Constant (.int 1) k1 p1)) none (some (.Constant (.int 2) k2 p2)) p3) pos) (tOdds X.K te) := by
  refine ⟨fun pins s σ H Q I h => ?_⟩
  refine Subscript_ (thn (he.run pins s σ H _ I h) fun v s1 ⟨x, H1, I1, r1, q1⟩ => ?_)
  obtain ⟨a, xs, ex, hx, q⟩ := q1
  subst ex
  cases r1
  have hlo : PO X (some (.Constant (.int 1) k1 p1)) (tPart (tC (.int 1))) := po_some pe_int
  have hst : PO X (some (.Constant (.int 2) k2 p2)) (tPart (tC (.int 2))) := po_some pe_int
  refine wpAny_Slice (thn (hlo.run pins s1 σ H1 (fun o H2 => o = some 1 ∧ H2 = H1) I1 ⟨1, rfl, rfl, rfl⟩) fun vl s2 ⟨l, H2, I2, pl, el, e2⟩ => ?_)
  subst el e2
  refine thn (po_none.run pins s2 σ H2 (fun o H3 => o = none ∧ H3 = H2) I2 ⟨rfl, rfl⟩) fun vu s3 ⟨u, H3, I3, pu, eu, e3⟩ => ?_
  subst eu e3
  refine thn (hst.run pins s3 σ H3 (fun o H4 => o = some 2 ∧ H4 = H3) I3 ⟨2, rfl, rfl, rfl⟩) fun vs s4 ⟨o, H4, I4, ps, eo, e4⟩ => ?_
  subst eo e4
  have I5 : Inv X pins σ H4 { s4 with heap := s4.heap.push { cls := .type "slice", data := .fields #[vl, vu, vs] } } := I4.kept (t' := s4.toks) fun b ob q => Heap.get?_push_of_some _ q
  obtain ⟨its, r, ht, hz⟩ := I5.list hx
  have hlen := r.length
  show wpAny (model X.prog X.w) X.A (subscriptTail e (.Slice (some (.Constant (.int 1) k1 p1)) none (some (.Constant (.int 2) k2 p2)) p3) (.ref a) (.ref s4.heap.objs.size)) (EP X pins σ Q) X.xe { s4 with heap := s4.heap.push { cls := .type "slice", data := .fields #[vl, vu, vs] } }
  refine tail_any (ops := [.ref a, .ref s4.heap.objs.size]) ht.isList.typeIs (PySem.slot_list_getitem.lookup) ?_ (by with_unfolding_all rfl)
  refine wpAny_getItem_list_slice ht.isList (Heap.IsSliceOf.new _ vl vu vs) pl pu ps (by decide) ?_ (by rw [List.size_toArray]; omega)
  rw [odds_pick]
  refine ⟨.ref _, _, I5.laid (t' := s4.toks) (o := .lst (oddsV xs)) (fun b ob q => Heap.get?_push_of_some _ q) (Nat.le_refl _) ?_, rfl, q _ (I5.hok.fresh (Nat.le_refl _))⟩
  exact ⟨by rw [oddsV_length]; omega, _, 0, odds_vals r, Heap.get?_push_size _ rfl⟩
end RB

namespace RB
open PySem PySem.Spec PyProof.Rows L2
/-! ### what stands in the heap: tuples of three ints, lists of them -/
def tri (e : E) : HO := .tup [.int e.1, .int e.2.1, .int e.2.2]
def EntsV (H : Hp) (xs : List V) (es : List E) : Prop := xs.length = es.length ∧ ∀ (i : Nat) (e : E), es[i]? = some e → ∃ t, xs[i]? = some (.ref t) ∧ H t = some (tri e)
def Ents (H : Hp) (a : Addr) (es : List E) : Prop := ∃ xs, H a = some (.lst xs) ∧ EntsV H xs es
theorem EntsV.same {H H' : Hp} {xs : List V} {es : List E} (h : EntsV H xs es) (s : Same H H') : EntsV H' xs es := ⟨h.1, fun i e he => by
  obtain ⟨t, h1, h2⟩ := h.2 i e he
  exact ⟨t, h1, s _ _ h2⟩⟩
theorem Ents.same {H H' : Hp} {a : Addr} {es : List E} (h : Ents H a es) (s : Same H H') : Ents H' a es := by
  obtain ⟨xs, h1, h2⟩ := h
  exact ⟨xs, s _ _ h1, h2.same s⟩
/-- lists and tuples stay: what other objects become does not touch entries -/
def Imm (H H' : Hp) : Prop := (∀ a xs, H a = some (.lst xs) → H' a = some (.lst xs)) ∧ ∀ a xs, H a = some (.tup xs) → H' a = some (.tup xs)
theorem Imm.of {H H' : Hp} (s : Same H H') : Imm H H' := ⟨fun _ _ h => s _ _ h, fun _ _ h => s _ _ h⟩
theorem Imm.refl (H : Hp) : Imm H H := ⟨fun _ _ h => h, fun _ _ h => h⟩
theorem Imm.trans {H H1 H2 : Hp} (a : Imm H H1) (b : Imm H1 H2) : Imm H H2 := ⟨fun _ _ h => b.1 _ _ (a.1 _ _ h), fun _ _ h => b.2 _ _ (a.2 _ _ h)⟩
theorem EntsV.imm {H H' : Hp} {xs : List V} {es : List E} (h : EntsV H xs es) (s : ∀ a xs, H a = some (.tup xs) → H' a = some (.tup xs)) : EntsV H' xs es := ⟨h.1, fun i e he => by
  obtain ⟨t, h1, h2⟩ := h.2 i e he
  exact ⟨t, h1, s _ _ h2⟩⟩
theorem Ents.imm {H H' : Hp} {a : Addr} {es : List E} (h : Ents H a es) (s : Imm H H') : Ents H' a es := by
  obtain ⟨xs, h1, h2⟩ := h
  exact ⟨xs, s.1 _ _ h1, h2.imm s.2⟩
/-- a list that grows, entries behind it -/
theorem EntsV.snoc {H : Hp} {xs : List V} {es : List E} {t : Addr} {e : E} (h : EntsV H xs es) (ht : H t = some (tri e)) : EntsV H (xs ++ [.ref t]) (es ++ [e]) := by
  refine ⟨by simp [h.1], fun i e' he => ?_⟩
  by_cases hi : i < es.length
  · rw [List.getElem?_append_left hi] at he
    obtain ⟨t', h1, h2⟩ := h.2 i e' he
    exact ⟨t', by rw [List.getElem?_append_left (by rw [h.1]; exact hi)]; exact h1, h2⟩
  · have hi' : i = es.length := by
      have := (List.getElem?_eq_some_iff.mp he).1
      simp at this
      omega
    subst hi'
    simp at he
    subst he
    refine ⟨t, ?_, ht⟩
    rw [← h.1]
    simp
theorem EntsV.nil {H : Hp} : EntsV H [] [] := ⟨rfl, fun i e h => by simp at h⟩
/-! ### a new list, all that was there kept -/
def RetE (es : List E) (H : Hp) (Q : VK) : Prop := ∀ p H', H p = none → Same H H' → Ents H' p es → Q (.ref p) H'
def RetI (ns : List Int) (H : Hp) (Q : VK) : Prop := ∀ p H', H p = none → Same H H' → H' p = some (.lst (ns.map V.int)) → Q (.ref p) H'
theorem RetE.go {es : List E} {H H' H2 : Hp} {p : Addr} {Q : VK} (k : RetE es H Q) (s : Same H H') (hp : H' p = none) (s2 : Same H' H2) (h : Ents H2 p es) : Q (.ref p) H2 := k p H2 (s.free hp) (s.trans s2) h
theorem RetI.go {ns : List Int} {H H' H2 : Hp} {p : Addr} {Q : VK} (k : RetI ns H Q) (s : Same H H') (hp : H' p = none) (s2 : Same H' H2) (h : H2 p = some (.lst (ns.map V.int))) : Q (.ref p) H2 := k p H2 (s.free hp) (s.trans s2) h
/-! ### comprehensions -/
/-- the turns that give something, in order -/
def pickN (n : Nat) (t : Nat → Bool) : List Nat := (List.range n).filter t
theorem pickN_succ_yes {n : Nat} {t : Nat → Bool} (h : t n = true) : pickN (n + 1) t = pickN n t ++ [n] := by
  unfold pickN
  rw [List.range_succ, List.filter_append, List.filter_cons_of_pos h]
  rfl
theorem pickN_succ_no {n : Nat} {t : Nat → Bool} (h : t n = false) : pickN (n + 1) t = pickN n t := by
  unfold pickN
  rw [List.range_succ, List.filter_append, List.filter_cons_of_neg (by rw [h]; decide)]
  simp
theorem pickN_len (n : Nat) (t : Nat → Bool) : (pickN n t).length ≤ n := by
  unfold pickN
  have := List.length_filter_le t (List.range n)
  simpa using this
theorem pickN_all (n : Nat) : pickN n (fun _ => true) = List.range n := by
  unfold pickN
  rw [List.filter_eq_self]
  intro _ _
  rfl
/-- what stands in the made list: ys, by the turns -/
structure Made (n : Nat) (t : Nat → Bool) (P : Nat → V → Hp → Prop) (ys : List V) (H : Hp) : Prop where
  len : ys.length = (pickN n t).length
  get : ∀ (k i : Nat) (y : V), (pickN n t)[k]? = some i → ys[k]? = some y → P i y H
def LcG (J : It) (g : TG) (tt : TT) (te : TE) (vs : List Nat) (σ : L2.St) (H1 : Hp) (Q : VK) : Prop := ∀ D, H1 D = none → ∃ W : Nat → Nat → Hp → Prop, (∃ m, W 0 m (upd H1 D (.lst []))) ∧ ∀ i m H, W i m H →
  (J.stop i H ∧ Q (.ref D) H) ∨ (J.go i H ∧ ∃ Nx : Hp → Prop, (∀ H', Nx H' → ∃ m', m' < m ∧ W (i + 1) m' H') ∧ ∀ x H', J.yld i H x H' → g x (wipe σ vs) H' fun σ2 H2 => wipe σ2 vs = wipe σ vs ∧ tt σ2 H2 fun b H3 =>
    if b = true then te σ2 H3 fun y H4 => ∃ acc, H4 D = some (.lst acc) ∧ acc.length < sizeLine ∧ Nx (upd H4 D (.lst (acc ++ [y]))) else Nx H3)
def ForG (J : It) (g : TG) (tb : TS) (D : Ends) (σ : L2.St) (H1 : Hp) : Prop := ∃ W : Nat → Nat → L2.St → Hp → Prop, (∃ m, W 0 m σ H1) ∧ ∀ i m σ H, W i m σ H →
  (J.stop i H ∧ D.nx σ H) ∨ (J.go i H ∧ ∃ N : L2.St → Hp → Prop, (∀ σ' H', N σ' H' → ∃ m', m' < m ∧ W (i + 1) m' σ' H') ∧ ∀ x H', J.yld i H x H' → g x σ H' fun σ2 H2 => tb { D with nx := N, ct := N, bk := D.nx } σ2 H2)
section
variable {J : It} {n : Nat} {G : Hp → Prop} {Y : Nat → Hp → V → Hp → Prop}
theorem lc_gen (w : Walk J n G Y) {g : TG} {tt : TT} {te : TE} {vs : List Nat} {σ : L2.St} {H1 : Hp} {Q : VK} (t : Nat → Bool) (P : Nat → V → Hp → Prop) (hn : n < 16000000)
    (hG : G H1) (monoG : ∀ H H', Same H H' → G H → G H')
    (hP : ∀ i v H H', Same H H' → P i v H → P i v H') (hP' : ∀ i v (H : Hp) (D : Addr) (xs ys : List V), H D = some (.lst xs) → P i v H → P i v (upd H D (.lst ys)))
    (hs : ∀ i, i < n → ∀ H, Same H1 H → G H → ∀ x H', Y i H x H' → Same H H' ∧ ∀ (R : V → Hp → Prop) (S : Hp → Prop), (t i = true → ∀ y H4, Same H' H4 → P i y H4 → R y H4) → (t i = false → ∀ H4, Same H' H4 → S H4) →
      g x (wipe σ vs) H' fun σ2 H2 => wipe σ2 vs = wipe σ vs ∧ tt σ2 H2 fun b H3 => if b = true then te σ2 H3 R else S H3)
    (hq : ∀ D ys H, H1 D = none → Same H1 H → H D = some (.lst ys) → Made n t P ys H → Q (.ref D) H) :
    LcG J g tt te vs σ H1 Q := by
  intro D hD
  have monoU : ∀ H, Same H1 H → G H := fun H s => monoG _ _ s hG
  refine lc_it w (Qd := Q (.ref D)) (fun i H => Same H1 H ∧ ∃ ys, H D = some (.lst ys) ∧ Made i t P ys H) ⟨Same.new hD, [], upd_same, ?_⟩ (fun i H _ p => monoU H p.1) (fun i x H H' hi p y => ?_) (fun H p => ?_)
  · exact ⟨by simp [pickN], fun k i y h => by simp [pickN] at h⟩
  · obtain ⟨s1, ys, hDy, M⟩ := p
    obtain ⟨s2, f⟩ := hs i hi H s1 (monoU H s1) x H' y
    have hlen : ys.length < sizeLine := by
      rw [M.len]
      have := pickN_len i t
      rw [sizeLine_eq]
      omega
    refine f _ _ (fun ht y H4 s4 hy => ⟨ys, s4 _ _ (s2 _ _ hDy), hlen, ?_⟩) (fun ht H4 s4 => ?_)
    · have hD4 : H4 D = some (.lst ys) := s4 _ _ (s2 _ _ hDy)
      refine ⟨Same.mut ((s1.trans s2).trans s4) hD, ys ++ [y], upd_same, ?_, fun k j z hk hz => ?_⟩
      · rw [pickN_succ_yes ht, List.length_append, List.length_append, M.len]
        rfl
      · rw [pickN_succ_yes ht] at hk
        by_cases hlt : k < ys.length
        · rw [List.getElem?_append_left hlt] at hz
          rw [List.getElem?_append_left (by rw [← M.len]; exact hlt)] at hk
          exact hP' _ _ _ _ _ _ hD4 (hP _ _ _ _ (s2.trans s4) (M.get k j z hk hz))
        · have hk' : k = ys.length := by
            have := (List.getElem?_eq_some_iff.mp hz).1
            simp at this
            omega
          subst hk'
          have hz' : y = z := by simpa using hz
          have hj : i = j := by
            rw [M.len] at hk
            simpa using hk
          subst hz' hj
          exact hP' _ _ _ _ _ _ hD4 hy
    · refine ⟨(s1.trans s2).trans s4, ys, s4 _ _ (s2 _ _ hDy), ?_, fun k j z hk hz => ?_⟩
      · rw [pickN_succ_no ht]
        exact M.len
      · rw [pickN_succ_no ht] at hk
        exact hP _ _ _ _ (s2.trans s4) (M.get k j z hk hz)
  · obtain ⟨s1, ys, hDy, M⟩ := p
    exact hq D ys H hD s1 hDy M
end
/-- what a turn gives is an int, told by the turn -/
theorem Made.ints {n : Nat} {t : Nat → Bool} {f : Nat → Int} {ys : List V} {H : Hp} (M : Made n t (fun i v _ => v = .int (f i)) ys H) : ys = ((pickN n t).map f).map V.int := by
  apply List.ext_getElem?
  intro k
  cases hk : (pickN n t)[k]? with
  | none =>
    have h1 : ys[k]? = none := by
      rw [List.getElem?_eq_none_iff] at hk ⊢
      rw [M.len]
      exact hk
    rw [h1, List.getElem?_map, List.getElem?_map, hk]
    rfl
  | some i =>
    have hlt : k < ys.length := by
      rw [M.len]
      exact (List.getElem?_eq_some_iff.mp hk).1
    have e := M.get k i ys[k] hk (List.getElem?_eq_getElem hlt)
    rw [List.getElem?_eq_getElem hlt, List.getElem?_map, List.getElem?_map, hk, e]
    rfl
theorem Made.vals {n : Nat} {t : Nat → Bool} {f : Nat → V} {ys : List V} {H : Hp} (M : Made n t (fun i v _ => v = f i) ys H) : ys = (pickN n t).map f := by
  apply List.ext_getElem?
  intro k
  cases hk : (pickN n t)[k]? with
  | none =>
    have h1 : ys[k]? = none := by
      rw [List.getElem?_eq_none_iff] at hk ⊢
      rw [M.len]
      exact hk
    rw [h1, List.getElem?_map, hk]
    rfl
  | some i =>
    have hlt : k < ys.length := by
      rw [M.len]
      exact (List.getElem?_eq_some_iff.mp hk).1
    have e := M.get k i ys[k] hk (List.getElem?_eq_getElem hlt)
    rw [List.getElem?_eq_getElem hlt, List.getElem?_map, hk, e]
    rfl
/-- what a turn gives is a tuple of three ints -/
def PTri (f : Nat → E) : Nat → V → Hp → Prop := fun i v H => ∃ t, v = .ref t ∧ H t = some (tri (f i))
theorem PTri.same {f : Nat → E} : ∀ i v H H', Same H H' → PTri f i v H → PTri f i v H' := fun i v H H' s ⟨t, h1, h2⟩ => ⟨t, h1, s _ _ h2⟩
theorem PTri.lst {f : Nat → E} : ∀ i v (H : Hp) (D : Addr) (xs ys : List V), H D = some (.lst xs) → PTri f i v H → PTri f i v (upd H D (.lst ys)) := fun i v H D xs ys hD ⟨t, h1, h2⟩ =>
  ⟨t, h1, by rw [upd_ne (ne_of h2 hD (by intro z; cases z))]; exact h2⟩
theorem Made.tris {n : Nat} {t : Nat → Bool} {f : Nat → E} {ys : List V} {H : Hp} (M : Made n t (PTri f) ys H) : EntsV H ys ((pickN n t).map f) := by
  refine ⟨by rw [M.len, List.length_map], fun k e he => ?_⟩
  rw [List.getElem?_map] at he
  cases hk : (pickN n t)[k]? with
  | none => rw [hk] at he; cases he
  | some i =>
    rw [hk] at he
    have he' : f i = e := Option.some.inj he
    have hlt : k < ys.length := by
      rw [M.len]
      exact (List.getElem?_eq_some_iff.mp hk).1
    obtain ⟨u, h1, h2⟩ := M.get k i ys[k] hk (List.getElem?_eq_getElem hlt)
    exact ⟨u, by rw [List.getElem?_eq_getElem hlt, h1], by rw [← he']; exact h2⟩
/-! ### loops and comprehensions, from what is walked to what is walked over -/
section
variable {σ : L2.St} {H : Hp} {Q : VK} {K : PySem.W.Frag} {wi : TI} {g : TG} {tt : TT} {te tl td : TE} {ta : TA} {vs : List Nat} {R : It → Hp → Prop} {D : Ends} {tb : TS}
theorem r_lc (q : wi σ H fun J H1 => LcG J g tt te vs σ H1 Q) : tLc wi g tt te vs σ H Q := q
theorem r_for (q : wi σ H fun J H1 => ForG J g tb D σ H1) : tFor wi g tb D σ H := q
theorem r_iList (q : tl σ H fun x H1 => ∃ a, x = .ref a ∧ (∃ xs, SqL K H1 a xs) ∧ R (Itl K a) H1) : iList K tl σ H R := q
theorem r_iTup (q : tl σ H fun x H1 => ∃ a, x = .ref a ∧ (∃ xs, SqT K H1 a xs) ∧ R (Itt K a) H1) : iTup K tl σ H R := q
theorem r_iEnum (q : ta σ H fun vs H1 => ∃ a xs, vs = [.ref a] ∧ SqL K H1 a xs ∧ R (Ite K a) H1) : iEnum K ta σ H R := q
theorem r_iZip (q : ta σ H fun vs H1 => ∃ a b xs ys, vs = [.ref a, .ref b] ∧ SqL K H1 a xs ∧ SqL K H1 b ys ∧ R (Itz K a b) H1) : iZip K ta σ H R := q
theorem r_iZipA (q : ta σ H fun vs H1 => ∃ a b xs ys, vs = [.ref a, .ref b] ∧ ((SqL K H1 a xs ∧ SqL K H1 b ys ∧ R (Itz K a b) H1) ∨ (SqT K H1 a xs ∧ SqT K H1 b ys ∧ R (RZ.ItzT K a b) H1))) : RZ.iZipA K ta σ H R := q
theorem r_iRng1 (q : ta σ H fun vs H1 => ∃ j : Int, vs = [.int j] ∧ -(2 ^ 62) ≤ j ∧ j < 2 ^ 62 ∧ R (Itr 0 j.toNat) H1) : iRng1 ta σ H R := q
theorem r_iKeys (q : td σ H fun x H1 => ∃ d o, x = .ref d ∧ ((∃ kvs, H1 d = some (.frz o (.dK kvs)) ∧ R (Itk d o kvs) H1) ∨ ∃ kvs, H1 d = some (.frz o (.dT kvs)) ∧ R (Itkt d o kvs) H1)) : iKeys td σ H R := q
theorem r_odds (q : te σ H fun x H1 => ∃ a xs, x = .ref a ∧ SqL K H1 a xs ∧ ∀ p, H1 p = none → Q (.ref p) (upd H1 p (.lst (oddsV xs)))) : tOdds K te σ H Q := q
theorem r_tupG {n : Nat} {tg : TGs} {v : V} {R : L2.St → Hp → Prop} (q : ∃ a xs, v = .ref a ∧ SqT K H a xs ∧ xs.length = n ∧ tg xs σ H R) : gTup K n tg v σ H R := q
theorem r_consG {t : TG} {u : TGs} {v : V} {r : List V} {R : L2.St → Hp → Prop} (q : t v σ H fun σ' H' => u r σ' H' R) : gCons t u (v :: r) σ H R := ⟨v, r, rfl, q⟩
theorem r_nilG {R : L2.St → Hp → Prop} (q : R σ H) : gNil [] σ H R := ⟨rfl, q⟩
theorem r_yes {R : Bool → Hp → Prop} (q : R true H) : tYes σ H R := q
end
theorem if_t {A B : Prop} (h : A) : if true = true then A else B := by rw [if_pos rfl]; exact h
theorem if_f {A B : Prop} (h : B) : if false = true then A else B := by rw [if_neg Bool.false_ne_true]; exact h
theorem walk_zipT {K : PySem.W.Frag} {a b : Addr} {xs ys : List V} {n : Nat} (hn : n = min xs.length ys.length) : Walk (RZ.ItzT K a b) n (fun H => SqT K H a xs ∧ SqT K H b ys) (YPair (fun i => xs[i]?) (fun i => ys[i]?)) := by
  subst hn
  refine ⟨fun i _ hi q => ?_, fun _ q => ⟨xs, ys, q.1, q.2, by omega⟩, fun i H v H' _ q y => ?_⟩
  · have h1 : i < xs.length := by omega
    have h2 : i < ys.length := by omega
    exact ⟨xs, ys, xs[i], ys[i], q.1, q.2, by simp [h1], by simp [h2]⟩
  · obtain ⟨T, x, z, h1, h2, h3, h4, h5⟩ := y
    exact ⟨T, x, z, h1, h2, h3, h4 xs q.1, h5 ys q.2⟩
theorem Same.tup {K : PySem.W.Frag} {H H' : Hp} {a : Addr} {xs : List V} (e : Same H H') (h : SqT K H a xs) : SqT K H' a xs := by
  rcases h with (h | ⟨o, h⟩) | h
  · exact .inl (.inl (e _ _ h))
  · exact .inl (.inr ⟨o, e _ _ h⟩)
  · exact .inr h
theorem SqT.of' {K : PySem.W.Frag} {H : Hp} {a : Addr} {xs : List V} (h : H a = some (.tup xs)) : SqT K H a xs := .inl (.inl h)
/-! ### isinstance -/
theorem kit_int_int : kitB "int" "int" = some true := by decide +kernel
theorem kit_int_bool : kitB "int" "bool" = some false := by decide +kernel
theorem kit_bool_int : kitB "bool" "int" = some true := by decide +kernel
theorem kit_bool_bool : kitB "bool" "bool" = some true := by decide +kernel
theorem kit_none_int : kitB "NoneType" "int" = some false := by decide +kernel
theorem kit_str_int : kitB "str" "int" = some false := by decide +kernel
theorem kit_list_int : kitB "list" "int" = some false := by decide +kernel
theorem kit_tuple_int : kitB "tuple" "int" = some false := by decide +kernel
theorem kit_list_list : kitB "list" "list" = some true := by decide +kernel
theorem kit_tuple_tuple : kitB "tuple" "tuple" = some true := by decide +kernel
theorem r_isi {K : PySem.W.Frag} {H : Hp} {Q : VK} {x : V} {a b : String} {r : Bool} (ty : TyX K H x (.type a)) (h : kitB a b = some r) (q : Q (.bl r) H) : rIsi K [x, .ty b] H Q :=
  ⟨x, .ty b, .type a, .type b, r, rfl, .ty b, ty, kit_ty h, q⟩
theorem r_isiI {K : PySem.W.Frag} {H : Hp} {Q : VK} {i : Int} (q : Q (.bl true) H) : rIsi K [.int i, .ty "int"] H Q := r_isi (.base (.int i)) kit_int_int q
theorem r_isiIb {K : PySem.W.Frag} {H : Hp} {Q : VK} {i : Int} (q : Q (.bl false) H) : rIsi K [.int i, .ty "bool"] H Q := r_isi (.base (.int i)) kit_int_bool q
theorem if_nf {A B : Prop} (h : A) : if (!false) = true then A else B := by rw [if_pos (by decide)]; exact h
theorem if_nt {A B : Prop} (h : B) : if (!true) = true then A else B := by rw [if_neg (by decide)]; exact h
theorem if_nd {p : Prop} [Decidable p] {A B : Prop} (h1 : ¬ p → A) (h2 : p → B) : if (!decide p) = true then A else B := by
  by_cases h : p
  · rw [if_neg (by simp [h])]; exact h2 h
  · rw [if_pos (by simp [h])]; exact h1 h
theorem walk_range0 {n : Nat} : Walk (Itr 0 n) n (fun _ => True) (fun i H x H' => H' = H ∧ x = .int (i : Int)) :=
  (walk_range (lo := 0) (n := n)).mono (fun _ h => h) fun i H x H' _ _ y => ⟨y.1, by
    have e : x = V.int (0 + (i : Int)) := y.2
    rw [Int.zero_add] at e
    exact e⟩
/-- a for, as for_it, in this file's words -/
theorem for_go {J : It} {n : Nat} {G : Hp → Prop} {Y : Nat → Hp → V → Hp → Prop} (w : Walk J n G Y) {g : TG} {tb : TS} {D : Ends} {σ : L2.St} {H : Hp} (Pv : Nat → L2.St → Hp → Prop) (h0 : Pv 0 σ H) (hG : ∀ i σ H, i ≤ n → Pv i σ H → G H)
    (hs : ∀ i x σ H H', i < n → Pv i σ H → Y i H x H' → g x σ H' fun σ2 H2 => tb { D with nx := Pv (i + 1), ct := Pv (i + 1), bk := D.nx } σ2 H2) (hd : ∀ σ H, Pv n σ H → D.nx σ H) : ForG J g tb D σ H := for_it w Pv h0 hG hs hd
section
variable {σ : L2.St} {H : Hp} {Q : VK} {K : PySem.W.Frag} {to : TE} {t : TA} {T : String} {r : V → List V → Hp → VK → Prop}
theorem r_bm (q : to σ H fun x H1 => tyV K T x H1 ∧ t σ H1 fun xs H2 => r x xs H2 Q) : tBM K T r to t σ H Q := q
theorem r_bm0 (q : to σ H fun x H1 => tyV K T x H1 ∧ r x [] H1 Q) : tBM0 K T r to σ H Q := q
theorem ty_lst {p : Addr} {xs : List V} (h : H p = some (.lst xs)) : tyV K "list" (.ref p) H := .inl ⟨rfl, _, SqL.of h⟩
end
theorem ixL {X : Cx} {K : PySem.W.Frag} (h : X.K = K) : IxR X (rIxL K) := by
  subst h
  exact ix_list
theorem ixT {X : Cx} {K : PySem.W.Frag} (h : X.K = K) : IxR X (rIxT K) := by
  subst h
  exact ix_tup
theorem r_par {i j : Nat} {ta : TA} {D : Ends} {σ : L2.St} {H : Hp} (q : ta σ H fun vs H1 => ∃ v w, vs = [v, w] ∧ D.nx ((σ.set i (some v)).set j (some w)) H1) : tPar i j ta D σ H := q
theorem r_two {R : V → V → Prop} {x y : V} (q : R x y) : ∃ v w, [x, y] = [v, w] ∧ R v w := ⟨x, y, rfl, q⟩
theorem r_retN {D : Ends} {σ : L2.St} {H : Hp} (q : D.rt .non H) : tRetN D σ H := q
theorem r_callS {sp : Sp} {E : L2.St → XK} {t : TA} {σ : L2.St} {H : Hp} {Q : VK} (q : t σ H fun vs H1 => sp vs H1 Q (E σ)) : tCallS sp E t σ H Q := q
theorem r_ckw {r : List V → List V → Hp → VK → Prop} {t tk : TA} {σ : L2.St} {H : Hp} {Q : VK} (q : t σ H fun vs H1 => tk σ H1 fun zs H2 => r vs zs H2 Q) : tCKw r t tk σ H Q := q
end RB

namespace RB
open PySem PySem.Spec PyProof.Rows L2
/-! ### data, for == and != -/
def dI (ns : List Int) : PyData := .list (ns.map PyData.int)
def dE (e : E) : PyData := .tuple [.int e.1, .int e.2.1, .int e.2.2]
def dEs (es : List E) : PyData := .list (es.map dE)
theorem lay_ints : ∀ ns : List Int, PyData.canLayAll0 (ns.map PyData.int) = true
  | [] => by simp [PyData.canLayAll0]
  | n :: t => by simp [PyData.canLayAll0, PyData.canLay0, lay_ints t]
theorem dep_ints : ∀ ns : List Int, PyData.depthAll (ns.map PyData.int) ≤ 1
  | [] => by simp [PyData.depthAll]
  | n :: t => by
    have := dep_ints t
    simp only [List.map_cons, PyData.depthAll, PyData.depth]
    omega
theorem lay_es : ∀ es : List E, PyData.canLayAll0 (es.map dE) = true
  | [] => by simp [PyData.canLayAll0]
  | n :: t => by simp [PyData.canLayAll0, PyData.canLay0, dE, lay_es t]
theorem dep_es : ∀ es : List E, PyData.depthAll (es.map dE) ≤ 2
  | [] => by simp [PyData.depthAll]
  | n :: t => by
    have := dep_es t
    simp only [List.map_cons, PyData.depthAll, dE, PyData.depth]
    omega
theorem shp {d : PyData} (h1 : d.canLay0 = true) (h2 : d.depth ≤ 64) : SeqAt.shaped d = true := by
  unfold SeqAt.shaped
  rw [h1, decide_eq_true h2]
  rfl
theorem lay_dI (ns : List Int) : (dI ns).canLay0 = true := by
  unfold dI
  simp only [PyData.canLay0]
  exact lay_ints ns
theorem lay_dEs (es : List E) : (dEs es).canLay0 = true := by
  unfold dEs
  simp only [PyData.canLay0]
  exact lay_es es
theorem dep_dI (ns : List Int) : (dI ns).depth ≤ 3 := by
  have := dep_ints ns
  unfold dI
  simp only [PyData.depth]
  omega
theorem dep_dEs (es : List E) : (dEs es).depth ≤ 4 := by
  have := dep_es es
  unfold dEs
  simp only [PyData.depth]
  omega
theorem shp_dI (ns : List Int) : SeqAt.shaped (dI ns) = true := shp (lay_dI ns) (by have := dep_dI ns; omega)
theorem shp_dEs (es : List E) : SeqAt.shaped (dEs es) = true := shp (lay_dEs es) (by have := dep_dEs es; omega)
theorem dpa_ints {K : PySem.W.Frag} {H : Hp} : ∀ ns : List Int, DpAll K H (ns.map V.int) (ns.map PyData.int)
  | [] => .nil
  | n :: t => .cons (.int n) (dpa_ints t)
theorem dp_ints {K : PySem.W.Frag} {H : Hp} {a : Addr} {ns : List Int} (h : SqL K H a (ns.map V.int)) : Dp K H (.ref a) (dI ns) := .lst h (dpa_ints ns)
theorem dpa_es {K : PySem.W.Frag} {H : Hp} : ∀ (es : List E) (xs : List V), EntsV H xs es → DpAll K H xs (es.map dE)
  | [], [], _ => .nil
  | [], x :: xs, h => by have := h.1; simp at this
  | e :: es, [], h => by have := h.1; simp at this
  | e :: es, x :: xs, h => by
    obtain ⟨t, h1, h2⟩ := h.2 0 e rfl
    have hx : x = .ref t := by simpa using h1
    subst hx
    refine .cons (.tup (SqT.of' h2) (.cons (.int _) (.cons (.int _) (.cons (.int _) .nil)))) (dpa_es es xs ⟨by have := h.1; simpa using this, fun i e' he => ?_⟩)
    exact h.2 (i + 1) e' (by simpa using he)
theorem dp_es {K : PySem.W.Frag} {H : Hp} {a : Addr} {es : List E} (h : Ents H a es) : Dp K H (.ref a) (dEs es) := by
  obtain ⟨xs, h1, h2⟩ := h
  exact .lst (SqL.of h1) (dpa_es es xs h2)
/-! ### every second of the places -/
theorem pickN_odd : ∀ n : Nat, pickN n (fun i => decide (i % 2 = 1)) = (List.range (n / 2)).map fun k => 2 * k + 1
  | 0 => rfl
  | n + 1 => by
    have ih := pickN_odd n
    by_cases h : n % 2 = 1
    · rw [pickN_succ_yes (by simpa using h), ih, show (n + 1) / 2 = n / 2 + 1 by omega, List.range_succ, List.map_append]
      congr 1
      show [n] = [2 * (n / 2) + 1]
      congr 1
      omega
    · rw [pickN_succ_no (by simpa using h), ih, show (n + 1) / 2 = n / 2 by omega]
theorem halved_pick (es : List E) : (pickN es.length (fun i => decide (i % 2 = 1))).map (fun i => es.getD i (0, 0, 0)) = halvedM es := by
  rw [pickN_odd, List.map_map]
  apply List.ext_getElem?
  intro i
  rw [← oddsV_halved, oddsV_get, List.getElem?_map]
  by_cases h : i < es.length / 2
  · rw [List.getElem?_range h]
    simp only [Option.map_some, Function.comp]
    rw [List.getD_eq_getElem?_getD, List.getElem?_eq_getElem (by omega : 2 * i + 1 < es.length)]
    rfl
  · rw [List.getElem?_eq_none (by simp; omega), List.getElem?_eq_none (by omega)]
    rfl
/-! ### a row put in order one by one -/
/-- the first place whose item is greater -/
def spotM (l : List Int) (r : Int) : Nat := l.countP fun x => decide (x ≤ r)
theorem insert_sorted {l : List Int} {r : Int} {k : Nat} (hs : l.Pairwise (· ≤ ·)) (h1 : ∀ x ∈ l.take k, x ≤ r) (h2 : ∀ x ∈ l.drop k, r ≤ x) : (l.take k ++ [r] ++ l.drop k).Pairwise (· ≤ ·) := by
  rw [List.append_assoc]
  refine List.pairwise_append.mpr ⟨hs.sublist (List.take_sublist k l), ?_, fun a ha b hb => ?_⟩
  · rw [List.singleton_append]
    exact List.pairwise_cons.mpr ⟨h2, hs.sublist (List.drop_sublist k l)⟩
  · rw [List.singleton_append] at hb
    rcases List.mem_cons.mp hb with e | e
    · rw [e]; exact h1 a ha
    · rw [← List.take_append_drop k l] at hs
      exact (List.pairwise_append.mp hs).2.2 a ha b e
theorem insert_perm (l : List Int) (r : Int) (k : Nat) : (l.take k ++ [r] ++ l.drop k).Perm (r :: l) := by
  have h : (l.take k ++ [r] ++ l.drop k).Perm (r :: (l.take k ++ l.drop k)) := by
    rw [List.append_assoc, List.singleton_append]
    exact List.perm_middle
  rw [List.take_append_drop] at h
  exact h
/-! ### the cells of a script -/
def cellM (ns : List Int) (k : Int) : Int := ns.getD k.toNat 0
def mixM (c k : Int) : Int := (c + 7919 * k) * 48271 % 2147483647 * ((c + 7919 * k) * 48271 % 2147483647 + 2 * k + 1) % 2147483629
theorem mixM_lo (c k : Int) : 0 ≤ mixM c k := Int.emod_nonneg _ (by decide)
theorem mixM_hi (c k : Int) : mixM c k < 2147483629 := Int.emod_lt_of_pos _ (by decide)
def readM (c : Int) : Int :=
  if mixM c 1 % 3 = 0 then mixM c 1 / 3 % 9 - 4 else if mixM c 1 % 3 = 1 then mixM c 1 / 3 % 2001 - 1000
  else if mixM c 1 / 3 % 9 = 1 then (if mixM c 1 / 27 % 2 = 0 then 10 ^ 18 else -(10 ^ 18)) else mixM c 1 * mixM c 1 % (2 * 10 ^ 18 + 1) - 10 ^ 18
theorem readM_in (c : Int) : -(10 ^ 18) ≤ readM c ∧ readM c ≤ 10 ^ 18 := by
  have h0 := mixM_lo c 1
  have h1 := mixM_hi c 1
  unfold readM
  generalize mixM c 1 = n at *
  have h2 : 0 ≤ n * n % (2 * 10 ^ 18 + 1) := Int.emod_nonneg _ (by decide)
  have h3 : n * n % (2 * 10 ^ 18 + 1) < 2 * 10 ^ 18 + 1 := Int.emod_lt_of_pos _ (by decide)
  split
  · omega
  split
  · omega
  split
  · split <;> omega
  · omega
end RB

namespace RB
open PySem PySem.Spec PyProof.Rows L2
/-! ### sorted(xs, key=f), f a def of the text whose body is «return x[0]» -/
/-- the body of such a def -/
def IsFirst (x : Str) (body : List Stmt) : Prop := ∃ (p1 p2 p3 p4 : Pos) (j : Nat), body = [.Return (some (.Subscript (.Name x p1) (.Constant (.int 0) j p2) p3)) p4]
section
variable {P : Program} {w : World} {K : PySem.W.Frag} {A : Around} {s : Shared} {f a : Addr} {fd : FuncData} {st : Stmt} {nm x : Str} {its : List Value} {n : Int} {t : Tok}
theorem first_run (F : Fun K nm nm st f fd) (S : FnScope [x] [x] (defScope st)) (hB : IsFirst x (defBody st)) (b : Binds K fd [x] []) (KX : K.In s.heap) (lim : s.heap.NoLimit) (hd : A.depth < recursionLimit) (ht : IsTup s.heap a its.toArray) (h0 : its[0]? = some (.int n t))
    (hl : (defScope st).names.lookup x = some .local) (hdb : (x == ("__debug__" : Str)) = false) :
    wpAny (model P w) A (call (.ref f) [.ref a]) (PySem.W.KeyPure (.int n) s) (fun _ _ => False) s := by
  obtain ⟨oc, od, kV, doc, pm, an, cdv, ct, osl, rfl, lk, hcd⟩ := F.ex
  obtain ⟨p1, p2, p3, p4, j, eB⟩ := hB
  have hb := b s [.ref a] KX rfl
  refine wpAny_call (codeAny_call_function hd (KX _ _ lk) rfl S.co S.gen rfl (PySem.W.codeRec_of KX hcd) (hb _ _ _ _ ?_))
  refine wpAny_newFunctionEnv_cells S.kind (fun y hy => .inl ?_) fun env he s1 x1 => ?_
  · have e : y = (x, Value.ref a) := by simpa using hy
    rw [e]
    exact hl
  subst he
  refine ⟨lim.keeps x1.toInCall.keep, codeAny_func ?_⟩
  rw [eB]
  obtain ⟨h1, tk, rfl, hk⟩ := x1.done
  refine wpAny_execs_cons (wpAny_Return_some (Subscript_ (wpAny_Name ?_ hdb)))
  refine wpAny_loadName_local S.kind hl x1.toInCall.ns (v := Value.ref a) ?_ ?_
  · show bindL _ [(x, Value.ref a)] (fun _ => none) x = some (Value.ref a)
    exact bindL_get (P := [x]) (vs := [Value.ref a]) (i := 0) (List.nodup_cons.mpr ⟨by simp, List.nodup_nil⟩) rfl rfl (show _ = some NameKind.local from hl)
  refine wpAny_Constant_int ?_
  have ht1 : IsTup h1 a its.toArray := by
    obtain ⟨o, ho, hr⟩ := ht
    exact ⟨o, hk _ _ ho, hr⟩
  refine subscriptTail_builtinR (x := .int n t) ht1.typeIs slot_tuple_getitem.lookup (getItem_tuple (j := 0) ht1 (by decide) (by decide) ?_ (by simpa using h0) ⟨rfl, ?_⟩) (by rfl)
  · have hp : 0 < its.length := (List.getElem?_eq_some_iff.mp h0).1
    unfold seqIndex?
    simp [hp]
  · exact ⟨h1, tk + 1, rfl, hk, Reads.int n t⟩
end

theorem EntsV.pairs {H : Hp} : ∀ {es : List E} {xs : List V}, EntsV H xs es → ∃ bs : List (Addr × E), xs = bs.map (fun b => V.ref b.1) ∧ es = bs.map (·.2) ∧ ∀ b ∈ bs, H b.1 = some (tri b.2)
  | [], [], _ => ⟨[], rfl, rfl, by simp⟩
  | [], x :: xs, h => by have := h.1; simp at this
  | e :: es, [], h => by have := h.1; simp at this
  | e :: es, x :: xs, h => by
    obtain ⟨t, h1, h2⟩ := h.2 0 e rfl
    have hx : x = .ref t := by simpa using h1
    subst hx
    obtain ⟨bs, e1, e2, e3⟩ := EntsV.pairs (es := es) (xs := xs) ⟨by have := h.1; simpa using this, fun i e' he => h.2 (i + 1) e' (by simpa using he)⟩
    refine ⟨(t, e) :: bs, by rw [e1]; rfl, by rw [e2]; rfl, fun b hb => ?_⟩
    rcases List.mem_cons.mp hb with q | q
    · rw [q]; exact h2
    · exact e3 b q
theorem EntsV.ofPairs {H : Hp} {bs : List (Addr × E)} (h : ∀ b ∈ bs, H b.1 = some (tri b.2)) : EntsV H (bs.map fun b => V.ref b.1) (bs.map (·.2)) := by
  refine ⟨by rw [List.length_map, List.length_map], fun i e he => ?_⟩
  rw [List.getElem?_map] at he
  cases hb : bs[i]? with
  | none => rw [hb] at he; cases he
  | some b =>
    rw [hb] at he
    have e1 : b.2 = e := Option.some.inj he
    refine ⟨b.1, by rw [List.getElem?_map, hb]; rfl, ?_⟩
    rw [← e1]
    exact h b (List.mem_of_getElem? hb)
theorem each_refs : ∀ {bs : List (Addr × E)} {us : List Value}, Vals (bs.map fun b => V.ref b.1) us → PySem.W.EachIs (fun (v : Value) (b : Addr × E) => v = Value.ref b.1) us bs
  | [], _, .nil => .nil
  | _ :: bs, _, .cons r t => .cons r (each_refs t)
theorem refs_each : ∀ {bs : List (Addr × E)} {us : List Value}, PySem.W.EachIs (fun (v : Value) (b : Addr × E) => v = Value.ref b.1) us bs → Vals (bs.map fun b => V.ref b.1) us
  | [], _, .nil => .nil
  | _ :: bs, _, .cons r t => .cons r (refs_each t)
theorem sort_snd (bs : List (Addr × E)) : (bs.mergeSort (fun a b => decide (a.2.1 ≤ b.2.1))).map (·.2) = (bs.map (·.2)).mergeSort keyLe :=
  List.map_mergeSort fun a _ b _ => rfl
def rSortedBy (f : Addr) : List V → List V → Hp → VK → Prop := fun vs zs H Q => ∃ (a : Addr) (xs : List V) (es : List E), vs = [.ref a] ∧ zs = [.ref f] ∧ H a = some (.lst xs) ∧ EntsV H xs es ∧ es.length ≤ 1000000 ∧
  ∀ (p : Addr) (ys : List V), H p = none → EntsV H ys (es.mergeSort keyLe) → Q (.ref p) (upd H p (.lst ys))
theorem cr_sortedBy {X : Cx} {f : Addr} {fd : FuncData} {st : Stmt} {nm x : Str} (F : Fun X.K nm nm st f fd) (S : FnScope [x] [x] (defScope st)) (hB : IsFirst x (defBody st)) (b : Binds X.K fd [x] []) (hr : Room 2 X.A)
    (hl : (defScope st).names.lookup x = some .local) (hdb : (x == ("__debug__" : Str)) = false) : CallRK X (.builtin "sorted") [Str.ofString "key"] (rSortedBy f) := by
  intro pins s σ H vs zs us ws Q I r rz h
  obtain ⟨a, xs, es, rfl, rfl, ha, hx, hz, q⟩ := h
  obtain rfl := Vals.ref1 r
  obtain ⟨w1, rfl, e1⟩ := vals1 rz
  obtain rfl : w1 = Value.ref f := e1
  obtain ⟨bs, rfl, rfl, hb⟩ := hx.pairs
  obtain ⟨hsz, its, n, rv, hl2⟩ := (show ObjOk X.prog X.w H s.heap a (.lst _) from I.hok a _ ha)
  have hlen : bs.length ≤ 1000000 := by simpa using hz
  have hr1 : Room 0 X.A.in1.in1 := hr.in1.in1
  refine PySem.W.sorted_key_data (b := false) (l := a) (vs := its) (bs := bs) (R := fun v b => v = Value.ref b.1) (fun b => .int b.2.1) ⟨_, hl2, rfl, _, rfl⟩ (each_refs rv) (PySem.W.AllAlike.of fun _ _ => by simp [PySem.W.alike]) (PySem.W.Sortable.others fun b => ⟨by simp, by simp⟩)
    (by rw [sizeLine_eq]; omega) (fun b _ => by have := hr.un; simp only [PyData.depth]; omega) (PyProof.Rows.ksk_s1 _ _) (fun _ => PyProof.Rows.ksk_l1 _ _) (fun _ => PyProof.Rows.ksk_t1 _ _)
    (fun v b hv hm h tk kp => ?_) (fun out c h' tk kp fresh hD hlo eo => ?_)
  · subst hv
    have hT := hb b hm
    obtain ⟨_, ts, rt, o, ho, hc, m, hd⟩ := (show ObjOk X.prog X.w H s.heap b.1 (.tup _) from I.hok _ _ hT)
    cases rt with
    | cons r1 rt =>
      obtain ⟨t1, rfl⟩ := r1
      exact first_run F S hB ‹Binds X.K fd [x] []› (I.kIn.keeps kp) (I.nolimit.keeps kp) hr1.depth ⟨o, kp _ _ ho, hc, m, hd⟩ rfl hl hdb
  · rw [PySem.W.dataLe_int (fun b : Addr × E => b.2.1)] at eo
    have hmem : ∀ b ∈ bs.mergeSort (fun a b => decide (a.2.1 ≤ b.2.1)), H b.1 = some (tri b.2) := fun b hm => hb b ((List.mergeSort_perm _ _).mem_iff.mp hm)
    have hE := EntsV.ofPairs hmem
    rw [sort_snd] at hE
    refine ⟨.ref (s.heap.objs.size + 1), upd H (s.heap.objs.size + 1) (.lst ((bs.mergeSort (fun a b => decide (a.2.1 ≤ b.2.1))).map fun b => V.ref b.1)), I.laid (t' := tk) kp (Nat.le_succ _) ⟨?_, out, c, refs_each eo, hD⟩, rfl, q _ _ (I.hok.fresh (Nat.le_succ _)) hE⟩
    rw [List.length_map, List.length_mergeSort, sizeLine_eq]
    omega
end RB

namespace RB
open PySem PySem.Spec PyProof.Rows L2
/-! ### which places a test picks -/
theorem pickN_congr {n : Nat} {t u : Nat → Bool} (h : ∀ i, i < n → t i = u i) : pickN n t = pickN n u := by
  unfold pickN
  exact List.filter_congr fun i hi => h i (List.mem_range.mp hi)
theorem pickN_lt {n u : Nat} (hu : u ≤ n) : pickN n (fun i => decide (i < u)) = List.range u := by
  induction n with
  | zero =>
    have e : u = 0 := by omega
    subst e
    rfl
  | succ n ih =>
    by_cases h : u ≤ n
    · rw [pickN_succ_no (by simpa using h), ih h]
    · have e : u = n + 1 := by omega
      subst e
      rw [pickN_congr (u := fun _ => true) (fun i hi => by simpa using hi), pickN_all]
theorem pickN_ge {n u : Nat} (hu : u ≤ n) : pickN n (fun i => decide (u ≤ i)) = List.range' u (n - u) := by
  induction n with
  | zero =>
    have e : u = 0 := by omega
    subst e
    rfl
  | succ n ih =>
    by_cases h : u ≤ n
    · rw [pickN_succ_yes (by simpa using h), ih h, show n + 1 - u = (n - u) + 1 by omega, List.range'_concat]
      congr 2
      omega
    · have e : u = n + 1 := by omega
      subst e
      rw [pickN_succ_no (by simp), pickN_congr (u := fun _ => false) (fun i hi => by simp; omega)]
      unfold pickN
      simp
theorem pickN_count {α : Type} (p : α → Bool) (d : α) : ∀ l : List α, (pickN l.length (fun i => p (l.getD i d))).length = l.countP p := by
  intro l
  have key : ∀ n, n ≤ l.length → (pickN n (fun i => p (l.getD i d))).length = (l.take n).countP p := by
    intro n
    induction n with
    | zero => intro _; simp [pickN]
    | succ n ih =>
      intro hn
      have hlt : n < l.length := by omega
      have e : l.getD n d = l[n] := by rw [List.getD_eq_getElem?_getD, List.getElem?_eq_getElem hlt]; rfl
      rw [List.take_succ_eq_append_getElem hlt, List.countP_append, ← ih (by omega)]
      cases hp : p (l.getD n d) with
      | true =>
        rw [pickN_succ_yes hp, List.length_append, List.countP_cons_of_pos (by rw [← e]; exact hp)]
        rfl
      | false =>
        rw [pickN_succ_no hp, List.countP_cons_of_neg (by rw [← e, hp]; decide)]
        rfl
  have h := key l.length (Nat.le_refl _)
  rw [List.take_length] at h
  exact h
theorem upTo_pick (es : List E) (r : Int) : (pickN es.length (fun i => decide ((es.getD i (0, 0, 0)).1 ≤ r))).length = upTo es r :=
  pickN_count (fun e : E => decide (e.1 ≤ r)) (0, 0, 0) es
/-! ### one entry put in its place -/
def insE (l : List E) (y : E) : List E := l.take (upTo l y.1) ++ [y] ++ l.drop (upTo l y.1)
theorem insE_length (l : List E) (y : E) : (insE l y).length = l.length + 1 := by
  unfold insE
  have := upTo_le l y.1
  simp
  omega
theorem insE_sorted {l : List E} (hs : Srtd l) (y : E) : Srtd (insE l y) := by
  obtain ⟨h1, h2⟩ := upTo_cut hs y.1
  unfold insE
  rw [List.append_assoc]
  refine List.pairwise_append.mpr ⟨hs.sublist (List.take_sublist _ l), ?_, fun a ha b hb => ?_⟩
  · rw [List.singleton_append]
    exact List.pairwise_cons.mpr ⟨fun b hb => by have := h2 b hb; omega, hs.sublist (List.drop_sublist _ l)⟩
  · rw [List.singleton_append] at hb
    rcases List.mem_cons.mp hb with e | e
    · rw [e]; exact h1 a ha
    · have := h1 a ha
      have := h2 b e
      omega
theorem insE_filter {l : List E} (hs : Srtd l) (y : E) (z : Int) : (insE l y).filter (fun e => decide (e.1 = z)) = l.filter (fun e => decide (e.1 = z)) ++ [y].filter (fun e => decide (e.1 = z)) := by
  obtain ⟨h1, h2⟩ := upTo_cut hs y.1
  have hl : l.filter (fun e => decide (e.1 = z)) = (l.take (upTo l y.1)).filter (fun e => decide (e.1 = z)) ++ (l.drop (upTo l y.1)).filter (fun e => decide (e.1 = z)) := by
    rw [← List.filter_append, List.take_append_drop]
  unfold insE
  rw [List.filter_append, List.filter_append, hl]
  by_cases c : y.1 = z
  · have hd : (l.drop (upTo l y.1)).filter (fun e => decide (e.1 = z)) = [] := by
      rw [List.filter_eq_nil_iff]
      intro e he
      have := h2 e he
      simp only [decide_eq_true_eq]
      omega
    rw [hd, List.append_nil, List.append_nil]
  · have hn : [y].filter (fun e => decide (e.1 = z)) = [] := by
      rw [List.filter_cons_of_neg (by simpa using c)]
      rfl
    rw [hn, List.append_nil, List.append_nil]
theorem insE_fold : ∀ (ys l : List E), Srtd l → Srtd (ys.foldl insE l) ∧ ∀ z : Int, (ys.foldl insE l).filter (fun e => decide (e.1 = z)) = (l ++ ys).filter (fun e => decide (e.1 = z))
  | [], l, h => ⟨h, fun z => by simp⟩
  | y :: ys, l, h => by
    obtain ⟨h1, h2⟩ := insE_fold ys (insE l y) (insE_sorted h y)
    refine ⟨h1, fun z => ?_⟩
    rw [List.foldl_cons, h2 z, List.filter_append, insE_filter h y z, ← List.filter_append, ← List.filter_append]
    simp
theorem due_join {a b : List E} {many more : Int} (ha : Srtd a) : (movedM b a many).foldl insE (movedM a b more) = joinM a many b more := by
  obtain ⟨h1, h2⟩ := insE_fold (movedM b a many) (movedM a b more) (moved_sorted ha)
  exact stable_one h1 (joinM_sorted _ _ _ _) fun z => by rw [h2 z]; exact (keyStable _ z).symm
/-! ### some of a row's entries, their bounds wider -/
def someE (c : Int) : Nat → List Int → List E
  | _, [] => []
  | k, r :: t => if 0 < mixM c k % 3 then (r, (k : Int) - mixM c k / 3 % 4, (k : Int) + mixM c k / 12 % 4) :: someE c (k + 1) t else someE c (k + 1) t
theorem someE_append (c : Int) : ∀ (l m : List Int) (k : Nat), someE c k (l ++ m) = someE c k l ++ someE c (k + l.length) m
  | [], m, k => by simp [someE]
  | r :: l, m, k => by
    have ih := someE_append c l m (k + 1)
    rw [show k + 1 + l.length = k + (r :: l).length by simp; omega] at ih
    simp only [List.cons_append, someE]
    split
    · rw [ih]; rfl
    · exact ih
theorem someE_mem (c : Int) : ∀ (l : List Int) (k : Nat) (e : E), e ∈ someE c k l → ∃ i, l[i]? = some e.1 ∧ e.2.1 ≤ ((k + i : Nat) : Int) ∧ ((k + i : Nat) : Int) ≤ e.2.2
  | [], k, e, h => by simp [someE] at h
  | r :: l, k, e, h => by
    have go : e ∈ someE c (k + 1) l → ∃ i, (r :: l)[i]? = some e.1 ∧ e.2.1 ≤ ((k + i : Nat) : Int) ∧ ((k + i : Nat) : Int) ≤ e.2.2 := fun q => by
      obtain ⟨i, h1, h2, h3⟩ := someE_mem c l (k + 1) e q
      exact ⟨i + 1, by simpa using h1, by rw [show k + (i + 1) = k + 1 + i by omega]; exact h2, by rw [show k + (i + 1) = k + 1 + i by omega]; exact h3⟩
    simp only [someE] at h
    split at h
    · rcases List.mem_cons.mp h with q | q
      · subst q
        exact ⟨0, rfl, by show (k : Int) - _ ≤ ((k + 0 : Nat) : Int); omega, by show ((k + 0 : Nat) : Int) ≤ (k : Int) + _; omega⟩
      · exact go q
    · exact go h
theorem someE_keys (c : Int) : ∀ (l : List Int) (k : Nat), ((someE c k l).map (·.1)).Sublist l
  | [], k => by simp [someE]
  | r :: l, k => by
    simp only [someE]
    split
    · exact (someE_keys c l (k + 1)).cons_cons r
    · exact (someE_keys c l (k + 1)).cons r
theorem someE_sorted {c : Int} {l : List Int} (h : l.Pairwise (· ≤ ·)) (k : Nat) : Srtd (someE c k l) := by
  have := h.sublist (someE_keys c l k)
  rw [List.pairwise_map] at this
  exact this
theorem someE_length (c : Int) (l : List Int) (k : Nat) : (someE c k l).length ≤ l.length := by
  have := (someE_keys c l k).length_le
  rwa [List.length_map] at this
theorem someE_tru {c : Int} {l : List Int} (h : l.Pairwise (· ≤ ·)) : ∀ e ∈ someE c 0 l, Tru (rowOf l) e := by
  intro e he
  obtain ⟨i, h1, h2, h3⟩ := someE_mem c l 0 e he
  have ht : Tru (rowOf l) (e.1, ((0 + i : Nat) : Int), ((0 + i : Nat) : Int)) := by
    refine enumE_tru [] l (by simpa using h) _ (List.mem_of_getElem? (i := i) ?_)
    rw [List.length_nil, enumE_get, h1]
    rfl
  have t1 := ht.least
  have t2 := ht.most
  simp only at t1 t2
  exact ⟨ht.here, by omega, by omega⟩

theorem atI_back {xs : List V} {v : V} (h : xs[xs.length - 1]? = some v) : atI xs (-1) = some v := by
  have h0 : 0 < xs.length := by
    have := (List.getElem?_eq_some_iff.mp h).1
    omega
  unfold atI ixN
  rw [if_neg (by omega), if_pos (by omega)]
  show xs[((-1 : Int) + (xs.length : Int)).toNat]? = some v
  rw [show ((-1 : Int) + (xs.length : Int)).toNat = xs.length - 1 by omega]
  exact h
theorem vals_at {H : Hp} {xs : List V} {es : List E} (hx : EntsV H xs es) {i : Nat} (hi : i < es.length) : ∃ t, xs.getD i .non = .ref t ∧ H t = some (tri es[i]) := by
  obtain ⟨t, h1, h2⟩ := hx.2 i es[i] (List.getElem?_eq_getElem hi)
  exact ⟨t, by rw [List.getD_eq_getElem?_getD, h1]; rfl, h2⟩

theorem EntsV.ins {H : Hp} {xs : List V} {es : List E} (h : EntsV H xs es) {t : Addr} {e : E} (ht : H t = some (tri e)) {k : Nat} (hk : k ≤ es.length) : EntsV H (xs.take k ++ [.ref t] ++ xs.drop k) (es.take k ++ [e] ++ es.drop k) := by
  have hl := h.1
  refine ⟨by simp; omega, fun i e' he => ?_⟩
  rw [List.append_assoc, List.singleton_append] at he ⊢
  have l1 : (es.take k).length = k := by rw [List.length_take]; omega
  have l2 : (xs.take k).length = k := by rw [List.length_take]; omega
  by_cases c : i < k
  · rw [List.getElem?_append_left (by omega), List.getElem?_take, if_pos c] at he
    obtain ⟨u, u1, u2⟩ := h.2 i e' he
    exact ⟨u, by rw [List.getElem?_append_left (by omega), List.getElem?_take, if_pos c]; exact u1, u2⟩
  · rw [List.getElem?_append_right (by omega), l1] at he
    obtain ⟨j, ej⟩ : ∃ j, i - k = j := ⟨_, rfl⟩
    rw [ej] at he
    cases j with
    | zero =>
      have e0 : e = e' := by simpa using he
      subst e0
      exact ⟨t, by rw [List.getElem?_append_right (by omega), l2, ej]; rfl, ht⟩
    | succ j =>
      rw [List.getElem?_cons_succ, List.getElem?_drop] at he
      obtain ⟨u, u1, u2⟩ := h.2 _ e' he
      exact ⟨u, by rw [List.getElem?_append_right (by omega), l2, ej, List.getElem?_cons_succ, List.getElem?_drop]; exact u1, u2⟩

theorem tru_join {R S : Row} {A B : List E} (hR : R.Ok) (hS : S.Ok) (sA : Srtd A) (sB : Srtd B) (tA : ∀ e ∈ A, Tru R e) (tB : ∀ e ∈ B, Tru S e) : ∀ e ∈ joinM A R.n B S.n, Tru (R.add S) e := by
  intro e he
  unfold joinM at he
  rcases List.mem_append.mp ((List.mergeSort_perm _ _).mem_iff.mp he) with h | h
  · obtain ⟨x, hx, rfl⟩ := List.mem_map.mp h
    exact (tA x hx).moved hS sB tB
  · obtain ⟨x, hx, rfl⟩ := List.mem_map.mp h
    rw [Row.add_comm]
    exact (tB x hx).moved hR sA tA
theorem rowOf_le (l : List Int) (r : Int) : (rowOf l).lt (r + 1) = (l.countP fun x => decide (x ≤ r) : Nat) := by
  rw [rowOf_lt]
  congr 1
  apply List.countP_congr
  intro x _
  simp only [decide_eq_true_eq]
  omega
theorem dp_pair {K : PySem.W.Frag} {H : Hp} {a b c : Addr} {es os : List E} (h : H a = some (.lst [.ref b, .ref c])) (h1 : Ents H b es) (h2 : Ents H c os) : Dp K H (.ref a) (.list [dEs es, dEs os]) := .lst (SqL.of h) (.cons (dp_es h1) (.cons (dp_es h2) .nil))
theorem lay_pair (es os : List E) : (PyData.list [dEs es, dEs os]).canLay0 = true := by
  simp only [PyData.canLay0, PyData.canLayAll0, lay_dEs, Bool.and_self]
theorem shp_pair (es os : List E) : SeqAt.shaped (.list [dEs es, dEs os]) = true := by
  refine shp (lay_pair es os) ?_
  have h1 := dep_dEs es
  have h2 := dep_dEs os
  simp only [PyData.depth, PyData.depthAll]
  omega
end RB

namespace RB
open PySem PySem.Spec PyProof.Rows L2
/-! ### a cup's attributes -/
def cf (k : Int) (l d : Addr) : List (Str × V) := [("keep", .int k), ("loose", .ref l), ("blocks", .ref d)]
theorem lk_here {k : Str} {v : V} {r : List (Str × V)} : List.lookup k ((k, v) :: r) = some v := by
  have e : (k == k) = true := beq_self_eq_true k
  simp only [List.lookup, e]
theorem lk_past {k g : Str} {v : V} {r : List (Str × V)} (h : (k == g) = false) : List.lookup k ((g, v) :: r) = List.lookup k r := by
  simp only [List.lookup, h]
theorem pf_here {f : Str} {v x : V} {r : List (Str × V)} : putF f v ((f, x) :: r) = (f, v) :: r := if_pos rfl
theorem pf_past {f g : Str} {v x : V} {r : List (Str × V)} (h : ¬ g = f) : putF f v ((g, x) :: r) = (g, x) :: putF f v r := if_neg h
theorem cf_keep (k : Int) (l d : Addr) : (cf k l d).lookup ("keep" : Str) = some (.int k) := lk_here
theorem cf_loose (k : Int) (l d : Addr) : (cf k l d).lookup ("loose" : Str) = some (.ref l) := (lk_past (by decide +kernel)).trans lk_here
theorem cf_blocks (k : Int) (l d : Addr) : (cf k l d).lookup ("blocks" : Str) = some (.ref d) := (lk_past (by decide +kernel)).trans ((lk_past (by decide +kernel)).trans lk_here)
theorem cf_no (k : Int) (l d : Addr) {m : Str} (h1 : (m == ("keep" : Str)) = false) (h2 : (m == ("loose" : Str)) = false) (h3 : (m == ("blocks" : Str)) = false) : (cf k l d).lookup m = none :=
  (lk_past h1).trans ((lk_past h2).trans ((lk_past h3).trans rfl))
theorem cf_setL (k : Int) (l l' d : Addr) : putF "loose" (.ref l') (cf k l d) = cf k l' d := (pf_past (by decide +kernel)).trans (congrArg _ pf_here)
theorem cf_made (k : Int) (l d : Addr) : putF "blocks" (.ref d) (putF "loose" (.ref l) (putF "keep" (.int k) [])) = cf k l d := by
  show putF "blocks" (.ref d) (putF "loose" (.ref l) [("keep", .int k)]) = _
  rw [pf_past (by decide +kernel)]
  show putF "blocks" (.ref d) [("keep", .int k), ("loose", .ref l)] = _
  rw [pf_past (by decide +kernel), pf_past (by decide +kernel)]
  rfl
/-- what the walk asks of the class as the top has made it -/
structure CupC (K : PySem.W.Frag) (mg : Str → Option Value) (C : Addr) : Prop where
  cl : Cls K C
  nk : NoAttr K C "keep"
  nl : NoAttr K C "loose"
  nb : NoAttr K C "blocks"
  gC : mg "Cup" = some (.ref C)
/-- an exception class of the text -/
structure ExcC (K : PySem.W.Frag) (mg : Str → Option Value) (x : Str) (C : Addr) : Prop where
  g : mg x = some (.ref C)
  x : PySem.W.excIn K C [.type "ValueError", .type "Exception", .type "BaseException", .type "object"] "ValueError.__new__" = true
  k : PySem.W.keepIn K (.ref C) = true
  b : PySem.W.subIn K (.ref C) (.type "BaseException") = some true
  t : PySem.W.typeIn K (.ref C) = some (.type "type")
/-- a whole number that the module's top has reckoned -/
structure GlobI (mg : Str → Option Value) (x : Str) (n : Int) : Prop where
  ex : ∃ t, mg x = some (.int n t)
/-- a method of the text as the top has left it; one that can be called -/
structure MethAt (K : PySem.W.Frag) (C : Addr) (m qual : Str) (st : Stmt) (ps : List Str) : Prop where
  ex : ∃ (f : Addr) (fd : FuncData), Fun K m qual st f fd ∧ Meth K C m f ∧ Binds K fd ps []
structure CalM (P : Program) (w : World) (K : PySem.W.Frag) (mg : Str → Option Value) (base : Heap) (CX : CXT) (k : Nat) (C : Addr) (m : Str) (ps : List Str) (sp : Sp) : Prop where
  ex : ∃ (f : Addr) (fd : FuncData), FnOk P w K mg base CX k f fd ps sp ∧ Meth K C m f ∧ Binds K fd ps []
/-! ### what stands for a cup -/
abbrev B3 := Nat × Addr × List E
def kvB (x : B3) : Key × V := (.inl (x.1 : Int), .ref x.2.1)
def toB (x : B3) : Blk := (x.1, x.2.2)
def DictAt (H : Hp) (d : Addr) (bs : List Blk) : Prop := ∃ b3 : List B3, H d = some (.dK (b3.map kvB)) ∧ b3.map toB = bs ∧ ∀ x ∈ b3, Ents H x.2.1 x.2.2
def CupAt (C : Addr) (H : Hp) (p d : Addr) (s : CupM) : Prop := ∃ dx l, H p = some (.ins C dx (cf s.keep l d)) ∧ H l = some (.lst (s.loose.map V.int)) ∧ DictAt H d s.blocks
/-- all but the cup at p and its dict at d stays -/
def Fr (H H' : Hp) (p d : Addr) : Prop := ∀ b o, H b = some o → b ≠ p → b ≠ d → H' b = some o
theorem Fr.same {H H' : Hp} (s : Same H H') (p d : Addr) : Fr H H' p d := fun b o h _ _ => s b o h
theorem Fr.trans {H H1 H2 : Hp} {p d : Addr} (a : Fr H H1 p d) (b : Fr H1 H2 p d) : Fr H H2 p d := fun x o h n1 n2 => b x o (a x o h n1 n2) n1 n2
theorem Fr.refl (H : Hp) (p d : Addr) : Fr H H p d := fun _ _ h _ _ => h
theorem Fr.imm {H H' : Hp} {p d C dx : Addr} {fs : List (Str × V)} {kvs : List (Key × V)} (f : Fr H H' p d) (hp : H p = some (.ins C dx fs)) (hd : H d = some (.dK kvs)) : Imm H H' :=
  ⟨fun a xs h => f a _ h (ne_of h hp (by intro z; cases z)) (ne_of h hd (by intro z; cases z)), fun a xs h => f a _ h (ne_of h hp (by intro z; cases z)) (ne_of h hd (by intro z; cases z))⟩
theorem DictAt.imm {H H' : Hp} {d : Addr} {bs : List Blk} (h : DictAt H d bs) (i : Imm H H') (hd : ∀ o, H d = some o → H' d = some o) : DictAt H' d bs := by
  obtain ⟨b3, h1, h2, h3⟩ := h
  exact ⟨b3, hd _ h1, h2, fun x hx => (h3 x hx).imm i⟩
theorem CupAt.imm {C : Addr} {H H' : Hp} {p d : Addr} {s : CupM} (h : CupAt C H p d s) (i : Imm H H') (hp : ∀ o, H p = some o → H' p = some o) (hd : ∀ o, H d = some o → H' d = some o) : CupAt C H' p d s := by
  obtain ⟨dx, l, h1, h2, h3⟩ := h
  exact ⟨dx, l, hp _ h1, i.1 _ _ h2, h3.imm i hd⟩
theorem CupAt.same {C : Addr} {H H' : Hp} {p d : Addr} {s : CupM} (h : CupAt C H p d s) (e : Same H H') : CupAt C H' p d s := h.imm (Imm.of e) (fun o => e p o) (fun o => e d o)
theorem CupAt.ne {C : Addr} {H : Hp} {p d : Addr} {s : CupM} (h : CupAt C H p d s) : p ≠ d := by
  obtain ⟨dx, l, h1, h2, b3, h3, _⟩ := h
  exact ne_of h1 h3 (by intro z; cases z)
theorem CupAt.immF {C : Addr} {H H' : Hp} {p d : Addr} {s : CupM} (h : CupAt C H p d s) (f : Fr H H' p d) : Imm H H' := by
  obtain ⟨dx, l, h1, h2, b3, h3, _⟩ := h
  exact f.imm h1 h3
/-- another cup stays -/
theorem CupAt.other {C : Addr} {H H' : Hp} {p d q e : Addr} {s o : CupM} (h : CupAt C H p d s) (ho : CupAt C H q e o) (f : Fr H H' p d) (n1 : q ≠ p) (n2 : e ≠ d) : CupAt C H' q e o := by
  have i := h.immF f
  obtain ⟨dx, l, h1, h2, b3, h3, _⟩ := id h
  obtain ⟨dx', l', g1, g2, b3', g3, _⟩ := id ho
  exact ho.imm i (fun u hu => f _ _ hu n1 (ne_of g1 h3 (by intro z; cases z))) fun u hu => f _ _ hu (ne_of g3 h1 (by intro z; cases z)) n2
/-! ### a cup's dict -/
theorem key_iff (a b : Nat) : (Sum.inl (a : Int) : Key) = Sum.inl (b : Int) ↔ a = b := ⟨fun z => Int.ofNat.inj (Sum.inl.inj z), fun h => by rw [h]⟩
theorem find_kv (b3 : List B3) (pl : Nat) : valV (b3.map kvB) (Sum.inl (pl : Int) : Key) = (b3.find? fun x => decide (x.1 = pl)).map fun x => V.ref x.2.1 := by
  have e : ((fun kv : Key × V => decide (kv.1 = (Sum.inl (pl : Int) : Key))) ∘ kvB) = fun x => decide (x.1 = pl) := funext fun x => decide_eq_decide.mpr (key_iff _ _)
  unfold valV
  rw [List.find?_map, e, Option.map_map]
  rfl
theorem find_toB (b3 : List B3) (pl : Nat) : findB (b3.map toB) pl = (b3.find? fun x => decide (x.1 = pl)).map toB := by
  unfold findB
  rw [List.find?_map]
  rfl
theorem drop_kv (b3 : List B3) (pl : Nat) : dropK (b3.map kvB) (Sum.inl (pl : Int) : Key) = (b3.filter fun x => decide (x.1 ≠ pl)).map kvB := by
  have e : ((fun kv : Key × V => decide (kv.1 ≠ (Sum.inl (pl : Int) : Key))) ∘ kvB) = fun x => decide (x.1 ≠ pl) := funext fun x => decide_eq_decide.mpr (not_congr (key_iff _ _))
  unfold dropK
  rw [List.filter_map, e]
theorem drop_toB (b3 : List B3) (pl : Nat) : dropB (b3.map toB) pl = (b3.filter fun x => decide (x.1 ≠ pl)).map toB := by
  unfold dropB
  rw [List.filter_map]
  rfl
theorem put_kv {b3 : List B3} {pl : Nat} (h : (b3.find? fun x => decide (x.1 = pl)) = none) (a : Addr) (es : List E) : putK (b3.map kvB) (Sum.inl (pl : Int) : Key) (.ref a) = (b3 ++ [(pl, a, es)]).map kvB := by
  unfold putK
  rw [if_neg, List.map_append]
  · rfl
  · rw [List.any_map, Bool.not_eq_true, List.any_eq_false]
    intro x hx z
    rw [List.find?_eq_none] at h
    exact h x hx (decide_eq_true ((key_iff _ _).mp (of_decide_eq_true z)))
/-! ### what a state must be for the walk -/
def WB (k : Nat) (bs : List Blk) : Prop := ∀ b ∈ bs, Srtd b.2 ∧ b.2.length = k
structure Wf (s : CupM) : Prop where
  k1 : 1 ≤ s.keep
  k64 : s.keep ≤ 64
  ll : s.loose.length < s.keep
  wb : WB s.keep s.blocks
  bl : s.blocks.length ≤ 63
  pl : ∀ b ∈ s.blocks, b.1 ≤ 63
  nd : (s.blocks.map (·.1)).Nodup
theorem BG.wb {k : Nat} {bs : List Blk} {R : Row} (h : BG k bs R) : WB k bs := by
  induction h with
  | nil => intro b hb; cases hb
  | cons g _ ih =>
    intro b hb
    rcases List.mem_cons.mp hb with e | e
    · rw [e]
      exact ⟨g.srt, by rw [g.lin.length, List.length_replicate]⟩
    · exact ih b e
theorem up_len : ∀ (n : Nat) (l : List Nat) (j : Nat), l.Pairwise (· < ·) → (∀ x ∈ l, j ≤ x ∧ x < j + n) → l.length ≤ n
  | 0, [], _, _, _ => Nat.le_refl _
  | 0, x :: l, j, _, h => by have := h x List.mem_cons_self; omega
  | n + 1, [], _, _, _ => Nat.zero_le _
  | n + 1, x :: l, j, hp, h => by
    have ih := up_len n l (j + 1) hp.tail fun y hy => by
      have h1 := List.rel_of_pairwise_cons hp hy
      have h2 := h y (List.mem_cons_of_mem _ hy)
      have h3 := h x List.mem_cons_self
      omega
    rw [List.length_cons]
    omega
theorem Good.wf {s : CupM} {R : Row} (h : Good s R) (hc : s.count < 2 ^ 63) : Wf s := by
  obtain ⟨S, hb, e⟩ := h.rows
  have hd := h.digits
  have hq : s.count / s.keep ≤ s.count := Nat.div_le_self _ _
  have hlt : ∀ k ∈ digitsM (s.count / s.keep), k < 63 := by
    intro k hk
    have h1 := digitsM_le hk
    have h2 : 2 ^ k < 2 ^ 63 := by omega
    exact (Nat.pow_lt_pow_iff_right (by decide)).mp h2
  refine ⟨h.k1, h.k64, h.ll, hb.wb, ?_, fun b hb' => ?_, h.nd⟩
  · have hl : (sortB s.blocks).length = (digitsM (s.count / s.keep)).length := by rw [← hd, List.length_map]
    have hp := (sortB_perm s.blocks).length_eq
    have := up_len 63 _ 0 (digitsM_up (s.count / s.keep)) fun x hx => ⟨Nat.zero_le x, by have := hlt x hx; omega⟩
    omega
  · have hm : b.1 ∈ (sortB s.blocks).map (·.1) := List.mem_map.mpr ⟨b, (sortB_perm s.blocks).mem_iff.mpr hb', rfl⟩
    rw [hd] at hm
    have := hlt _ hm
    omega
theorem mergeB_wb {k pl : Nat} {a b : List E} (ha : a.length = k) (hb : b.length = k) : Srtd (mergeB k pl a b) ∧ (mergeB k pl a b).length = k := by
  refine ⟨halvedM_sorted (joinM_sorted _ _ _ _), ?_⟩
  unfold mergeB
  rw [halvedM_length, joinM_length]
  omega
theorem layM_wb {k : Nat} : ∀ (f pl : Nat) (es : List E) (bs : List Blk), WB k bs → Srtd es → es.length = k → WB k (layM k f pl es bs) ∧ (layM k f pl es bs).length ≤ bs.length + 1
  | 0, pl, es, bs, h, h1, h2 => by
    refine ⟨fun b hb => ?_, by simp [layM]⟩
    simp only [layM] at hb
    rcases List.mem_append.mp hb with e | e
    · exact h b e
    · rw [List.mem_singleton.mp e]; exact ⟨h1, h2⟩
  | f + 1, pl, es, bs, h, h1, h2 => by
    simp only [layM]
    cases hf : findB bs pl with
    | none =>
      refine ⟨fun b hb => ?_, by simp⟩
      rcases List.mem_append.mp hb with e | e
      · exact h b e
      · rw [List.mem_singleton.mp e]; exact ⟨h1, h2⟩
    | some b =>
      have hm := h b (List.mem_of_find?_eq_some hf)
      have hw := mergeB_wb (pl := pl) hm.2 h2
      have hd : WB k (dropB bs pl) := fun x hx => h x (List.mem_filter.mp hx).1
      obtain ⟨i1, i2⟩ := layM_wb f (pl + 1) (mergeB k pl b.2 es) (dropB bs pl) hd hw.1 hw.2
      refine ⟨i1, ?_⟩
      have := dropB_lt hf
      dsimp only
      omega
theorem raised_wb {k : Nat} {es : List E} (h1 : Srtd es) (h2 : es.length = k) : ∀ n, Srtd (raisedM k es n) ∧ (raisedM k es n).length = k
  | 0 => ⟨h1, h2⟩
  | n + 1 => mergeB_wb (raised_wb h1 h2 n).2 (raised_wb h1 h2 n).2
/-! ### reading a cup -/
section
variable {K : PySem.W.Frag} {mg : Str → Option Value} {H : Hp} {C p dx l d : Addr} {k : Int} {σ : L2.St}
theorem fld_keep (U : CupC K mg C) (hp : H p = some (.ins C dx (cf k l d))) {R : V → Prop} (q : R (.int k)) : ∃ a C dx fs v, V.ref p = .ref a ∧ H a = some (.ins C dx fs) ∧ Cls K C ∧ NoAttr K C "keep" ∧ fs.lookup ("keep" : Str) = some v ∧ R v :=
  ⟨p, C, dx, _, _, rfl, hp, U.cl, U.nk, cf_keep _ _ _, q⟩
theorem fld_loose (U : CupC K mg C) (hp : H p = some (.ins C dx (cf k l d))) {R : V → Prop} (q : R (.ref l)) : ∃ a C dx fs v, V.ref p = .ref a ∧ H a = some (.ins C dx fs) ∧ Cls K C ∧ NoAttr K C "loose" ∧ fs.lookup ("loose" : Str) = some v ∧ R v :=
  ⟨p, C, dx, _, _, rfl, hp, U.cl, U.nl, cf_loose _ _ _, q⟩
theorem fld_blocks (U : CupC K mg C) (hp : H p = some (.ins C dx (cf k l d))) {R : V → Prop} (q : R (.ref d)) : ∃ a C dx fs v, V.ref p = .ref a ∧ H a = some (.ins C dx fs) ∧ Cls K C ∧ NoAttr K C "blocks" ∧ fs.lookup ("blocks" : Str) = some v ∧ R v :=
  ⟨p, C, dx, _, _, rfl, hp, U.cl, U.nb, cf_blocks _ _ _, q⟩
theorem meth_at (hp : H p = some (.ins C dx (cf k l d))) {m : Str} {R : Prop} (h1 : (m == ("keep" : Str)) = false) (h2 : (m == ("loose" : Str)) = false) (h3 : (m == ("blocks" : Str)) = false) (q : R) :
    ∃ a dx fs, V.ref p = .ref a ∧ H a = some (.ins C dx fs) ∧ fs.lookup m = none ∧ R := ⟨p, dx, _, rfl, hp, cf_no _ _ _ h1 h2 h3, q⟩
variable {Q : VK} {ta tv td ty tx : TE} {t : TA} {sp : Sp} {dvs : List V} {E : XK} {f m : Str} {D : Ends}
theorem r_fld (q : ta σ H fun x H1 => ∃ a C dx fs v, x = .ref a ∧ H1 a = some (.ins C dx fs) ∧ Cls K C ∧ NoAttr K C f ∧ fs.lookup f = some v ∧ Q v H1) : tFld K ta f σ H Q := q
theorem r_setF (q : tv σ H fun y H1 => ta σ H1 fun x H2 => ∃ a C dx fs, x = .ref a ∧ H2 a = some (.ins C dx fs) ∧ Cls K C ∧ NoAttr K C f ∧ fs.length < 1000 ∧ D.nx σ (upd H2 a (.ins C dx (putF f y fs)))) : sFld K ta tv f D σ H := q
theorem r_meth (q : ta σ H fun x H1 => ∃ a dx fs, x = .ref a ∧ H1 a = some (.ins C dx fs) ∧ fs.lookup m = none ∧ t σ H1 fun vs H2 => sp (x :: (vs ++ dvs)) H2 Q E) : tMeth C m sp dvs E ta t σ H Q := q
theorem r_dget (q : td σ H fun x H1 => ty σ H1 fun y H2 => ∃ a v, x = .ref a ∧ DGet H2 a y (some v) ∧ Q v H2) : tDGet td ty σ H Q := q
theorem r_din (q : ty σ H fun y H1 => td σ H1 fun x H2 => ∃ a o, x = .ref a ∧ DGet H2 a y o ∧ Q (.bl o.isSome) H2) : tDIn ty td σ H Q := q
theorem r_dnotin (q : ty σ H fun y H1 => td σ H1 fun x H2 => ∃ a o, x = .ref a ∧ DGet H2 a y o ∧ Q (.bl (!o.isSome)) H2) : tDNotIn ty td σ H Q := q
theorem r_dpop1 (q : td σ H fun x H1 => ∃ a, x = .ref a ∧ IsD H1 a ∧ ty σ H1 fun y H2 => ∃ kvs k v, H2 a = some (.dK kvs) ∧ y = kV k ∧ valV kvs k = some v ∧ Q v (upd H2 a (.dK (dropK kvs k)))) : tDPop1 td ty σ H Q := q
theorem r_dget2 (q : td σ H fun x H1 => ∃ a, x = .ref a ∧ IsD H1 a ∧ ty σ H1 fun y H2 => tx σ H2 fun z H3 => ∃ o, DGet H3 a y o ∧ Q (o.getD z) H3) : tDGet2 td ty tx σ H Q := q
theorem r_dput (q : tv σ H fun v H1 => td σ H1 fun x H2 => ty σ H2 fun y H3 => ∃ a H4, x = .ref a ∧ DPut H3 a y v H4 ∧ D.nx σ H4) : sDPut td ty tv D σ H := q
theorem r_dnew (q : ∀ p, H p = none → Q (.ref p) (upd H p (.dK []))) : tDNewK σ H Q := q
theorem r_lockE {tt : TE} (q : ∃ d u, H d = some u ∧ Mut (some u) ∧ ∀ od, tt σ (upd H d (.frz od u)) fun v H' => H' d = some (.frz od u) ∧ Q v (upd H' d u)) : tLockE tt σ H Q := q
theorem r_chain {r r' : R2} {tb tc : TE} (q : ta σ H fun x H1 => tb σ H1 fun y H2 => r x y H2 fun z H3 => ∃ k, z = .bl k ∧ (if k = true then tc σ H3 fun w' H4 => r' y w' H4 Q else Q (.bl false) H3)) : tChain r r' ta tb tc σ H Q := q
end
/-- behind a lock -/
theorem lock_same {H H' : Hp} {d : Addr} {od : Obj} {u : HO} (hd : H d = some u) (s : Same (upd H d (.frz od u)) H') : Same H (upd H' d u) := fun b o h => by
  by_cases e : b = d
  · subst e
    rw [hd] at h
    cases h
    exact upd_same
  · rw [upd_ne e]
    exact s b o (by rw [upd_ne e]; exact h)
/-! ### the end, with the numbers that the top has reckoned -/
theorem walk_ofX {l : PySem.W.OpenLaw} {n k : Nat} {q : Program} {loose : List Str} {XP : (Str → Option Value) → Heap → Prop} {YP : World → Heap → Prop} {d : DefRec} {K : Params → PySem.W.Frag} {CX : World → CXT} {sp : World → Sp} {x : Str}
    (hn : l.most = some n) (hn2 : n ≤ sizeLine) (hdf : d.params.defaults = []) (hr : Room k callerA)
    (hY : ∀ (w : World) (h : Heap), YP w h → (K w.params).In h)
    (F : ∀ (w : World) (mg : Str → Option Value) (fa : Addr) (h : Heap), (K w.params).In h → h.Ns mainGlobals mg → XP mg h → mg d.name = some (.ref fa) →
      ∃ fd : FuncData, (∀ (s : Shared) (u : Value), BindsTo s fd ⟨[u], []⟩ [(x, u)]) ∧
        ∀ base : Heap, (K w.params).In base → base.Ns mainGlobals mg → FnOk l.prog w (K w.params) mg base (CX w) k fa fd [x] (sp w))
    (hsp : ∀ (w : World) (H : Hp) (a : Addr) (ns : List Int), ns.length ≤ n → Only H → SqL (K w.params) H a (ns.map V.int) → sp w [.ref a] H (fun v _ => v = .bl true) fun _ _ _ => False)
    (hCX : ∀ (w : World) (H : Hp) (s : Shared) (e : Value) (s' : Shared), CX w [] H s (fun _ _ _ => False) e s' → False) :
    PySem.W.WalkO q loose XP YP l.row.toRowW d [] (fun f vs => PySem.call f vs) := by
  refine Att.attach_call hn hdf fun w s₀ s₁ mg mb fa o pm cd doc a vs ns G Y ho hd hcd hmg hobj hints hlen hg => ?_
  have KX := hY w _ Y
  obtain ⟨fd, hb, hF⟩ := F w mg fa _ KX G.T.g G.X hmg
  exact law_call KX G.T.g G.T.b G.T.builtins G.T.nolimit hg hobj hints (Nat.le_trans hlen hn2) hr hF hb (fun H hO hS => hsp w H a ns hlen hO hS) fun H e s' => hCX w H s₁ e s'
theorem glob_mk {p : Program} {lv : List (Str × PySem.W.WData)} {mg : Str → Option Value} {h : Heap} {x : Str} {n : Int} (X : PySem.W.XL p lv mg h) (hm : (x, PySem.W.WData.int n) ∈ lv) : GlobI mg x n := by
  obtain ⟨v, h1, h2⟩ := X.2.val _ hm
  cases h2 with
  | int i t => exact ⟨t, h1⟩

/-! ### the steps of add and pour, what they leave -/
theorem fill_wb {s : CupM} {r : Int} {t : Nat} (h : WB s.keep s.blocks) (ht : s.loose.length + t ≤ s.keep) : WB (s.fill r t).keep (s.fill r t).blocks ∧ (s.fill r t).blocks.length ≤ s.blocks.length + 1 ∧ (1 ≤ s.keep → (s.fill r t).loose.length < s.keep) := by
  unfold CupM.fill
  split
  · rename_i hk
    obtain ⟨h1, h2⟩ := layM_wb s.blocks.length 0 (exactM (s.loose ++ List.replicate t r)) s.blocks h (exactM_sorted _) (by rw [exactM_length]; simp; exact hk)
    exact ⟨h1, h2, fun h => h⟩
  · rename_i hk
    refine ⟨h, Nat.le_succ _, fun _ => ?_⟩
    show (s.loose ++ List.replicate t r).length < s.keep
    simp
    omega
theorem lay_wb {s : CupM} {pl : Nat} {es : List E} (h : WB s.keep s.blocks) (h1 : Srtd es) (h2 : es.length = s.keep) : WB (s.lay pl es).keep (s.lay pl es).blocks ∧ (s.lay pl es).blocks.length ≤ s.blocks.length + 1 := layM_wb _ _ _ _ h h1 h2
theorem layR_wb {r : Int} : ∀ (ds : List Nat) (s : CupM), WB s.keep s.blocks → WB (ds.foldl (layR r) s).keep (ds.foldl (layR r) s).blocks ∧ (ds.foldl (layR r) s).blocks.length ≤ s.blocks.length + ds.length
  | [], s, h => ⟨h, Nat.le_refl _⟩
  | d :: ds, s, h => by
    have hb := raised_wb (exactM_sorted (List.replicate s.keep r)) (by rw [exactM_length, List.length_replicate]) d
    obtain ⟨h1, h2⟩ := lay_wb (pl := d) h hb.1 hb.2
    obtain ⟨h3, h4⟩ := layR_wb ds (layR r s d) h1
    refine ⟨h3, ?_⟩
    rw [List.foldl_cons, List.length_cons]
    have : (layR r s d).blocks.length ≤ s.blocks.length + 1 := h2
    omega
theorem fills_wb : ∀ (l : List Int) (s : CupM), WB s.keep s.blocks → 1 ≤ s.keep → s.loose.length < s.keep → WB (l.foldl (fun s r => s.fill r 1) s).keep (l.foldl (fun s r => s.fill r 1) s).blocks ∧ (l.foldl (fun s r => s.fill r 1) s).blocks.length ≤ s.blocks.length + l.length ∧ (l.foldl (fun s r => s.fill r 1) s).loose.length < s.keep
  | [], s, h, _, h2 => ⟨h, Nat.le_refl _, h2⟩
  | r :: l, s, h, h1, h2 => by
    obtain ⟨g1, g2, g3⟩ := fill_wb (r := r) (t := 1) h h2
    have hk := fill_keep s r 1
    obtain ⟨i1, i2, i3⟩ := fills_wb l (s.fill r 1) g1 (by rw [hk]; exact h1) (by rw [hk]; exact g3 h1)
    refine ⟨i1, ?_, by rw [hk] at i3; exact i3⟩
    rw [List.foldl_cons, List.length_cons]
    omega
theorem lays_wb {k : Nat} : ∀ (bs : List Blk) (s : CupM), s.keep = k → WB k s.blocks → WB k bs → WB k (bs.foldl (fun s b => s.lay b.1 b.2) s).blocks ∧ (bs.foldl (fun s b => s.lay b.1 b.2) s).blocks.length ≤ s.blocks.length + bs.length ∧ (bs.foldl (fun s b => s.lay b.1 b.2) s).keep = k
  | [], s, hk, h, _ => ⟨h, Nat.le_refl _, hk⟩
  | b :: bs, s, hk, h, hb => by
    subst hk
    obtain ⟨b1, b2⟩ := hb b List.mem_cons_self
    obtain ⟨h1, h2⟩ := lay_wb (pl := b.1) h b1 b2
    obtain ⟨h3, h4, h5⟩ := lays_wb bs (s.lay b.1 b.2) rfl h1 fun x hx => hb x (List.mem_cons_of_mem _ hx)
    refine ⟨h3, ?_, h5⟩
    rw [List.foldl_cons, List.length_cons]
    omega
theorem rep_flat (r : Int) : ∀ t : Nat, (List.replicate t [V.int r]).flatten = (List.replicate t r).map V.int
  | 0 => rfl
  | t + 1 => by
    rw [List.replicate_succ, List.flatten_cons, rep_flat r t, List.replicate_succ]
    rfl
/-- the dict's blocks by rising places -/
def sort3 (b3 : List B3) : List B3 := b3.mergeSort fun a b => decide (a.1 ≤ b.1)
theorem sort3_toB (b3 : List B3) : (sort3 b3).map toB = sortB (b3.map toB) := List.map_mergeSort fun _ _ _ _ => rfl
theorem sort3_keys (b3 : List B3) : (sort3 b3).map (fun x => (x.1 : Int)) = srt (b3.map fun x => (x.1 : Int)) := by
  refine srt_of ((List.mergeSort_perm b3 _).map _) ?_
  have h1 : (sort3 b3).Pairwise (fun a b => decide (a.1 ≤ b.1) = true) := List.pairwise_mergeSort (fun a b c h1 h2 => by simp only [decide_eq_true_eq] at *; omega) (fun a b => by simp only [Bool.or_eq_true, decide_eq_true_eq]; omega) b3
  rw [List.pairwise_map]
  exact h1.imp fun {a b} q => by
    simp only [decide_eq_true_eq] at q
    omega
theorem sort3_mem {b3 : List B3} {x : B3} : x ∈ sort3 b3 ↔ x ∈ b3 := (List.mergeSort_perm b3 _).mem_iff
theorem find3 : ∀ {b3 : List B3}, (b3.map fun x => x.1).Nodup → ∀ {x : B3}, x ∈ b3 → (b3.find? fun y => decide (y.1 = x.1)) = some x
  | [], _, x, h => by cases h
  | y :: t, hn, x, h => by
    rw [List.map_cons] at hn
    obtain ⟨h1, h2⟩ := List.nodup_cons.mp hn
    rcases List.mem_cons.mp h with e | e
    · subst e
      exact List.find?_cons_of_pos (decide_eq_true rfl)
    · rw [List.find?_cons_of_neg fun z => h1 (List.mem_map.mpr ⟨x, e, (of_decide_eq_true z).symm⟩)]
      exact find3 h2 e

theorem TyX.same {K : PySem.W.Frag} {H H' : Hp} (e : Same H H') {x : V} {t : Value} (h : TyX K H x t) : TyX K H' x t := by
  cases h with
  | base b =>
    refine .base ?_
    cases b with
    | non => exact .non
    | bl y => exact .bl y
    | int i => exact .int i
    | str y => exact .str y
    | flt y => exact .flt y
    | lst ea => exact .lst (e _ _ ea)
    | frz ea => exact .frz (e _ _ ea)
    | tup ea => exact .tup (e _ _ ea)
    | dK ea => exact .dK (e _ _ ea)
    | dT ea => exact .dT (e _ _ ea)
    | ins ea cl ha hn htk hm => exact .ins (e _ _ ea) cl ha hn htk hm
  | byt y => exact .byt y
  | set ea => exact .set (e _ _ ea)
  | kList e1 c => exact .kList e1 c
  | kTuple e1 c => exact .kTuple e1 c
  | kDict e1 c => exact .kDict e1 c
  | fTuple ea => exact .fTuple (e _ _ ea)
  | fDict ea => exact .fDict (e _ _ ea)
theorem size_le {k pl : Nat} (h1 : k ≤ 64) (h2 : pl ≤ 63) : size k pl ≤ 2 ^ 69 := by
  unfold size
  have h3 : 2 ^ pl ≤ 2 ^ 63 := Nat.pow_le_pow_right (by decide) h2
  exact Nat.le_trans (Nat.mul_le_mul h1 h3) (by decide)
theorem sum_le_mul : ∀ (l : List Nat) (m : Nat), (∀ x ∈ l, x ≤ m) → l.sum ≤ l.length * m
  | [], m, _ => by simp
  | x :: l, m, h => by
    have h1 := sum_le_mul l m fun y hy => h y (List.mem_cons_of_mem _ hy)
    have h2 := h x List.mem_cons_self
    rw [List.sum_cons, List.length_cons, Nat.succ_mul]
    omega
theorem Wf.count_lt {s : CupM} (h : Wf s) : s.count < 2 ^ 100 := by
  have h1 := sum_le_mul (s.blocks.map fun b => size s.keep b.1) (2 ^ 69) fun x hx => by
    obtain ⟨b, hb, rfl⟩ := List.mem_map.mp hx
    exact size_le h.k64 (h.pl b hb)
  rw [List.length_map] at h1
  have h2 : s.blocks.length * 2 ^ 69 ≤ 63 * 2 ^ 69 := Nat.mul_le_mul_right _ h.bl
  have h3 := h.ll
  have h4 := h.k64
  unfold CupM.count
  omega
theorem Wf.quot_lt {s : CupM} (h : Wf s) : s.count / s.keep < 2 ^ 200 := Nat.lt_of_le_of_lt (Nat.div_le_self _ _) (Nat.lt_trans h.count_lt (by decide))
theorem WB.sort {k : Nat} {bs : List Blk} (h : WB k bs) : WB k (sortB bs) := fun b hb => h b ((sortB_perm bs).mem_iff.mp hb)
theorem pe_fldK {X : Cx} {K : PySem.W.Frag} {e : Expr} {ta : TE} {f : Str} {pos : Pos} (hK : X.K = K) (he : PE X e ta) (hb : attributeBase e f X.env (eval e X.env) = eval e X.env) : PE X (.Attribute e f pos) (tFld K ta f) := by
  subst hK
  exact pe_fld he hb
/-! ### which lists are a cup's own -/
def Own (H : Hp) (p d b : Addr) : Prop := (∃ C dx k, H p = some (.ins C dx (cf k b d))) ∨ ∃ kvs k, H d = some (.dK kvs) ∧ (k, V.ref b) ∈ kvs
def Ow (X : Addr → Prop) (H H' : Hp) (p d : Addr) : Prop := (∀ b, H' b = none → H b = none) ∧ ∀ b, Own H' p d b → Own H p d b ∨ H b = none ∨ X b
abbrev No : Addr → Prop := fun _ => False
theorem upd_none {H : Hp} {a b : Addr} {o : HO} (h : (upd H a o) b = none) : H b = none := by
  by_cases e : b = a
  · subst e
    rw [upd_same] at h
    cases h
  · rw [upd_ne e] at h
    exact h
theorem cf_inj {k k' : Int} {l l' d d' : Addr} (h : cf k l d = cf k' l' d') : l = l' := by
  unfold cf at h
  injection h with h1 h2
  injection h2 with h3 h4
  injection h3 with h5 h6
  exact V.ref.inj h6
theorem own_of {H : Hp} {p d b C dx l : Addr} {k : Int} {b3 : List B3} (hp : H p = some (.ins C dx (cf k l d))) (hd : H d = some (.dK (b3.map kvB))) (h : Own H p d b) : b = l ∨ ∃ x ∈ b3, x.2.1 = b := by
  rcases h with ⟨C', dx', k', h1⟩ | ⟨kvs, k', h1, h2⟩
  · rw [hp] at h1
    injection h1 with h1
    injection h1 with _ _ h1
    exact .inl (cf_inj h1).symm
  · rw [hd] at h1
    injection h1 with h1
    injection h1 with h1
    subst h1
    obtain ⟨x, hx, e⟩ := List.mem_map.mp h2
    refine .inr ⟨x, hx, ?_⟩
    exact V.ref.inj (congrArg Prod.snd e)
theorem Ow.refl {H : Hp} {p d : Addr} : Ow No H H p d := ⟨fun _ h => h, fun _ h => .inl h⟩
theorem Ow.same {C : Addr} {H H' : Hp} {p d : Addr} {s : CupM} (c : CupAt C H p d s) (e : Same H H') : Ow No H H' p d := by
  refine ⟨fun b hb => e.free hb, fun b hb => .inl ?_⟩
  obtain ⟨dx, l, hp, hl, b3, hd, _⟩ := c
  rcases own_of (e _ _ hp) (e _ _ hd) hb with rfl | ⟨x, hx, rfl⟩
  · exact .inl ⟨_, _, _, hp⟩
  · exact .inr ⟨_, _, hd, List.mem_map.mpr ⟨x, hx, rfl⟩⟩
theorem Ow.trans {X Y : Addr → Prop} {H H1 H2 : Hp} {p d : Addr} (a : Ow X H H1 p d) (b : Ow Y H1 H2 p d) : Ow (fun z => X z ∨ Y z) H H2 p d := by
  refine ⟨fun z hz => a.1 z (b.1 z hz), fun z hz => ?_⟩
  rcases b.2 z hz with h | h | h
  · rcases a.2 z h with g | g | g
    · exact .inl g
    · exact .inr (.inl g)
    · exact .inr (.inr (.inl g))
  · exact .inr (.inl (a.1 z h))
  · exact .inr (.inr (.inr h))
theorem Ow.weak {X Y : Addr → Prop} {H H' : Hp} {p d : Addr} (a : Ow X H H' p d) (f : ∀ b, X b → Own H p d b ∨ H b = none ∨ Y b) : Ow Y H H' p d := by
  refine ⟨a.1, fun z hz => ?_⟩
  rcases a.2 z hz with h | h | h
  · exact .inl h
  · exact .inr (.inl h)
  · exact f z h
theorem Ow.tr0 {H H1 H2 : Hp} {p d : Addr} (a : Ow No H H1 p d) (b : Ow No H1 H2 p d) : Ow No H H2 p d := (a.trans b).weak fun _ h => h.elim False.elim False.elim
end RB

namespace RB
open PySem PySem.Spec PyProof.Rows L2
/-! ### deeds as tuples, three cups in a list -/
def DeedAt (H : Hp) (p : Addr) : Deed → Prop
  | .come c r n st t => H p = some (.tup [.int (c : Int), .int r, .int (n : Int), .int st, .int (t : Int)])
  | .pour a b => H p = some (.tup [.int (a : Int), .int (b : Int)])
theorem DeedAt.imm {H H' : Hp} {p : Addr} {d : Deed} (h : DeedAt H p d) (i : ∀ a xs, H a = some (.tup xs) → H' a = some (.tup xs)) : DeedAt H' p d := by
  cases d with
  | come => exact i _ _ h
  | pour => exact i _ _ h
def DeedsV (H : Hp) (xs : List V) (ds : List Deed) : Prop := xs.length = ds.length ∧ ∀ (i : Nat) (d : Deed), ds[i]? = some d → ∃ t, xs[i]? = some (.ref t) ∧ DeedAt H t d
def DeedsAt (H : Hp) (a : Addr) (ds : List Deed) : Prop := ∃ xs, H a = some (.lst xs) ∧ DeedsV H xs ds
theorem DeedsV.imm {H H' : Hp} {xs : List V} {ds : List Deed} (h : DeedsV H xs ds) (s : ∀ a xs, H a = some (.tup xs) → H' a = some (.tup xs)) : DeedsV H' xs ds := ⟨h.1, fun i e he => by
  obtain ⟨t, t1, t2⟩ := h.2 i e he
  exact ⟨t, t1, t2.imm s⟩⟩
theorem DeedsAt.imm {H H' : Hp} {a : Addr} {ds : List Deed} (h : DeedsAt H a ds) (s : Imm H H') : DeedsAt H' a ds := by
  obtain ⟨xs, h1, h2⟩ := h
  exact ⟨xs, s.1 _ _ h1, h2.imm s.2⟩
theorem DeedsV.nil {H : Hp} : DeedsV H [] [] := ⟨rfl, fun i e h => by simp at h⟩
theorem DeedsV.snoc {H : Hp} {xs : List V} {ds : List Deed} {t : Addr} {d : Deed} (h : DeedsV H xs ds) (ht : DeedAt H t d) : DeedsV H (xs ++ [.ref t]) (ds ++ [d]) := by
  refine ⟨by simp [h.1], fun i d' hd => ?_⟩
  by_cases hi : i < ds.length
  · rw [List.getElem?_append_left hi] at hd
    obtain ⟨t', t1, t2⟩ := h.2 i d' hd
    exact ⟨t', by rw [List.getElem?_append_left (by rw [h.1]; exact hi)]; exact t1, t2⟩
  · rw [List.getElem?_append_right (by omega)] at hd
    have e0 : i - ds.length = 0 := by
      by_cases e : i - ds.length = 0
      · exact e
      · rw [List.getElem?_eq_none (by simp; omega)] at hd
        cases hd
    rw [e0] at hd
    have : d = d' := by simpa using hd
    subst this
    refine ⟨t, ?_, ht⟩
    rw [List.getElem?_append_right (by rw [h.1]; omega), h.1, e0]
    rfl
structure Three (C : Addr) (H : Hp) (pc : Addr) (A : Nat → Addr × Addr) (S : Nat → CupM) : Prop where
  l : H pc = some (.lst [.ref (A 0).1, .ref (A 1).1, .ref (A 2).1])
  c : ∀ i, i < 3 → CupAt C H (A i).1 (A i).2 (S i)
  np : ∀ i j, i < 3 → j < 3 → (A i).1 = (A j).1 → i = j
  nd : ∀ i j, i < 3 → j < 3 → (A i).2 = (A j).2 → i = j
/-- all but the cups and their dicts stays; what is new in a cup is new, or was in one of them -/
structure Fr3 (H H' : Hp) (A : Nat → Addr × Addr) : Prop where
  fr : ∀ b o, H b = some o → (∀ i, i < 3 → b ≠ (A i).1 ∧ b ≠ (A i).2) → H' b = some o
  al : ∀ b, H' b = none → H b = none
  ow : ∀ i, i < 3 → ∀ b, Own H' (A i).1 (A i).2 b → (∃ j, j < 3 ∧ Own H (A j).1 (A j).2 b) ∨ H b = none
theorem Fr3.refl (H : Hp) (A : Nat → Addr × Addr) : Fr3 H H A := ⟨fun _ _ h _ => h, fun _ h => h, fun i hi _ h => .inl ⟨i, hi, h⟩⟩
theorem Fr3.trans {H H1 H2 : Hp} {A : Nat → Addr × Addr} (a : Fr3 H H1 A) (b : Fr3 H1 H2 A) : Fr3 H H2 A := by
  refine ⟨fun x o h n => b.fr x o (a.fr x o h n) n, fun x h => a.al x (b.al x h), fun i hi x h => ?_⟩
  rcases b.ow i hi x h with ⟨j, hj, g⟩ | g
  · exact a.ow j hj x g
  · exact .inr (a.al x g)
def Free3 (H : Hp) (A : Nat → Addr × Addr) (z : Addr) : Prop := ∀ i, i < 3 → ¬ Own H (A i).1 (A i).2 z
theorem Fr3.free {H H' : Hp} {A : Nat → Addr × Addr} {z : Addr} {o : HO} (f : Fr3 H H' A) (h : Free3 H A z) (hz : H z = some o) : Free3 H' A z := fun i hi g => by
  rcases f.ow i hi z g with ⟨j, hj, k⟩ | k
  · exact h j hj k
  · rw [hz] at k; cases k
theorem CupAt.kinds {C : Addr} {H : Hp} {p d : Addr} {s : CupM} (h : CupAt C H p d s) : (∃ dx fs, H p = some (.ins C dx fs)) ∧ ∃ kvs, H d = some (.dK kvs) := by
  obtain ⟨dx, l, h1, h2, b3, h3, _⟩ := h
  exact ⟨⟨_, _, h1⟩, _, h3⟩
theorem Three.frSame {C : Addr} {H H' : Hp} {pc : Addr} {A : Nat → Addr × Addr} {S : Nat → CupM} (h : Three C H pc A S) (s : Same H H') : Fr3 H H' A := by
  refine ⟨fun b o hb _ => s b o hb, fun b hb => s.free hb, fun i hi b hb => ?_⟩
  rcases (Ow.same (h.c i hi) s).2 b hb with g | g | g
  · exact .inl ⟨i, hi, g⟩
  · exact .inr g
  · exact g.elim
theorem Three.frOf {C : Addr} {H H' : Hp} {pc : Addr} {A : Nat → Addr × Addr} {S : Nat → CupM} {X : Addr → Prop} {i : Nat} (h : Three C H pc A S) (hi : i < 3) (f : Fr H H' (A i).1 (A i).2) (o : Ow X H H' (A i).1 (A i).2) (hX : ∀ b, X b → ∃ j, j < 3 ∧ Own H (A j).1 (A j).2 b) : Fr3 H H' A := by
  refine ⟨fun b o hb n => f b o hb (n i hi).1 (n i hi).2, o.1, fun j hj b hb => ?_⟩
  by_cases e : j = i
  · subst e
    rcases o.2 b hb with g | g | g
    · exact .inl ⟨j, hj, g⟩
    · exact .inr g
    · exact .inl (hX b g)
  · obtain ⟨dx, l, hp, hl, b3, hd, _⟩ := h.c j hj
    obtain ⟨⟨dx', fs', h1⟩, kvs, h2⟩ := (h.c i hi).kinds
    have hp' := f _ _ hp (fun z => e (h.np j i hj hi z)) (ne_of hp h2 (by intro z; cases z))
    have hd' := f _ _ hd (ne_of hd h1 (by intro z; cases z)) (fun z => e (h.nd j i hj hi z))
    refine .inl ⟨j, hj, ?_⟩
    rcases own_of hp' hd' hb with rfl | ⟨x, hx, rfl⟩
    · exact .inl ⟨_, _, _, hp⟩
    · exact .inr ⟨_, _, hd, List.mem_map.mpr ⟨x, hx, rfl⟩⟩
theorem Three.imm {C : Addr} {H H' : Hp} {pc : Addr} {A : Nat → Addr × Addr} {S : Nat → CupM} (h : Three C H pc A S) (f : Fr3 H H' A) : Imm H H' := by
  have key : ∀ b o, H b = some o → (∀ dx fs, o ≠ .ins C dx fs) → (∀ kvs, o ≠ .dK kvs) → H' b = some o := fun b o hb n1 n2 => f.fr b o hb fun i hi => by
    obtain ⟨⟨dx, fs, h1⟩, kvs, h2⟩ := (h.c i hi).kinds
    exact ⟨fun e => by subst e; rw [h1] at hb; cases hb; exact n1 _ _ rfl, fun e => by subst e; rw [h2] at hb; cases hb; exact n2 _ rfl⟩
  exact ⟨fun a xs ha => key a _ ha (fun _ _ z => nomatch z) (fun _ z => nomatch z), fun a xs ha => key a _ ha (fun _ _ z => nomatch z) (fun _ z => nomatch z)⟩
theorem Three.put {C : Addr} {H H' : Hp} {pc : Addr} {A : Nat → Addr × Addr} {S : Nat → CupM} {s : CupM} {i : Nat} (h : Three C H pc A S) (hi : i < 3) (f : Fr H H' (A i).1 (A i).2) (c : CupAt C H' (A i).1 (A i).2 s) : Three C H' pc A (RB.put S i s) := by
  have im := (h.c i hi).immF f
  refine ⟨im.1 _ _ h.l, fun j hj => ?_, h.np, h.nd⟩
  by_cases e : j = i
  · subst e
    rw [put_here]
    exact c
  · rw [put_else e]
    exact (h.c i hi).other (h.c j hj) f (fun z => e (h.np j i hj hi z)) (fun z => e (h.nd j i hj hi z))
theorem Three.same {C : Addr} {H H' : Hp} {pc : Addr} {A : Nat → Addr × Addr} {S : Nat → CupM} (h : Three C H pc A S) (s : Same H H') : Three C H' pc A S := ⟨s _ _ h.l, fun i hi => (h.c i hi).same s, h.np, h.nd⟩
/-- a list of the law's own is changed -/
theorem CupAt.own {C : Addr} {H : Hp} {p d z : Addr} {s : CupM} {o : HO} (h : CupAt C H p d s) (hz : ¬ Own H p d z) (hl : ∃ xs, H z = some (.lst xs)) : CupAt C (upd H z o) p d s := by
  obtain ⟨dx, l, hp, hL, b3, hd, eb, hE⟩ := h
  obtain ⟨xs, hl⟩ := hl
  have n1 : p ≠ z := ne_of hp hl (by intro z; cases z)
  have n2 : d ≠ z := ne_of hd hl (by intro z; cases z)
  refine ⟨dx, l, by rw [upd_ne n1]; exact hp, ?_, b3, by rw [upd_ne n2]; exact hd, eb, fun x hx => ?_⟩
  · rw [upd_ne (fun e => hz (.inl ⟨_, _, _, by rw [← e]; exact hp⟩))]
    exact hL
  · obtain ⟨ys, y1, y2⟩ := hE x hx
    refine ⟨ys, ?_, y2.imm fun a cs ha => by rw [upd_ne (ne_of ha hl (by intro z; cases z))]; exact ha⟩
    rw [upd_ne (fun e => hz (.inr ⟨_, _, hd, List.mem_map.mpr ⟨x, hx, by rw [← e]; rfl⟩⟩))]
    exact y1
theorem own_upd {H : Hp} {p d z b : Addr} {o : HO} (n1 : p ≠ z) (n2 : d ≠ z) : Own (upd H z o) p d b ↔ Own H p d b := by
  unfold Own
  rw [upd_ne n1, upd_ne n2]
theorem Three.mut {C : Addr} {H : Hp} {pc z : Addr} {A : Nat → Addr × Addr} {S : Nat → CupM} {xs : List V} {o : HO} (h : Three C H pc A S) (hf : Free3 H A z) (hz : H z = some (.lst xs)) (hn : pc ≠ z) : Three C (upd H z o) pc A S :=
  ⟨by rw [upd_ne hn]; exact h.l, fun i hi => (h.c i hi).own (hf i hi) ⟨xs, hz⟩, h.np, h.nd⟩
theorem Three.free {C : Addr} {H : Hp} {pc z y : Addr} {A : Nat → Addr × Addr} {S : Nat → CupM} {xs : List V} {o : HO} (h : Three C H pc A S) (hf : Free3 H A y) (hz : H z = some (.lst xs)) : Free3 (upd H z o) A y := fun i hi g => by
  obtain ⟨⟨dx', fs', h1⟩, kvs, h2⟩ := (h.c i hi).kinds
  exact hf i hi ((own_upd (ne_of h1 hz (by intro z; cases z)) (ne_of h2 hz (by intro z; cases z))).mp g)
theorem Three.at_ {C : Addr} {K : PySem.W.Frag} {H : Hp} {pc : Addr} {A : Nat → Addr × Addr} {S : Nat → CupM} (h : Three C H pc A S) {i : Nat} (hi : i < 3) {Q : VK} (q : Q (.ref (A i).1) H) : rIxL K (.ref pc) (.int (i : Int)) H Q := by
  refine ⟨pc, _, _, _, rfl, rfl, SqL.of h.l, at_of (j := i) rfl ?_, q⟩
  rcases (by omega : i = 0 ∨ i = 1 ∨ i = 2) with e | e | e <;> subst e <;> rfl
theorem r_make {C : Addr} {sp : Sp} {dvs : List V} {E : XK} {t : TA} {σ : L2.St} {H : Hp} {Q : VK} (q : t σ H fun vs H1 => ∀ x dx, H1 x = none → H1 dx = none → dx ≠ x → sp (.ref x :: (vs ++ dvs)) (upd (upd H1 dx (.own x)) x (.ins C dx [])) (fun v H2 => v = .non ∧ Q (.ref x) H2) E) : tMake C sp dvs E t σ H Q := q
theorem r_slice {r : V → Option Int → Option Int → Hp → VK → Prop} {ta : TE} {tb tc : TO} {σ : L2.St} {H : Hp} {Q : VK} (q : ta σ H fun x H1 => tb σ H1 fun a H2 => tc σ H2 fun b H3 => r x a b H3 Q) : tSl r ta tb tc σ H Q := q
theorem r_part {ta : TE} {σ : L2.St} {H : Hp} {R : Option Int → Hp → Prop} (q : ta σ H fun x H1 => ∃ i, x = .int i ∧ R (some i) H1) : tPart ta σ H R := q
theorem r_nopart {σ : L2.St} {H : Hp} {R : Option Int → Hp → Prop} (q : R none H) : tNoPart σ H R := q
theorem r_isN {ta : TE} {σ : L2.St} {H : Hp} {Q : VK} (q : ta σ H fun x H1 => Q (.bl (decide (x = .non))) H1) : tIsN ta σ H Q := q
theorem r_notN {ta : TE} {σ : L2.St} {H : Hp} {Q : VK} (q : ta σ H fun x H1 => Q (.bl (!decide (x = .non))) H1) : tNotN ta σ H Q := q
theorem r_int1 {i : Int} {R : Int → Prop} (q : R i) : ∃ j, V.int i = .int j ∧ R j := ⟨i, rfl, q⟩
theorem tup_at {K : PySem.W.Frag} {H : Hp} {p : Addr} {xs : List V} {i : Int} {j : Nat} {v : V} {Q : VK} (h : H p = some (.tup xs)) (e : xs[j]? = some v) (q : Q v H) (hi : i = (j : Int) := by rfl) : rIxT K (.ref p) (.int i) H Q := by
  subst hi
  exact ⟨p, _, _, _, rfl, rfl, SqT.of' h, at_of (j := j) rfl e, q⟩
theorem lst_at {K : PySem.W.Frag} {H : Hp} {p : Addr} {xs : List V} {i : Int} {j : Nat} {v : V} {Q : VK} (h : H p = some (.lst xs)) (e : xs[j]? = some v) (q : Q v H) (hi : i = (j : Int) := by rfl) : rIxL K (.ref p) (.int i) H Q := by
  subst hi
  exact ⟨p, _, _, _, rfl, rfl, SqL.of h, at_of (j := j) rfl e, q⟩
theorem cut_ints (ns : List Int) (a b : Nat) : cutV (ns.map V.int) (some (a : Int)) (some (b : Int)) = ((ns.drop (min a ns.length)).take (min b ns.length - min a ns.length)).map V.int := by
  unfold cutV
  rw [HT.sIx_nat, HT.sIx_nat, List.length_map, List.map_take, List.map_drop]
theorem r_par3 {i j l : Nat} {ta : TA} {D : Ends} {σ : L2.St} {H : Hp} (q : ta σ H fun vs H1 => ∃ u v w, vs = [u, v, w] ∧ D.nx (((σ.set i (some u)).set j (some v)).set l (some w)) H1) : tPar3 i j l ta D σ H := q
theorem r_three {R : V → V → V → Prop} {x y z : V} (q : R x y z) : ∃ u v w, [x, y, z] = [u, v, w] ∧ R u v w := ⟨x, y, z, rfl, q⟩
theorem CupAt.ownSome {C : Addr} {H : Hp} {p d b : Addr} {s : CupM} (c : CupAt C H p d s) (h : Own H p d b) : ∃ xs, H b = some (.lst xs) := by
  obtain ⟨dx, l, hp, hl, b3, hd, _, hE⟩ := c
  rcases own_of hp hd h with rfl | ⟨x, hx, rfl⟩
  · exact ⟨_, hl⟩
  · obtain ⟨ys, y1, _⟩ := hE x hx
    exact ⟨_, y1⟩
theorem CupAt.ownSame {C : Addr} {H H' : Hp} {p d b : Addr} {s : CupM} (c : CupAt C H p d s) (e : Same H H') (h : Own H' p d b) : Own H p d b := by
  obtain ⟨dx, l, hp, hl, b3, hd, _, hE⟩ := c
  rcases own_of (e _ _ hp) (e _ _ hd) h with rfl | ⟨x, hx, rfl⟩
  · exact .inl ⟨_, _, _, hp⟩
  · exact .inr ⟨_, _, hd, List.mem_map.mpr ⟨x, hx, rfl⟩⟩
theorem CupAt.fresh {C : Addr} {H H' : Hp} {p d z : Addr} {s : CupM} (c : CupAt C H p d s) (e : Same H H') (hz : H z = none) : ¬ Own H' p d z := fun h => by
  obtain ⟨xs, g⟩ := c.ownSome (c.ownSame e h)
  rw [hz] at g
  cases g
theorem Three.fresh {C : Addr} {H H' : Hp} {pc z : Addr} {A : Nat → Addr × Addr} {S : Nat → CupM} (h : Three C H pc A S) (e : Same H H') (hz : H z = none) : Free3 H' A z := fun i hi => (h.c i hi).fresh e hz
def cl (S : Nat → CupM) : List V := [.int ((S 0).count : Int), .int ((S 1).count : Int), .int ((S 2).count : Int)]
theorem cl_at (S : Nat → CupM) {i : Nat} (h : i < 3) : (cl S)[i]? = some (.int ((S i).count : Int)) := by
  rcases (by omega : i = 0 ∨ i = 1 ∨ i = 2) with e | e | e <;> subst e <;> rfl
theorem cl_set (S : Nat → CupM) {i : Nat} (h : i < 3) (s : CupM) : (cl S).set i (.int (s.count : Int)) = cl (RB.put S i s) := by
  rcases (by omega : i = 0 ∨ i = 1 ∨ i = 2) with e | e | e <;> subst e <;> rfl
def three (a b c : Addr × Addr) : Nat → Addr × Addr := fun i => if i = 0 then a else if i = 1 then b else c
theorem three_new {C : Addr} {H1 H2 H3 : Hp} {x0 x1 x2 d0 d1 d2 pc : Addr} {k : Nat} (c0 : CupAt C H1 x0 d0 (CupM.new k)) (hx1 : H1 x1 = none) (hd1 : H1 d1 = none) (s2 : Same H1 H2) (c1 : CupAt C H2 x1 d1 (CupM.new k)) (hx2 : H2 x2 = none) (hd2 : H2 d2 = none) (s3 : Same H2 H3) (c2 : CupAt C H3 x2 d2 (CupM.new k)) (hpc : H3 pc = none) :
    Three C (upd H3 pc (.lst [.ref x0, .ref x1, .ref x2])) pc (three (x0, d0) (x1, d1) (x2, d2)) (newS k) := by
  have s4 : Same H3 (upd H3 pc (.lst [.ref x0, .ref x1, .ref x2])) := Same.new hpc
  obtain ⟨⟨_, _, g1⟩, _, g2⟩ := c0.kinds
  obtain ⟨⟨_, _, g3⟩, _, g4⟩ := c1.kinds
  have n01 : x0 ≠ x1 := ne_of_none g1 hx1
  have n02 : x0 ≠ x2 := ne_of_none (s2 _ _ g1) hx2
  have n12 : x1 ≠ x2 := ne_of_none g3 hx2
  have m01 : d0 ≠ d1 := ne_of_none g2 hd1
  have m02 : d0 ≠ d2 := ne_of_none (s2 _ _ g2) hd2
  have m12 : d1 ≠ d2 := ne_of_none g4 hd2
  refine ⟨upd_same, fun i hi => ?_, fun i j hi hj e => ?_, fun i j hi hj e => ?_⟩
  · rcases (by omega : i = 0 ∨ i = 1 ∨ i = 2) with e | e | e <;> subst e
    · exact ((c0.same s2).same s3).same s4
    · exact (c1.same s3).same s4
    · exact c2.same s4
  · rcases (by omega : i = 0 ∨ i = 1 ∨ i = 2) with a | a | a <;> rcases (by omega : j = 0 ∨ j = 1 ∨ j = 2) with b | b | b <;> subst a <;> subst b <;> first | rfl | exact absurd e (by first | exact n01 | exact n02 | exact n12 | exact n01.symm | exact n02.symm | exact n12.symm)
  · rcases (by omega : i = 0 ∨ i = 1 ∨ i = 2) with a | a | a <;> rcases (by omega : j = 0 ∨ j = 1 ∨ j = 2) with b | b | b <;> subst a <;> subst b <;> first | rfl | exact absurd e (by first | exact m01 | exact m02 | exact m12 | exact m01.symm | exact m02.symm | exact m12.symm)
theorem r_sub {to ti : TE} {t : V → V → V → Hp → (Hp → Prop) → Prop} {v : V} {σ : L2.St} {H : Hp} {R : L2.St → Hp → Prop} (q : to σ H fun o H1 => ti σ H1 fun i H2 => t o i v H2 fun H3 => R σ H3) : gSub to ti t v σ H R := q
theorem set_at {H : Hp} {p : Addr} {S : Nat → CupM} {v : V} {j : Nat} {R : Hp → Prop} (h : H p = some (.lst (cl S))) (hj : j < 3) (q : R (upd H p (.lst ((cl S).set j v)))) : rSetL (.ref p) (.int (j : Int)) v H R := by
  refine ⟨p, _, _, j, rfl, rfl, h, ?_, q⟩
  unfold ixN
  have e : (cl S).length = 3 := rfl
  rw [e, if_pos (by omega), if_pos (by omega), Int.toNat_natCast]
end RB

namespace RB
open PySem PySem.Spec PyProof.Rows L2
/-! ### rows as dicts -/
def kvI (x : Int × Int) : Key × V := (.inl x.1, .int x.2)
theorem keyI (a b : Int) : (Sum.inl a : Key) = Sum.inl b ↔ a = b := ⟨Sum.inl.inj, fun h => by rw [h]⟩
theorem val_kvI (D : DD) (r : Int) : valV (D.map kvI) (Sum.inl r : Key) = (getDD D r).map V.int := by
  have e : ((fun kv : Key × V => decide (kv.1 = (Sum.inl r : Key))) ∘ kvI) = fun x => decide (x.1 = r) := funext fun x => decide_eq_decide.mpr (keyI _ _)
  unfold valV getDD
  rw [List.find?_map, e, Option.map_map, Option.map_map]
  rfl
theorem getD_kvI (D : DD) (r : Int) : (valV (D.map kvI) (Sum.inl r : Key)).getD (.int 0) = .int ((getDD D r).getD 0) := by
  rw [val_kvI]
  cases getDD D r <;> rfl
theorem put_kvI (D : DD) (r v : Int) : putK (D.map kvI) (Sum.inl r : Key) (.int v) = (putDD D r v).map kvI := by
  have e : ((fun kv : Key × V => decide (kv.1 = (Sum.inl r : Key))) ∘ kvI) = fun x => decide (x.1 = r) := funext fun x => decide_eq_decide.mpr (keyI _ _)
  unfold putK putDD
  rw [List.any_map, e]
  split
  · rw [List.map_map, List.map_map]
    refine List.map_congr_left fun x _ => ?_
    show (if (Sum.inl x.1 : Key) = Sum.inl r then ((Sum.inl x.1 : Key), V.int v) else kvI x) = kvI (if x.1 = r then (x.1, v) else x)
    by_cases h : x.1 = r
    · rw [if_pos ((keyI _ _).mpr h), if_pos h]; rfl
    · rw [if_neg fun z => h ((keyI _ _).mp z), if_neg h]
  · rw [List.map_append]
    rfl
structure Rows3 (H : Hp) (pr : Addr) (B : Nat → Addr) (D : Nat → DD) : Prop where
  l : H pr = some (.lst [.ref (B 0), .ref (B 1), .ref (B 2)])
  d : ∀ i, i < 3 → H (B i) = some (.dK ((D i).map kvI))
  nb : ∀ i j, i < 3 → j < 3 → B i = B j → i = j
/-- one dict is changed -/
def FrB (H H' : Hp) (b : Addr) : Prop := ∀ a o, H a = some o → a ≠ b → H' a = some o
theorem FrB.refl (H : Hp) (b : Addr) : FrB H H b := fun _ _ h _ => h
theorem FrB.same {H H' : Hp} (s : Same H H') (b : Addr) : FrB H H' b := fun a o h _ => s a o h
theorem FrB.trans {H H1 H2 : Hp} {b : Addr} (f : FrB H H1 b) (g : FrB H1 H2 b) : FrB H H2 b := fun a o h n => g a o (f a o h n) n
theorem FrB.upd (H : Hp) (b : Addr) (o : HO) : FrB H (L2.upd H b o) b := fun a u h n => by
  rw [upd_ne n]
  exact h
theorem FrB.imm {H H' : Hp} {b : Addr} {kvs : List (Key × V)} (f : FrB H H' b) (h : H b = some (.dK kvs)) : Imm H H' :=
  ⟨fun a xs ha => f a _ ha (ne_of ha h (by intro z; cases z)), fun a xs ha => f a _ ha (ne_of ha h (by intro z; cases z))⟩
theorem Rows3.same {H H' : Hp} {pr : Addr} {B : Nat → Addr} {D : Nat → DD} (h : Rows3 H pr B D) (s : Same H H') : Rows3 H' pr B D := ⟨s _ _ h.l, fun i hi => s _ _ (h.d i hi), h.nb⟩
theorem Rows3.put {H H' : Hp} {pr : Addr} {B : Nat → Addr} {D : Nat → DD} {i : Nat} {E : DD} (h : Rows3 H pr B D) (hi : i < 3) (f : FrB H H' (B i)) (e : H' (B i) = some (.dK (E.map kvI))) : Rows3 H' pr B (put D i E) := by
  refine ⟨(f.imm (h.d i hi)).1 _ _ h.l, fun j hj => ?_, h.nb⟩
  by_cases c : j = i
  · subst c
    rw [put_here]
    exact e
  · rw [put_else c]
    exact f _ _ (h.d j hj) fun z => c (h.nb j i hj hi z)
theorem Rows3.at_ {K : PySem.W.Frag} {H : Hp} {pr : Addr} {B : Nat → Addr} {D : Nat → DD} (h : Rows3 H pr B D) {i : Nat} (hi : i < 3) {Q : VK} (q : Q (.ref (B i)) H) : rIxL K (.ref pr) (.int (i : Int)) H Q := by
  refine lst_at (j := i) h.l ?_ q
  rcases (by omega : i = 0 ∨ i = 1 ∨ i = 2) with e | e | e <;> subst e <;> rfl
/-- the rows' dicts are not the cups' -/
def Apart (A : Nat → Addr × Addr) (B : Nat → Addr) : Prop := ∀ i j, i < 3 → j < 3 → B i ≠ (A j).2
theorem Rows3.fr3 {C : Addr} {H H' : Hp} {pr pc : Addr} {A : Nat → Addr × Addr} {S : Nat → CupM} {B : Nat → Addr} {D : Nat → DD} (h : Rows3 H pr B D) (T : Three C H pc A S) (f : Fr3 H H' A) (n : Apart A B) : Rows3 H' pr B D := by
  refine ⟨(T.imm f).1 _ _ h.l, fun i hi => f.fr _ _ (h.d i hi) fun j hj => ⟨?_, n i j hi hj⟩, h.nb⟩
  obtain ⟨⟨dx, fs, h1⟩, _⟩ := (T.c j hj).kinds
  exact ne_of (h.d i hi) h1 (by intro z; cases z)
theorem Three.frB {C : Addr} {H H' : Hp} {pr pc : Addr} {A : Nat → Addr × Addr} {S : Nat → CupM} {B : Nat → Addr} {D : Nat → DD} (T : Three C H pc A S) (h : Rows3 H pr B D) {i : Nat} (hi : i < 3) (f : FrB H H' (B i)) (n : Apart A B) : Three C H' pc A S := by
  have im := f.imm (h.d i hi)
  refine ⟨im.1 _ _ T.l, fun j hj => (T.c j hj).imm im (fun o ho => ?_) (fun o ho => ?_), T.np, T.nd⟩
  · obtain ⟨⟨dx, fs, h1⟩, _⟩ := (T.c j hj).kinds
    exact f _ _ ho (ne_of h1 (h.d i hi) (by intro z; cases z))
  · exact f _ _ ho fun z => n i j hi hj z.symm
/-! ### sums over a row -/
theorem range_getD {α : Type} (l : List α) (d : α) : (List.range l.length).map (fun i => l.getD i d) = l := by
  apply List.ext_getElem?
  intro i
  rw [List.getElem?_map]
  by_cases hi : i < l.length
  · rw [List.getElem?_range hi, List.getElem?_eq_getElem hi]
    simp only [Option.map_some]
    rw [List.getD_eq_getElem?_getD, List.getElem?_eq_getElem hi]
    rfl
  · rw [List.getElem?_eq_none (by simp; omega), List.getElem?_eq_none (by omega)]
    rfl
theorem pick_filter (D : DD) (p : Int × Int → Bool) : (pickN D.length fun i => p (D.getD i (0, 0))).map (fun i => (D.getD i (0, 0)).2) = (D.filter p).map (·.2) := by
  have e : D.filter p = (pickN D.length fun i => p (D.getD i (0, 0))).map fun i => D.getD i (0, 0) := by
    conv => lhs; rw [← range_getD D (0, 0)]
    rw [List.filter_map]
    rfl
  rw [e, List.map_map]
  rfl
theorem getDD_at {D : DD} (h : (D.map (·.1)).Nodup) {i : Nat} (hi : i < D.length) : getDD D D[i].1 = some D[i].2 := by
  unfold getDD
  have e : D.find? (fun x => decide (x.1 = D[i].1)) = some D[i] := by
    induction D generalizing i with
    | nil => cases hi
    | cons x t ih =>
      rw [List.map_cons] at h
      obtain ⟨h1, h2⟩ := List.nodup_cons.mp h
      cases i with
      | zero => exact List.find?_cons_of_pos (decide_eq_true rfl)
      | succ i =>
        have hi' : i < t.length := by simpa using hi
        show (x :: t).find? (fun y => decide (y.1 = t[i].1)) = some t[i]
        rw [List.find?_cons_of_neg fun z => h1 (List.mem_map.mpr ⟨t[i], List.getElem_mem hi', (of_decide_eq_true z).symm⟩)]
        exact ih h2 hi'
  rw [e]
  rfl
theorem r_items {te : TE} {σ : L2.St} {H : Hp} {Q : VK} (q : te σ H fun x H1 => LiI.rItemsL x H1 Q) : LiI.tListItems te σ H Q := q
theorem DGet.f {H : Hp} {a : Addr} {od : Obj} {kvs : List (Key × V)} {k : Key} (e : H a = some (.frz od (.dK kvs))) : DGet H a (kV k) (valV kvs k) := .inl ⟨kvs, k, .inr ⟨od, e⟩, rfl, rfl⟩
/-- [row[k] for k in row if ..] -/
theorem row_comp {td : TE} {g : TG} {tt : TT} {te : TE} {vs : List Nat} {σ : L2.St} {H : Hp} {Q : VK} {d : Addr} {D : DD} (hd : H d = some (.dK (D.map kvI))) (hn : D.length ≤ 1000000) (t : Int × Int → Bool) (htd : ∀ (H' : Hp) (R : VK), R (.ref d) H' → td σ H' R)
    (hs : ∀ (i : Nat) (hi : i < D.length) (od : Obj) (H1 : Hp), H1 d = some (.frz od (.dK (D.map kvI))) → ∀ (R : V → Hp → Prop) (S : Hp → Prop), (t D[i] = true → R (.int D[i].2) H1) → (t D[i] = false → S H1) → g (.int D[i].1) (wipe σ vs) H1 fun σ2 H2 => wipe σ2 vs = wipe σ vs ∧ tt σ2 H2 fun b H3 => if b = true then te σ2 H3 R else S H3)
    (q : ∀ p H', H p = none → Same H H' → H' p = some (.lst (((D.filter t).map (·.2)).map V.int)) → Q (.ref p) H') : tLockE (tLc (iKeys td) g tt te vs) σ H Q := by
  refine r_lockE ⟨d, _, hd, trivial, fun od => ?_⟩
  have hdF : (upd H d (.frz od (.dK (D.map kvI)))) d = some (.frz od (.dK (D.map kvI))) := upd_same
  refine r_lc (r_iKeys (htd _ _ ⟨d, od, rfl, .inl ⟨_, hdF, ?_⟩⟩))
  refine lc_gen (walk_keys (d := d) (o := od) (kvs := D.map kvI)) (fun i => t (D.getD i (0, 0))) (fun i v _ => v = .int (D.getD i (0, 0)).2) (by rw [List.length_map]; omega) hdF (fun H H' s h => s _ _ h)
      (fun _ _ _ _ _ h => h) (fun _ _ _ _ _ _ _ h => h) (fun i hi H1 s1 _ x H' y => ?_) (fun p1 ys H1 hp1 s1 h1 M => ?_)
  · obtain ⟨rfl, kk, vv, ex, rfl⟩ := y
    rw [List.length_map] at hi
    rw [List.getElem?_map, List.getElem?_eq_getElem hi] at ex
    have ex' : kk = Sum.inl D[i].1 := by
      have := Option.some.inj ex
      exact (congrArg Prod.fst this).symm
    subst ex'
    have e0 : D.getD i (0, 0) = D[i] := by rw [List.getD_eq_getElem?_getD, List.getElem?_eq_getElem hi]; rfl
    refine ⟨Same.refl _, fun R S hy hn' => ?_⟩
    rw [e0] at hy hn'
    exact hs i hi od _ (s1 _ _ hdF) R S (fun h => hy h _ _ (Same.refl _) rfl) fun h => hn' h _ (Same.refl _)
  · have em := M.ints
    rw [List.length_map, pick_filter] at em
    have sL := lock_same hd s1
    have npd1 : p1 ≠ d := fun e => by subst e; rw [hdF] at hp1; cases hp1
    refine ⟨s1 _ _ hdF, ?_⟩
    exact q p1 _ (upd_none hp1) sL (by rw [upd_ne npd1, h1, em])
/-! ### all that a law keeps over its deeds -/
theorem seq_keep {K : PySem.W.Frag} {H H' : Hp} {a : Addr} {xs : List V} (f : ∀ o, H a = some o → (∀ C dx fs, o ≠ .ins C dx fs) → (∀ kvs, o ≠ .dK kvs) → H' a = some o) (h : SqL K H a xs) : SqL K H' a xs := by
  rcases h with (h | ⟨o, h⟩) | h
  · exact .inl (.inl (f _ h (fun _ _ _ z => nomatch z) (fun _ z => nomatch z)))
  · exact .inl (.inr ⟨o, f _ h (fun _ _ _ z => nomatch z) (fun _ z => nomatch z)⟩)
  · exact .inr h
theorem Three.seq {K : PySem.W.Frag} {C : Addr} {H H' : Hp} {pc a : Addr} {A : Nat → Addr × Addr} {S : Nat → CupM} {xs : List V} (T : Three C H pc A S) (f : Fr3 H H' A) (h : SqL K H a xs) : SqL K H' a xs :=
  seq_keep (fun o ho n1 n2 => f.fr _ _ ho fun i hi => by
    obtain ⟨⟨dx, fs, h1⟩, kvs, h2⟩ := (T.c i hi).kinds
    exact ⟨fun e => by subst e; rw [h1] at ho; cases ho; exact n1 _ _ _ rfl, fun e => by subst e; rw [h2] at ho; cases ho; exact n2 _ rfl⟩) h
theorem Rows3.seq {K : PySem.W.Frag} {H H' : Hp} {pr a : Addr} {B : Nat → Addr} {D : Nat → DD} {i : Nat} {xs : List V} (R : Rows3 H pr B D) (hi : i < 3) (f : FrB H H' (B i)) (h : SqL K H a xs) : SqL K H' a xs :=
  seq_keep (fun o ho _ n2 => f _ _ ho fun e => by
    subst e
    rw [R.d i hi] at ho
    cases ho
    exact n2 _ rfl) h
structure Scene (C : Addr) (K : PySem.W.Frag) (H : Hp) (a pc pr pd : Addr) (A : Nat → Addr × Addr) (B : Nat → Addr) (S : Nat → CupM) (D : Nat → DD) (ns : List Int) (xs : List V) (ds : List Deed) : Prop where
  t : Three C H pc A S
  r : Rows3 H pr B D
  ap : Apart A B
  a : SqL K H a (ns.map V.int)
  d : H pd = some (.lst xs)
  v : DeedsV H xs ds
section
variable {C : Addr} {K : PySem.W.Frag} {H H' : Hp} {a pc pr pd : Addr} {A : Nat → Addr × Addr} {B : Nat → Addr} {S S' : Nat → CupM} {D D' : Nat → DD} {ns : List Int} {xs : List V} {ds : List Deed}
theorem Scene.same (h : Scene C K H a pc pr pd A B S D ns xs ds) (s : Same H H') : Scene C K H' a pc pr pd A B S D ns xs ds :=
  ⟨h.t.same s, h.r.same s, h.ap, s.seq h.a, s _ _ h.d, h.v.imm fun b cs hb => s b _ hb⟩
theorem Scene.done (h : Scene C K H a pc pr pd A B S D ns xs ds) (T : Three C H' pc A S') (f : Fr3 H H' A) : Scene C K H' a pc pr pd A B S' D ns xs ds :=
  ⟨T, h.r.fr3 h.t f h.ap, h.ap, h.t.seq f h.a, (h.t.imm f).1 _ _ h.d, h.v.imm (h.t.imm f).2⟩
theorem Scene.come (h : Scene C K H a pc pr pd A B S D ns xs ds) {i : Nat} (hi : i < 3) (R : Rows3 H' pr B D') (f : FrB H H' (B i)) : Scene C K H' a pc pr pd A B S D' ns xs ds :=
  ⟨h.t.frB h.r hi f h.ap, R, h.ap, h.r.seq hi f h.a, (f.imm (h.r.d i hi)).1 _ _ h.d, h.v.imm (f.imm (h.r.d i hi)).2⟩
end
def threeB (a b c : Addr) : Nat → Addr := fun i => if i = 0 then a else if i = 1 then b else c
theorem rows_new {H : Hp} {q0 q1 q2 pr : Addr} (h0 : H q0 = none) (h1 : (upd H q0 (.dK [])) q1 = none) (h2 : (upd (upd H q0 (.dK [])) q1 (.dK [])) q2 = none) (hp : (upd (upd (upd H q0 (.dK [])) q1 (.dK [])) q2 (.dK [])) pr = none) :
    Rows3 (upd (upd (upd (upd H q0 (.dK [])) q1 (.dK [])) q2 (.dK [])) pr (.lst [.ref q0, .ref q1, .ref q2])) pr (threeB q0 q1 q2) newD ∧ Same H (upd (upd (upd (upd H q0 (.dK [])) q1 (.dK [])) q2 (.dK [])) pr (.lst [.ref q0, .ref q1, .ref q2])) ∧ ∀ i, i < 3 → H (threeB q0 q1 q2 i) = none := by
  have s1 := Same.new (o := .dK []) h0
  have s2 := Same.new (o := .dK []) h1
  have s3 := Same.new (o := .dK []) h2
  have s4 := Same.new (o := .lst [.ref q0, .ref q1, .ref q2]) hp
  have g0 : (upd H q0 (.dK [])) q0 = some (.dK []) := upd_same
  have g1 : (upd (upd H q0 (.dK [])) q1 (.dK [])) q1 = some (.dK []) := upd_same
  have g2 : (upd (upd (upd H q0 (.dK [])) q1 (.dK [])) q2 (.dK [])) q2 = some (.dK []) := upd_same
  have n01 : q0 ≠ q1 := ne_of_none g0 h1
  have n02 : q0 ≠ q2 := ne_of_none (s2 _ _ g0) h2
  have n12 : q1 ≠ q2 := ne_of_none g1 h2
  refine ⟨⟨upd_same, fun i hi => ?_, fun i j hi hj e => ?_⟩, ((s1.trans s2).trans s3).trans s4, fun i hi => ?_⟩
  · rcases (by omega : i = 0 ∨ i = 1 ∨ i = 2) with e | e | e <;> subst e
    · exact s4 _ _ (s3 _ _ (s2 _ _ g0))
    · exact s4 _ _ (s3 _ _ g1)
    · exact s4 _ _ g2
  · rcases (by omega : i = 0 ∨ i = 1 ∨ i = 2) with a | a | a <;> rcases (by omega : j = 0 ∨ j = 1 ∨ j = 2) with b | b | b <;> subst a <;> subst b <;> first | rfl | exact absurd e (by first | exact n01 | exact n02 | exact n12 | exact n01.symm | exact n02.symm | exact n12.symm)
  · rcases (by omega : i = 0 ∨ i = 1 ∨ i = 2) with e | e | e <;> subst e
    · exact h0
    · exact upd_none h1
    · exact upd_none (upd_none h2)
theorem Three.apart {C : Addr} {H : Hp} {pc : Addr} {A : Nat → Addr × Addr} {S : Nat → CupM} {B : Nat → Addr} (T : Three C H pc A S) (hB : ∀ i, i < 3 → H (B i) = none) : Apart A B := fun i j hi hj e => by
  obtain ⟨_, kvs, h2⟩ := (T.c j hj).kinds
  rw [← e, hB i hi] at h2
  cases h2
/-! ### an answer is right -/
theorem near_right {s : CupM} {R : Row} {D : DD} {U : List Int} (g : Good s R) (ok : RowOk D U) (hR : rowD D = R) {p : Int} (h0 : 0 ≤ p) (h1 : p < (s.count : Int)) :
    ∃ v, getDD D (nearestE s.kept p).1 = some v ∧ R.lt (nearestE s.kept p).1 - ((offM (s.count / s.keep) : Nat) : Int) ≤ p ∧ p ≤ R.lt (nearestE s.kept p).1 + v - 1 + ((offM (s.count / s.keep) : Nat) : Int) := by
  obtain ⟨ws, h, _⟩ := g.kept
  obtain ⟨_, h2, h3, h4⟩ := h.near h0 (by rw [g.n]; exact h1)
  have ha := rowD_at (r := (nearestE s.kept p).1) ok.nd
  rw [hR] at ha
  cases e : getDD D (nearestE s.kept p).1 with
  | none =>
    rw [e] at ha
    simp at ha
    omega
  | some v =>
    rw [e] at ha
    have ha' : R.lt ((nearestE s.kept p).1 + 1) = R.lt (nearestE s.kept p).1 + v := ha
    exact ⟨v, rfl, h3, by omega⟩
end RB

namespace RB
open PySem PySem.Spec PyProof.Rows L2
theorem ints_by {g : List Value} {zs : List Int} (el : g.length = zs.length) (at_ : ∀ (n : Nat) (u : Value), g[n]? = some u → ∃ (z : Int) (b : Tok), zs[n]? = some z ∧ u = Value.int z b) : IntsAre g zs := by
  induction g generalizing zs with
  | nil =>
    cases zs with
    | nil => exact .nil
    | cons z zs => cases el
  | cons u g ih =>
    cases zs with
    | nil => cases el
    | cons z zs =>
      obtain ⟨y, b, q1, q2⟩ := at_ 0 u rfl
      have q3 : z = y := Option.some.inj q1
      subst q3 q2
      exact .cons _ _ (ih (Nat.succ.inj el) fun n u h => at_ (n + 1) u h)
/-- sorted(d), keys whole numbers, of any size -/
theorem call_sortedDA {X : Cx} (calm : X.calm = true) : CallR X (.builtin "sorted") (fun args h0 G => ∃ (d : Addr) (tab : List (Key × V)) (zs : List Int), args = [.ref d] ∧ Rd h0 d (.dK tab) ∧ tab.map (·.1) = zs.map Sum.inl ∧ zs.length ≤ 1000000 ∧
    ∀ (ys : List Int) (p : Addr), ys.Perm zs → ys.Pairwise (· ≤ ·) → h0 p = none → G (.ref p) (upd h0 p (.lst (ys.map V.int)))) := by
  intro pn sl st h0 args vals G J rel0 ⟨d, tab, zs, ea, rd, ek, small, fin⟩
  subst ea
  obtain ⟨v0, ev, rv0⟩ := vals1 rel0
  subst ev
  cases rv0
  obtain ⟨zok, low, ent, relE, dd⟩ := dk_rd J.hok rd
  obtain ⟨epo, dat⟩ := dd.dictAt
  have ekeys : ent.map (·.1) = zs.map Sum.inl := relE.keys.symm.trans ek
  have elen : ent.length = zs.length := by have := congrArg List.length ekeys; rwa [List.length_map, List.length_map] at this
  have fits : ent.length ≤ sizeLine := by rw [elen, sizeLine_eq]; omega
  refine Calls.call_function_entry kind_sorted plain_sorted entry_sorted (args_sorted1 _) ?_
  unfold Builtin.«sorted»
  refine wpAny_bind (m := checkCount "sorted" 1 1 _) (wpAny_pure ?_)
  refine wpAny_bind (PySem.W.kdu_collect (A := X.A.in1) (PySem.W.kdl_dict (knd := mixKind X.prog X.w) (kvs := ent) (ep := epo) low) (J.ok.hd calm) dat fits fun hp2 tk2 got kept2 ok2 => ?_)
  have gl : got.toList.length = zs.length := by rw [Array.length_toList, ok2.1, elen]
  have gi : IntsAre got.toList zs := ints_by gl fun n u hu => by
    obtain ⟨key, w0, p1, p2⟩ := ok2.2 n u (by rw [← Array.getElem?_toList]; exact hu)
    have p3 : (ent.map (·.1))[n]? = some key := by rw [List.getElem?_map, p1]; rfl
    rw [ekeys, List.getElem?_map] at p3
    cases p4 : zs[n]? with
    | none => rw [p4] at p3; cases p3
    | some z =>
      rw [p4] at p3
      have p5 : Sum.inl z = key := Option.some.inj p3
      subst p5
      rcases keyIs_shape (show keyIs (Sum.inl z) u = true from p2) with ⟨i, t, c1, c2⟩ | ⟨x, t, c1, c2⟩
      · cases c1; exact ⟨z, t, rfl, c2⟩
      · cases c1
  have J1 : Inv X pn st h0 { sl with heap := hp2, toks := tk2 } := J.kept kept2
  have gfit : got.toList.length ≤ sizeLine := by rw [gl, sizeLine_eq]; omega
  refine wpAny_bind (wpAny_newList ?_ gfit)
  have ob : (hp2.push (seqObj "list" got.toList.toArray 0)).get? hp2.objs.size = some (seqObj "list" got.toList.toArray 0) := Heap.get?_push_size _ rfl
  show wpAny _ _ _ _ _ { sl with heap := hp2.push (seqObj "list" got.toList.toArray 0), toks := tk2 }
  refine wpAny_bind (wpAny_holding (wpAny_call_entry slot_list_sort ⟨_, ob, rfl⟩ entry_list_sort
    (SrtO.list_sort_ord (s := { sl with heap := hp2.push (seqObj "list" got.toList.toArray 0), toks := tk2 }) SrtO.swo_int ob gfit (fun two => SrtO.ints_sortable gi two) fun res u1 u2 => ⟨_, rfl, ?_⟩) (args_list_sort _)))
  obtain ⟨k1, k2, k3⟩ := SrtO.ints_out gi u1 u2
  obtain ⟨epo2, back⟩ := sortedHeap_at (vs := got.toList) (out := res.toArray) ob
  have rl : ((res.map SrtO.iv).map V.int).length ≤ sizeLine := by rw [List.length_map, k2.length_eq, sizeLine_eq]; omega
  refine wpAny_pure ⟨_, rfl, .ref hp2.objs.size, upd h0 hp2.objs.size (.lst ((res.map SrtO.iv).map V.int)), J1.laid (t' := tk2) (fun b u hb => ?_) (Nat.le_refl _)
    ⟨rl, res, epo2, vals_of_ints k1, back⟩, rfl, fin _ _ k2 k3 (J1.hok.fresh (Nat.le_refl _))⟩
  have lt : b < hp2.objs.size := Heap.lt_size hb
  rw [sortedHeap_old (Nat.ne_of_lt lt) (by rw [size_push']; exact Nat.lt_succ_of_lt lt)]
  exact Heap.get?_push_of_some _ hb
end RB

namespace RB
open PySem PySem.Spec PyProof.Rows L2
/-! ### promises of defs that write data out (repr): no list's text is under way -/
structure FnG (P : Program) (w : World) (K : PySem.W.Frag) (mg : Str → Option Value) (base : Heap) (CX : CXT) (k : Nat) (f : Addr) (fd : FuncData) (ps : List Str) (sp : Sp) : Prop where
  len : ∀ vs H Q E, sp vs H Q E → vs.length = ps.length
  go : ∀ (A : Around) (env0 : List Env) (st : Shared) (h0 : Hp) (ar : Args) (us : List Value) (vs : List V) (G : VK) (E : XK), Room k A → A.guards = some [] → Env0 P w K mg base A env0 st h0 → BindsTo st fd ar (ps.zip us) → Vals vs us → sp vs h0 G E →
    codeAny (model P w) A (.call (.ref f) ar) (CR CX env0 P w h0 st G E) st
theorem okToG {P : Program} {w : World} {K : PySem.W.Frag} {mg : Str → Option Value} {base : Heap} {CX : CXT} {k : Nat} {f : Addr} {fd : FuncData} {ps : List Str} {sp : Sp} (F : FnOk P w K mg base CX k f fd ps sp) : FnG P w K mg base CX k f fd ps sp :=
  ⟨F.len, fun A env0 st h0 ar us vs G E r _ => F.run A env0 st h0 ar us vs G E r⟩
structure CalG (P : Program) (w : World) (K : PySem.W.Frag) (mg : Str → Option Value) (base : Heap) (CX : CXT) (k : Nat) (x : Str) (ps : List Str) (sp : Sp) : Prop where
  ex : ∃ (f : Addr) (fd : FuncData), FnG P w K mg base CX k f fd ps sp ∧ mg x = some (.ref f) ∧ PySem.W.keepIn K (.ref f) = true ∧ Binds K fd ps []
theorem okG {P : Program} {w : World} {K : PySem.W.Frag} {mg : Str → Option Value} {base : Heap} {x qual : Str} {st : Stmt} {f : Addr} {fd : FuncData} {N ps : List Str} {k : Nat} {sp : Sp} (F : Fun K x qual st f fd) (S : FnScope N ps (defScope st)) (len : ∀ vs H Q E, sp vs H Q E → vs.length = ps.length)
    (body : ∀ (cdv : Value) (A : Around) (env0 : List Env) (s0 : Shared) (h0 : Hp) (vs : List V) (G : VK) (E : XK), Room k (A.deeper (envOfC qual (defScope st) s0.heap.objs.size f cdv)) → (A.deeper (envOfC qual (defScope st) s0.heap.objs.size f cdv)).guards = some [] → sp vs h0 G E →
      ∃ t, PSs (cxOf CX0 P w K mg base N qual (defScope st) f cdv A env0 s0 h0 E).nox (defBody st) t ∧ t { nx := fun _ H' => G .non H', rt := G } (start N vs) h0) : FnG P w K mg base CX0 (k + 1) f fd ps sp := by
  obtain ⟨oc, od, kV, doc, pm, an, cdv, ct, osl, rfl, look, cod⟩ := F.ex
  refine ⟨len, fun A env0 s0 h0 ar us vs G E room quiet at0 bd rv want => ?_⟩
  have sameLen := len _ _ _ _ want
  have kin : K.In s0.heap := at0.mod.kin.keeps fun b o e => (at0.bs b o e).1
  have free : s0.heap.NoLimit := at0.mod.nolimit.keeps fun b o e => (at0.bs b o e).1
  have kinds : ∀ y ∈ ps.zip us, (defScope st).names.lookup y.1 = some .local ∨ ((defScope st).names.lookup y.1 = some .cell ∧ ((cellsFrom (s0.heap.objs.size + 1) (defScope st).names []).lookup y.1).isSome = true) := by
    rintro ⟨n, v⟩ hy
    cases S.par n (List.of_mem_zip hy).1 with
    | inl q => exact .inl q
    | inr q => exact .inr ⟨q, PySem.W.cellsFrom_some _ _ _ (.inl q)⟩
  refine codeAny_call_function room.depth (kin _ _ look) rfl S.co S.gen rfl (PySem.W.codeRec_of kin cod) (bd _ _ _ _ ?_)
  refine wpAny_newFunctionEnv_cells S.kind kinds fun e1 he s1 x => ?_
  subst he
  refine ⟨free.keeps x.toInCall.keep, codeAny_func ?_⟩
  obtain ⟨t, run, q0⟩ := body cdv A env0 s0 h0 vs G E (room.deeper _) quiet want
  have J : Inv (cxOf CX0 P w K mg base N qual (defScope st) f cdv A env0 s0 h0 E) [] (start N vs) h0 s1 := inv_start S room.hd at0 sameLen rv x
  refine wpAny_mono (run.nox.run [] s1 (start N vs) h0 _ J q0) (fun fl s' z => ?_) fun e s' z => z
  have close : ∀ {σ' : L2.St} {H' : Hp} {v : V} {u : Value}, Inv (cxOf CX0 P w K mg base N qual (defScope st) f cdv A env0 s0 h0 E) [] σ' H' s' → RelV v u → G v H' → CE env0 P w h0 s0 G u s' :=
    fun {σ' H' v u} J' rv' q' => ⟨v, H', J'.os, J'.bare, J'.base, J'.hok, rv', q'⟩
  cases fl with
  | ret u => obtain ⟨v, σ', H', J', rv', q'⟩ := z; exact close J' rv' q'
  | next => obtain ⟨σ', H', J', q'⟩ := z; exact close (v := V.non) (u := Value.none) J' rfl q'
  | brk => obtain ⟨_, _, _, q'⟩ := z; exact q'.elim
  | cont => obtain ⟨_, _, _, q'⟩ := z; exact q'.elim
section
variable {X : Cx} {k : Nat} {f : Addr} {fd : FuncData} {ps : List Str} {sp : Sp} {x : Str} {p pos : Pos} {e : Expr} {es : List Expr} {t : TA}
theorem pe_callG (F : FnG X.prog X.w X.K X.mg X.base CX0 k f fd ps sp) (quiet : X.A.guards = some []) (room : Room k X.A) (g : Gl X x) (m : X.mg x = some (.ref f)) (kp : PySem.W.keepIn X.K (.ref f) = true) (bd : Binds X.K fd ps [])
    (ar : PA X (e :: es) t) (nd : (x == ("__debug__" : Str)) = false := by decide) (h1 : starEach (e :: es) X.env = (false, eval e X.env) :: starEach es X.env := by rfl) (h2 : (backTo pos (starEach es X.env)).any (·.1) = false := by rfl) :
    PE X (.Call (.Name x p) (e :: es) [] pos) (tCall sp [] E0 t) := by
  refine ⟨fun pn s σ H Q I hq => wpAny_Call_Name_kw (ld_glob I g m ?_ nd)⟩
  refine PySem.W.callWith_K (h₀ := X.base) I.ok.mod.kin kp (thn (ar.run pos pn s σ H _ I hq) fun us s1 ⟨vs, H1, I1, rv, q⟩ => ⟨I1.kIn, ?_⟩) h1 h2
  have q : sp vs H1 Q E0 := by
    have z : sp (vs ++ []) H1 Q E0 := q
    rwa [List.append_nil] at z
  have hl : us.length = ps.length := by rw [← rv.length]; exact F.len _ _ _ _ q
  have hl' : (us ++ []).length = ps.length := by rw [List.append_nil]; exact hl
  have bd' := bd s1 us I1.kIn hl'
  rw [List.append_nil] at bd'
  show wpAny _ _ (call (.ref f) us) _ _ _
  refine wpAny_call (codeAny_mono (F.go X.A X.stack s1 H1 ⟨us, []⟩ us vs Q E0 room quiet I1.env0 bd' rv q) fun r s' z => ?_)
  cases r with
  | error e => exact z.elim
  | ok fl =>
    cases fl with
    | ret u => exact I1.after z
    | next => exact z.elim
    | brk => exact z.elim
    | cont => exact z.elim
/-- repr of a list or tuple of data -/
def rRepr (K : PySem.W.Frag) : List V → Hp → VK → Prop := fun xs H Q => ∃ (a : Addr) (d : PyData), xs = [.ref a] ∧ Dp K H (.ref a) d ∧ d.showable = true ∧ d.hasDict = false ∧ d.depth ≤ 8 ∧ d.shown.length ≤ sizeLine ∧ Q (.str d.shown) H
theorem call_reprG (quiet : X.A.guards = some []) (hu : X.A.units + 64 < cLine) : CallR X (.builtin "repr") (rRepr X.K) := by
  intro pn s σ H xs us Q I rv ⟨a, d, ex, hd, h1, h2, h3, h4, q⟩
  subst ex
  obtain ⟨u, eu, ru⟩ := vals1 rv
  subst eu
  obtain ⟨as, rd⟩ := Dp.reads I d _ u hd ru
  cases ru
  exact repr_of_reads' rd h1 (fun z => by rw [h2] at z; cases z) quiet (by omega) (fun b o e => e) (fun h' v tk hk => ⟨.str d.shown, H, I.kept hk, ⟨_, rfl⟩, q⟩) h4
end
/-- the law's own call, by such a promise -/
theorem law_callG {P : Program} {w : World} {K : PySem.W.Frag} {mg mb : Str → Option Value} {k : Nat} {fa a : Addr} {fd : FuncData} {x : Str} {sp : Sp} {st : Shared} {vs : List Value} {ns : List Int}
    (kin : K.In st.heap) (nsM : st.heap.Ns mainGlobals mg) (nsB : st.heap.Ns builtinsNs mb) (bb : ∀ x : Str, x ≠ "__name__" → mb x = bootBuiltins x) (free : st.heap.NoLimit) (nog : st.gens = #[])
    (ob : st.heap.get? a = some { cls := .type "list", data := .seq vs.toArray }) (is : IntsAre vs ns) (hl : ns.length ≤ sizeLine) (room : Room k callerA)
    (F : ∀ base : Heap, K.In base → base.Ns mainGlobals mg → FnG P w K mg base CX0 k fa fd [x] sp) (bd : ∀ (s : Shared) (u : Value), BindsTo s fd ⟨[u], []⟩ [(x, u)])
    (want : ∀ H : Hp, Only H → SqL K H a (ns.map V.int) → sp [.ref a] H (fun v _ => v = .bl true) fun _ _ _ => False) :
    codeAny (model P w) callerA (.call (.ref fa) ⟨[.ref a], []⟩) (fun r s' => r = .ok (.ret (.bool true)) ∧ OldK st.heap s'.heap ∧ s'.os = st.os ∧ AllBare s'.gens) st := by
  have vals := vals_ints is
  have main : ∀ H : Hp, Only H → SqL K H a (ns.map V.int) → HOk P w H st.heap → (∀ b, H b ≠ none → b = a) → (H a ≠ none → K.lookup a = none) →
      codeAny (model P w) callerA (.call (.ref fa) ⟨[.ref a], []⟩) (fun r s' => r = .ok (.ret (.bool true)) ∧ OldK st.heap s'.heap ∧ s'.os = st.os ∧ AllBare s'.gens) st := by
    intro H only seq ok one own
    have low : ∀ {b : Addr} {o : Obj}, st.heap.get? b = some o → H b = none → (hidT st.heap H).get? b = some o := fun h n => hidT_get h n
    have offDict : ∀ {b : Addr} {o : Obj} {es : Array DictEntry} {ep : Nat}, st.heap.get? b = some o → o.data = .dict es ep → H b = none := by
      intro b o es ep h hd
      cases q : H b with
      | none => rfl
      | some u =>
        have hb := one b (by rw [q]; simp)
        subst hb
        rw [ob] at h
        cases h
        cases hd
    have nsLow : ∀ {b : Addr} {m : Str → Option Value}, st.heap.Ns b m → (hidT st.heap H).Ns b m := by
      rintro b m ⟨o, es, ep, h, hd, r⟩
      exact ⟨o, es, ep, low h (offDict h hd), hd, r⟩
    have kLow : K.In (hidT st.heap H) := fun b o h => low (kin b o h) (by
      cases q : H b with
      | none => rfl
      | some u =>
        have hb := one b (by rw [q]; simp)
        subst hb
        rw [own (by rw [q]; simp)] at h
        cases h)
    have modOk : Mod K mg (hidT st.heap H) := by
      obtain ⟨mc, c1, c2⟩ := free
      exact ⟨kLow, nsLow nsM, ⟨mb, nsLow nsB, bb⟩, ⟨mc, nsLow c1, c2⟩⟩
    have at0 : Env0 P w K mg (hidT st.heap H) callerA [] st H := ⟨rfl, modOk, fun b o h => of_hidT h, Nat.le_of_eq (hidT_size _ _), trivial, fun b hb => absurd (show b ∈ ([] : List Addr) from hb) (by simp), ok, .of_eq nog⟩
    refine codeAny_mono ((F _ kLow (nsLow nsM)).go callerA [] st H ⟨[.ref a], []⟩ [.ref a] [.ref a] _ _ room rfl at0 (bd st (.ref a)) (.cons rfl .nil) (want H only seq)) fun r s' z => ?_
    cases r with
    | error e => exact z.elim
    | ok fl =>
      cases fl with
      | next => exact z.elim
      | brk => exact z.elim
      | cont => exact z.elim
      | ret u =>
        obtain ⟨v, H', os, bare, un, ok', rv, q⟩ := z
        have q' : v = .bl true := q
        subst q'
        have eu : u = Value.bool true := rv
        subst eu
        refine ⟨rfl, OldK.of_keep fun b o h => ?_, os, bare⟩
        cases q2 : H b with
        | none => exact un.keep b o h q2 (fun z => absurd (show b ∈ ([] : List Addr) from z) (by simp)) (by simp)
        | some u2 =>
          rcases only b with z | ⟨o2, xs2, z⟩
          · rw [q2] at z; cases z
          · obtain ⟨e1, _⟩ := ok b _ z
            obtain ⟨e2, _⟩ := ok' b _ (un.frzs b o2 _ z)
            rw [h] at e1
            cases e1
            exact e2
  cases inK : K.lookup a with
  | some o =>
    have h := kin a o inK
    rw [ob] at h
    cases h
    exact main (fun _ => none) (fun _ => .inl rfl) (.inr ⟨_, vs.toArray, _, inK, rfl, rfl, rfl, by rw [List.size_toArray, is.length]; exact hl, by simpa using vals⟩) (fun b u z => by cases (show (none : Option HO) = some u from z)) (fun b z => absurd rfl z) fun z => absurd rfl z
  | none =>
    refine main (fun b => if b = a then some (.frz { cls := .type "list", data := .seq vs.toArray } (.lst (ns.map V.int))) else none) (fun b => ?_) (.inl (.inr ⟨{ cls := .type "list", data := .seq vs.toArray }, if_pos rfl⟩)) (fun b u z => ?_) (fun b z => ?_) fun _ => inK
    · by_cases c : b = a
      · exact .inr ⟨_, _, if_pos c⟩
      · exact .inl (if_neg c)
    · by_cases c : b = a
      · have z' := (if_pos c).symm.trans z
        cases z'
        rw [c]
        exact ⟨ob, by rw [List.length_map]; exact hl, vs, _, vals, ob⟩
      · cases (if_neg c).symm.trans z
    · by_cases c : b = a
      · exact c
      · exact absurd (if_neg c) z
theorem walk_ofG {l : PySem.W.OpenLaw} {n k : Nat} {q : Program} {loose : List Str} {XP : (Str → Option Value) → Heap → Prop} {YP : World → Heap → Prop} {d : DefRec} {K : Params → PySem.W.Frag} {sp : World → Sp} {x : Str}
    (hn : l.most = some n) (small : n ≤ sizeLine) (plain : d.params.defaults = []) (room : Room k callerA)
    (hY : ∀ (w : World) (h : Heap), YP w h → (K w.params).In h)
    (F : ∀ (w : World) (mg : Str → Option Value) (fa : Addr) (h : Heap), (K w.params).In h → h.Ns mainGlobals mg → XP mg h → mg d.name = some (.ref fa) →
      ∃ fd : FuncData, (∀ (s : Shared) (u : Value), BindsTo s fd ⟨[u], []⟩ [(x, u)]) ∧
        ∀ base : Heap, (K w.params).In base → base.Ns mainGlobals mg → FnG l.prog w (K w.params) mg base CX0 k fa fd [x] (sp w))
    (want : ∀ (w : World) (H : Hp) (a : Addr) (ns : List Int), ns.length ≤ n → Only H → SqL (K w.params) H a (ns.map V.int) → sp w [.ref a] H (fun v _ => v = .bl true) fun _ _ _ => False) :
    PySem.W.WalkO q loose XP YP l.row.toRowW d [] (fun f vs => PySem.call f vs) := by
  refine Att.attach_call hn plain fun w s₀ st mg mb fa o pm cd doc a vs ns G Y ho hd hcd named ob is hlen nog => ?_
  have kin := hY w _ Y
  obtain ⟨fd, bd, run⟩ := F w mg fa _ kin G.T.g G.X named
  exact law_callG kin G.T.g G.T.b G.T.builtins G.T.nolimit nog ob is (Nat.le_trans hlen small) room run bd fun H only seq => want w H a ns hlen only seq
end RB

namespace RB
open PySem PySem.Spec PyProof.Rows L2
/-! ### entries as text -/
def Sm (i : Int) : Prop := i.natAbs < 2 ^ 128
def SmE (es : List E) : Prop := ∀ e ∈ es, Sm e.1 ∧ Sm e.2.1 ∧ Sm e.2.2
theorem Sm.log {i : Int} (h : Sm i) : i.natAbs.log2 < 128 := by
  by_cases c : i.natAbs = 0
  · rw [c]; decide
  · exact (Nat.log2_lt c).mpr h
theorem Sm.of {i : Int} (h1 : -(2 ^ 127) ≤ i) (h2 : i ≤ 2 ^ 127) : Sm i := by
  unfold Sm
  omega
theorem sm_show {i : Int} (h : Sm i) : (PyData.int i).showable = true := by
  have := h.log
  simp only [PyData.showable, decide_eq_true_eq]
  omega
theorem sm_short {i : Int} (h : Sm i) : (PyData.int i).leavesShort 129 = true := by
  have e := int_text_length_le (k := 128) (by decide) h.log
  simp only [PyData.leavesShort, decide_eq_true_eq]
  show (Str.ofString (toString i)).length ≤ 129
  rw [PySem.ofString_length]
  exact e
theorem smE_show {e : E} (h : Sm e.1 ∧ Sm e.2.1 ∧ Sm e.2.2) : (dE e).showable = true ∧ (dE e).leavesShort 129 = true ∧ (dE e).hasDict = false ∧ (dE e).depth ≤ 2 ∧ (dE e).bulk ≤ 3 := by
  obtain ⟨h1, h2, h3⟩ := h
  have a1 := sm_show h1
  have a2 := sm_show h2
  have a3 := sm_show h3
  have b1 := sm_short h1
  have b2 := sm_short h2
  have b3 := sm_short h3
  unfold dE
  refine ⟨?_, ?_, ?_, ?_, ?_⟩
  · simp only [PyData.showable, PyData.showableAll, Bool.and_true, Bool.and_eq_true] at a1 a2 a3 ⊢
    exact ⟨a1, a2, a3⟩
  · simp only [PyData.leavesShort, PyData.leavesShortAll, Bool.and_true, Bool.and_eq_true] at b1 b2 b3 ⊢
    exact ⟨b1, b2, b3⟩
  · rfl
  · simp [PyData.depth, PyData.depthAll]
  · simp [PyData.bulk, PyData.bulkAll]
theorem es_show : ∀ {es : List E}, SmE es → PyData.showableAll (es.map dE) = true ∧ PyData.leavesShortAll 129 (es.map dE) = true ∧ PyData.hasDictAll (es.map dE) = false ∧ PyData.depthAll (es.map dE) ≤ 2 ∧ PyData.bulkAll (es.map dE) ≤ 4 * es.length
  | [], _ => ⟨rfl, rfl, rfl, by simp [PyData.depthAll], by simp [PyData.bulkAll]⟩
  | e :: es, h => by
    obtain ⟨a1, a2, a3, a4, a5⟩ := smE_show (h e List.mem_cons_self)
    obtain ⟨b1, b2, b3, b4, b5⟩ := es_show (es := es) fun x hx => h x (List.mem_cons_of_mem _ hx)
    simp only [List.map_cons, PyData.showableAll, PyData.leavesShortAll, PyData.hasDictAll, PyData.depthAll, PyData.bulkAll, List.length_cons, a1, a2, a3, b1, b2, b3, Bool.and_true, Bool.or_false, true_and]
    omega
theorem dEs_show {es : List E} (h : SmE es) (hl : es.length ≤ 10000) : (dEs es).showable = true ∧ (dEs es).hasDict = false ∧ (dEs es).depth ≤ 8 ∧ (dEs es).shown.length ≤ sizeLine := by
  obtain ⟨b1, b2, b3, b4, b5⟩ := es_show h
  have hs := PyData.shown_le_bulk 129 (by decide) (dEs es) (by unfold dEs; simp only [PyData.leavesShort]; exact b2)
  have hb : (dEs es).bulk = PyData.bulkAll (es.map dE) := by unfold dEs; simp only [PyData.bulk]
  refine ⟨by unfold dEs; simp only [PyData.showable]; exact b1, by unfold dEs; simp only [PyData.hasDict]; exact b3, by unfold dEs; simp only [PyData.depth]; omega, ?_⟩
  rw [sizeLine_eq]
  omega
/-! ### how great the numbers of kept entries are -/
theorem offM_le {q : Nat} (h : q < 2 ^ 63) : offM q ≤ 63 * q := by
  have key : ∀ l : List Nat, (∀ k ∈ l, k ≤ 63) → (l.map err).sum ≤ 63 * (l.map fun k => 2 ^ k).sum := by
    intro l
    induction l with
    | nil => intro _; exact Nat.le_refl _
    | cons k t ih =>
      intro hk
      have h1 := ih fun x hx => hk x (List.mem_cons_of_mem _ hx)
      have h2 := hk k List.mem_cons_self
      have h3 : err k ≤ 63 * 2 ^ k := by
        unfold err
        exact Nat.le_trans (Nat.div_le_self _ _) (Nat.mul_le_mul_right _ h2)
      rw [List.map_cons, List.sum_cons, List.map_cons, List.sum_cons, Nat.mul_add]
      omega
  have hd := key (digitsM q) fun k hk => by
    have h1 := digitsM_le hk
    have h2 : 2 ^ k < 2 ^ 63 := Nat.lt_of_le_of_lt h1 h
    have := (Nat.pow_lt_pow_iff_right (by decide : 1 < 2)).mp h2
    omega
  rw [digitsM_sum] at hd
  exact hd
theorem kept_sm {s : CupM} {R : Row} (g : Good s R) (hc : s.count < 2 ^ 63) (hU : ∀ r, R.lt r < R.lt (r + 1) → -1000000000000000000 ≤ r ∧ r ≤ 1000000000000000000) : SmE s.kept := by
  obtain ⟨ws, h, _⟩ := g.kept
  have hn := g.n
  have hoff := offM_le (Nat.lt_of_le_of_lt (Nat.div_le_self s.count s.keep) hc)
  have hdiv := Nat.div_le_self s.count s.keep
  intro e he
  have t := h.tru e he
  have h1 := hU _ t.here
  have h2 := t.least
  have h3 := t.most
  have h4 := h.ok.hi (e.1 + 1)
  have h5 := h.ok.lo e.1
  obtain ⟨i, hi, rfl⟩ := List.getElem_of_mem he
  obtain ⟨l1, l2⟩ := h.lin.at_ (List.getElem?_eq_getElem hi)
  have nn := h.lin.nonneg
  have n1 : 0 ≤ (ws.take (i + 1)).sum := by
    have := sum_take_le nn (Nat.zero_le (i + 1))
    simpa using this
  have n2 : (ws.take i).sum ≤ ws.sum := by
    have := sum_take_le nn (show i ≤ i + ws.length by omega)
    rwa [List.take_of_length_le (by omega : ws.length ≤ i + ws.length)] at this
  have hs := h.sum
  exact ⟨Sm.of (by omega) (by omega), Sm.of (by omega) (by omega), Sm.of (by omega) (by omega)⟩
theorem kept_len {s : CupM} {R : Row} (g : Good s R) (hc : s.count < 2 ^ 63) : s.kept.length ≤ 10000 := by
  obtain ⟨ws, _, hl⟩ := g.kept
  have hq : s.count / s.keep < 2 ^ 63 := Nat.lt_of_le_of_lt (Nat.div_le_self _ _) hc
  have hd : (digitsM (s.count / s.keep)).length ≤ 63 := digits_lt hq
  have h1 := Nat.mul_le_mul g.k64 hd
  have h2 := Nat.mod_lt s.count g.k1
  have h3 := g.k64
  omega
/-! ### what the law has kept by -/
def HeldV (H : Hp) (ph : Addr) (xs : List V) (hs : List (List E)) : Prop := xs.length = hs.length ∧ ∀ (i : Nat) (es : List E), hs[i]? = some es → ∃ t pk, xs[i]? = some (.ref t) ∧ H t = some (.tup [.ref pk, .str (dEs es).shown]) ∧ Ents H pk es ∧ pk ≠ ph ∧ SmE es ∧ es.length ≤ 10000
theorem HeldV.imm {H H' : Hp} {ph : Addr} {xs : List V} {hs : List (List E)} (h : HeldV H ph xs hs) (i : ∀ a ys, H a = some (.lst ys) → a ≠ ph → H' a = some (.lst ys)) (i2 : ∀ a ys, H a = some (.tup ys) → H' a = some (.tup ys)) : HeldV H' ph xs hs := by
  refine ⟨h.1, fun j es he => ?_⟩
  obtain ⟨t, pk, h1, h2, ⟨ys, y1, y2⟩, h4, h5, h6⟩ := h.2 j es he
  exact ⟨t, pk, h1, i2 _ _ h2, ⟨ys, i _ _ y1 h4, y2.imm i2⟩, h4, h5, h6⟩
theorem HeldV.nil {H : Hp} {ph : Addr} : HeldV H ph [] [] := ⟨rfl, fun i e h => by simp at h⟩
theorem HeldV.snoc {H : Hp} {ph t pk : Addr} {xs : List V} {hs : List (List E)} {es : List E} (h : HeldV H ph xs hs) (h1 : H t = some (.tup [.ref pk, .str (dEs es).shown])) (h2 : Ents H pk es) (h3 : pk ≠ ph) (h4 : SmE es) (h5 : es.length ≤ 10000) : HeldV H ph (xs ++ [.ref t]) (hs ++ [es]) := by
  refine ⟨by simp [h.1], fun i e' hd => ?_⟩
  by_cases hi : i < hs.length
  · rw [List.getElem?_append_left hi] at hd
    obtain ⟨t', pk', t1, t2⟩ := h.2 i e' hd
    exact ⟨t', pk', by rw [List.getElem?_append_left (by rw [h.1]; exact hi)]; exact t1, t2⟩
  · rw [List.getElem?_append_right (by omega)] at hd
    have e0 : i - hs.length = 0 := by
      by_cases e : i - hs.length = 0
      · exact e
      · rw [List.getElem?_eq_none (by simp; omega)] at hd
        cases hd
    rw [e0] at hd
    have : es = e' := by simpa using hd
    subst this
    refine ⟨t, pk, ?_, h1, h2, h3, h4, h5⟩
    rw [List.getElem?_append_right (by rw [h.1]; omega), h.1, e0]
    rfl
theorem call_reprK {X : Cx} {K : PySem.W.Frag} (hK : X.K = K) (quiet : X.A.guards = some []) (hu : X.A.units + 64 < cLine) : CallR X (.builtin "repr") (rRepr K) := by
  subst hK
  exact call_reprG quiet hu
theorem CupAt.frL {C : Addr} {H H' : Hp} {p d z : Addr} {s : CupM} {xs : List V} (h : CupAt C H p d s) (f : FrB H H' z) (hz : ¬ Own H p d z) (hl : H z = some (.lst xs)) : CupAt C H' p d s := by
  obtain ⟨dx, l, hp, hL, b3, hd, eb, hE⟩ := h
  refine ⟨dx, l, f _ _ hp (ne_of hp hl (by intro z; cases z)), f _ _ hL fun e => hz (.inl ⟨_, _, _, by rw [← e]; exact hp⟩), b3, f _ _ hd (ne_of hd hl (by intro z; cases z)), eb, fun x hx => ?_⟩
  obtain ⟨ys, y1, y2⟩ := hE x hx
  exact ⟨ys, f _ _ y1 (fun e => hz (.inr ⟨_, _, hd, List.mem_map.mpr ⟨x, hx, by rw [← e]; rfl⟩⟩)), y2.imm fun a cs ha => f _ _ ha (ne_of ha hl (by intro z; cases z))⟩
theorem Three.frL {C : Addr} {H H' : Hp} {pc z : Addr} {A : Nat → Addr × Addr} {S : Nat → CupM} {xs : List V} (h : Three C H pc A S) (f : FrB H H' z) (hf : Free3 H A z) (hz : H z = some (.lst xs)) (hn : pc ≠ z) : Three C H' pc A S ∧ Free3 H' A z := by
  refine ⟨⟨f _ _ h.l hn, fun i hi => (h.c i hi).frL f (hf i hi) hz, h.np, h.nd⟩, fun i hi g => hf i hi ?_⟩
  obtain ⟨dx, l, hp, hL, b3, hd, eb, hE⟩ := h.c i hi
  rcases own_of (f _ _ hp (ne_of hp hz (by intro z; cases z))) (f _ _ hd (ne_of hd hz (by intro z; cases z))) g with rfl | ⟨x, hx, rfl⟩
  · exact .inl ⟨_, _, _, hp⟩
  · exact .inr ⟨_, _, hd, List.mem_map.mpr ⟨x, hx, rfl⟩⟩
/-- all that k06 keeps over its deeds -/
structure Scn (C : Addr) (H : Hp) (pc pr pd ph : Addr) (A : Nat → Addr × Addr) (B : Nat → Addr) (S : Nat → CupM) (D : Nat → DD) (xs : List V) (ds : List Deed) (hx : List V) (hs : List (List E)) : Prop where
  t : Three C H pc A S
  r : Rows3 H pr B D
  ap : Apart A B
  d : H pd = some (.lst xs)
  v : DeedsV H xs ds
  h : H ph = some (.lst hx)
  hv : HeldV H ph hx hs
  fr : Free3 H A ph
  n : pc ≠ ph ∧ pr ≠ ph ∧ pd ≠ ph
section
variable {C : Addr} {H H' : Hp} {pc pr pd ph : Addr} {A : Nat → Addr × Addr} {B : Nat → Addr} {S S' : Nat → CupM} {D D' : Nat → DD} {xs hx hx' : List V} {ds : List Deed} {hs hs' : List (List E)}
theorem Scn.same (w : Scn C H pc pr pd ph A B S D xs ds hx hs) (s : Same H H') : Scn C H' pc pr pd ph A B S D xs ds hx hs :=
  ⟨w.t.same s, w.r.same s, w.ap, s _ _ w.d, w.v.imm fun b cs hb => s b _ hb, s _ _ w.h, w.hv.imm (fun a ys h _ => s _ _ h) (fun a ys h => s _ _ h), (w.t.frSame s).free w.fr w.h, w.n⟩
theorem Scn.done (w : Scn C H pc pr pd ph A B S D xs ds hx hs) (T : Three C H' pc A S') (f : Fr3 H H' A) : Scn C H' pc pr pd ph A B S' D xs ds hx hs :=
  ⟨T, w.r.fr3 w.t f w.ap, w.ap, (w.t.imm f).1 _ _ w.d, w.v.imm (w.t.imm f).2, (w.t.imm f).1 _ _ w.h, w.hv.imm (fun a ys h _ => (w.t.imm f).1 _ _ h) (w.t.imm f).2, f.free w.fr w.h, w.n⟩
theorem Scn.come (w : Scn C H pc pr pd ph A B S D xs ds hx hs) {i : Nat} (hi : i < 3) (R : Rows3 H' pr B D') (f : FrB H H' (B i)) : Scn C H' pc pr pd ph A B S D' xs ds hx hs := by
  have im := f.imm (w.r.d i hi)
  refine ⟨w.t.frB w.r hi f w.ap, R, w.ap, im.1 _ _ w.d, w.v.imm im.2, im.1 _ _ w.h, w.hv.imm (fun a ys h _ => im.1 _ _ h) im.2, fun j hj g => w.fr j hj ?_, w.n⟩
  obtain ⟨dx, l, hp, hL, b3, hd, eb, hE⟩ := w.t.c j hj
  rcases own_of (f _ _ hp (ne_of hp (w.r.d i hi) (by intro z; cases z))) (f _ _ hd fun z => w.ap i j hi hj z.symm) g with rfl | ⟨x, hx, rfl⟩
  · exact .inl ⟨_, _, _, hp⟩
  · exact .inr ⟨_, _, hd, List.mem_map.mpr ⟨x, hx, rfl⟩⟩
theorem Scn.hold (w : Scn C H pc pr pd ph A B S D xs ds hx hs) (f : FrB H H' ph) (h : H' ph = some (.lst hx')) (hv : HeldV H' ph hx' hs') : Scn C H' pc pr pd ph A B S D xs ds hx' hs' := by
  obtain ⟨T, F⟩ := w.t.frL f w.fr w.h w.n.1
  refine ⟨T, ⟨f _ _ w.r.l w.n.2.1, fun i hi => f _ _ (w.r.d i hi) (ne_of (w.r.d i hi) w.h (by intro z; cases z)), w.r.nb⟩, w.ap, f _ _ w.d w.n.2.2, w.v.imm fun a cs ha => f _ _ ha (ne_of ha w.h (by intro z; cases z)), h, hv, F, w.n⟩
end
end RB

namespace RB
open PySem PySem.Spec PyProof.Rows L2 HotX L2H
/-! ### a list's walk ends while an exception is handled -/
theorem list_end_hot {prog : Program} {w : World} {A : Around} {E : Value → Shared → Prop} {st : Shared} {it l x1 : Addr} {i : Nat} {items : Array Value} {G : Option Value → Shared → Prop} (hot : HotAt A x1 st.heap) (ne : x1 ≠ it)
    (at_ : st.heap.IsListIter it l i) (is : st.heap.IsList l items) (over : items[i]? = none)
    (fin : ∀ h', (∀ b o, b ≠ it → st.heap.get? b = some o → h'.get? b = some o) → G none { st with heap := h' }) : wpAny (model prog w) A (pyNext (.ref it)) G E st := by
  obtain ⟨oi, gi, ci, di⟩ := id at_
  obtain ⟨ol, gl, _, nl, dl⟩ := is
  obtain ⟨hh, o1, vs1, h1, d1, c1⟩ := hot
  unfold pyNext
  refine wpAny_bind (wpAny_attempt (wpAny_callSpecial?_slot (name := Str.ofString "__next__") at_.typeIs slot_listiter_next
    (wpAny_call_entry slot_listiter_next at_.typeIs entry_listiter_next ?_ (args_listiter_next _))))
  show wpAny _ _ (field (.ref it) 0 >>= _) _ _ st
  refine wpAny_bind (wpAny_field gi di (x := .ref l) rfl ?_)
  show wpAny _ _ (if (Value.ref l == Value.none) = true then _ else _) _ _ st
  rw [if_neg (show ¬ ((Value.ref l == Value.none) = true) from Bool.false_ne_true)]
  show wpAny _ _ (field (.ref it) 1 >>= _) _ _ st
  refine wpAny_bind (wpAny_field gi di (x := .int i 0) rfl ?_)
  show wpAny _ _ (seqItems? (.ref l) >>= _) _ _ st
  refine wpAny_bind (wpAny_seqItems gl dl ?_)
  simp only [Int.toNat_natCast, over]
  refine wpAny_bind (wpAny_rule (wpAny_bind (wpAny_setField gi di (by simp) ?_)))
  show wpAny _ _ (newExc (.type "StopIteration") [] >>= _) _ _ _
  refine wpAny_bind ?_
  simp only [newExc, newTuple]
  refine wpAny_bind (wpAny_newObj_type ?_ (by size_fits))
  refine wpAny_bind (m := firstArgMember _ _) (wpAny_of_eq (a := Value.none) (by first | rfl | (simp only [firstArgMember]; rfl)) ?_)
  refine wpAny_newObj_type ?_ (by size_fits)
  have g1 := (Heap.get?_update_other _ (Obj.mapFields (·.setIfInBounds 0 Value.none)) (a := it) (b := x1) ne.symm).trans h1
  refine raiseNew_hot ⟨hh, o1, vs1, Heap.get?_push_of_some _ (Heap.get?_push_of_some _ g1), d1, c1⟩ (Nat.ne_of_lt (Heap.lt_size (Heap.get?_push_of_some _ g1))) (Heap.get?_push_size _ rfl) rfl (by first | (simp; done) | (simp; omega) | (simp only [Array.size_append]; simp; omega)) ?_
  refine wpAny_bind (wpAny_isInstance (T := "StopIteration") (b := true) ⟨_, Heap.get?_update_self _ (Heap.get?_push_size _ rfl) rfl, rfl⟩ isSubtype_stop ?_)
  refine wpAny_pure (fin _ fun b o n e => ?_)
  have e1 := (Heap.get?_update_other _ (Obj.mapFields (·.setIfInBounds 0 Value.none)) (a := it) (b := b) n.symm).trans e
  rw [Heap.get?_update_other _ _ (Nat.ne_of_gt (Heap.lt_size (Heap.get?_push_of_some _ e1)))]
  exact Heap.get?_push_of_some _ (Heap.get?_push_of_some _ e1)
/-- [elt for tg in xs if ..] in a suite that handles an error: xs a list -/
theorem pe_lcH {X : Cx} {elt tg iter : Expr} {ifs : List Expr} {scope : Scope} {own : List (Str × Nat)} {pos : Pos} {tl : TE} {g : TG} {tt : TT} {te : TE} (hot : HotC X) (nd : X.N.Nodup) (src : PE X iter tl) (ok : BlkOk X.N X.env.scope scope own)
    (hg : ∀ (s : Shared) (H : Hp) (C : Addr) (cl : List (Str × Addr)) (fp : List Addr), PG (X.blk s H scope (compEnvC scope cl C X.env) fp) tg g) (ht : ∀ (s : Shared) (H : Hp) (C : Addr) (cl : List (Str × Addr)) (fp : List Addr), PTs (X.blk s H scope (compEnvC scope cl C X.env) fp) ifs tt)
    (he : ∀ (s : Shared) (H : Hp) (C : Addr) (cl : List (Str × Addr)) (fp : List Addr), PE (X.blk s H scope (compEnvC scope cl C X.env) fp) elt te) (hs : ∀ x, foldedSetIterable iter X.env x = pure x := by intro _; rfl) :
    PE X (.ListComp elt [⟨tg, iter, ifs, 0⟩] scope pos) (tLc (iList X.K tl) g tt te (own.map (·.2))) := by
  refine ⟨fun pn st σ H Q I want => ?_⟩
  rw [eval_ListComp]
  have frees : ∀ y ∈ scope.names, y.2 = .free → ∃ c, X.env.cells.lookup y.1 = some c := fun y hy e => (ok.free y hy e).elim (fun k => I.ok.has _ (.inl k)) fun k => I.ok.has _ (.inr k)
  refine wpAny_comprehension_free (use := none) rfl hs (closure_ok frees) ok.kind (fun y hy e => by rw [ok.uniq y hy, e]) (thn (src.run pn st σ H _ I want) fun v1 s1 ⟨x1, H1, I1, r1, q1⟩ => ?_)
  obtain ⟨a, ex, ⟨xs, hq⟩, q⟩ := q1
  subst ex
  cases r1
  obtain ⟨its, rv, isl, hz⟩ := I1.list hq
  refine wpAny_pyIter_list isl.isList ?_
  suffices key : ∀ (it : Addr) (s2 : Shared), Inv X pn σ H1 s2 → s2.heap.IsListIter it a 0 → FpOk X pn H1 it → it < s2.heap.objs.size → wpAny (model X.prog X.w) X.A (newList [])
      (fun acc s₃ => wpAny (model X.prog X.w) X.A (newFunctionEnv scope X.env.globals (cloFrom X.env.cells scope.names []) [] X.env.qual none Value.none (some X.env))
        (fun cenv s₄ => codeAny (model X.prog X.w) X.A (.compStart (.ListComp elt [⟨tg, iter, ifs, 0⟩] scope pos) 0 (.ref it) acc { cenv with scope := relabel scope X.env })
          (compPost (model X.prog X.w) X.A X.xe none (EP X pn σ Q) acc cenv.locals) s₄) X.xe s₃) X.xe s2 by
    refine key s1.heap.objs.size _ (I1.kept (t' := s1.toks) fun b o e => Heap.get?_push_of_some _ e) ⟨_, Heap.get?_push_size _ rfl, rfl, rfl⟩ (I1.fpOk (Nat.le_refl _) (I1.hok.fresh (Nat.le_refl _))) (by rw [Heap.size_push]; exact Nat.lt_succ_self _)
  intro it s2 I2 st2 f2 lt2
  refine wpAny_newObj_type (newEnv_comp ?_) (by show 0 ≤ sizeLine; decide)
  generalize eD : s2.heap.objs.size = D
  have freeD : H1 D = none := I2.hok.fresh (Nat.le_of_eq eD)
  obtain ⟨W, ⟨m0, w0⟩, turn⟩ := q D freeD
  generalize e3 : ({ s2 with heap := s2.heap.push { cls := .type "list", data := .seq ([] : List Value).toArray } } : Shared) = s3
  have h3 : s3.heap = s2.heap.push { cls := .type "list", data := .seq ([] : List Value).toArray } := by rw [← e3]
  have I3 : Inv X pn σ (upd H1 D (.lst [])) s3 := by
    rw [← e3]
    refine I2.laid (t' := s2.toks) (fun b o e => Heap.get?_push_of_some _ e) (Nat.le_of_eq eD) ⟨Nat.zero_le _, [], 0, .nil, ?_⟩
    rw [← eD]
    exact Heap.get?_push_size _ rfl
  have nit : it ≠ D := by rw [← eD]; exact Nat.ne_of_lt lt2
  have f3 : FpOk X pn (upd H1 D (.lst [])) it ∧ it < s3.heap.objs.size := ⟨⟨by rw [upd_ne nit]; exact f2.1, f2.2⟩, by rw [h3, Heap.size_push]; exact Nat.lt_succ_of_lt lt2⟩
  have st3 : s3.heap.IsListIter it a 0 := st2.at fun o e => by rw [h3]; exact Heap.get?_push_of_some _ e
  have I4 := block_start (fp := [it]) I3 ok nd fun b hb => by rw [List.mem_singleton.mp hb]; exact f3
  have pg := hg s3 (upd H1 D (.lst [])) s3.heap.objs.size (cellsFrom (s3.heap.objs.size + 1) scope.names (cloFrom X.env.cells scope.names [])) [it]
  have pt := ht s3 (upd H1 D (.lst [])) s3.heap.objs.size (cellsFrom (s3.heap.objs.size + 1) scope.names (cloFrom X.env.cells scope.names [])) [it]
  have pe := he s3 (upd H1 D (.lst [])) s3.heap.objs.size (cellsFrom (s3.heap.objs.size + 1) scope.names (cloFrom X.env.cells scope.names [])) [it]
  -- the error that is handled stands there, not tracked
  obtain ⟨p, ⟨hh, v1, d1, c1⟩, hp⟩ := hot
  obtain ⟨px, pf, pl, pfs, _⟩ := I3.pin p (List.mem_append_left _ hp)
  have npi : p.1 ≠ it := f3.1.2.2.2.2.2 p (List.mem_append_left _ hp)
  show codeAny _ _ (.compStart (.ListComp elt [⟨tg, iter, ifs, 0⟩] scope pos) 0 (.ref it) (.ref D) (compEnvC scope (cellsFrom (s3.heap.objs.size + 1) scope.names (cloFrom X.env.cells scope.names [])) s3.heap.objs.size X.env)) (compPost (model X.prog X.w) X.A X.xe none (EP X pn σ Q) (.ref D) s3.heap.objs.size) { s3 with heap := pushCells (s3.heap.push { cls := .type "dict", data := .dict #[] }) scope.names }
  generalize ece : compEnvC scope (cellsFrom (s3.heap.objs.size + 1) scope.names (cloFrom X.env.cells scope.names [])) s3.heap.objs.size X.env = ce at I4 pg pt pe ⊢
  have cL : ce.locals = s3.heap.objs.size := by subst ece; rfl
  generalize eH3 : upd H1 D (.lst []) = H3 at I3 I4 pg pt pe w0 f3 pf
  generalize e4 : ({ s3 with heap := pushCells (s3.heap.push { cls := .type "dict", data := .dict #[] }) scope.names } : Shared) = s4 at I4 ⊢
  have st4 : s4.heap.IsListIter it a 0 := st3.at fun o e => by rw [← e4]; exact pushCells_keeps _ _ _ _ (Heap.get?_push_of_some _ e)
  have stat : ∀ {σ' : L2.St} {H' : Hp} {s' : Shared}, Inv (X.blk s3 H3 scope ce [it]) [] σ' H' s' → H' it = none → FpOk (X.blk s3 H3 scope ce [it]) [] H' it := fun {σ' H' s'} J hn =>
    ⟨hn, (J.ok.exf it (by simp)).1, J.ok.exfs it (by simp), .inl (by simp), fun x c e => (J.ok.exf it (by simp)).2 x c e, fun p hp => absurd (show p ∈ ([] : List (Addr × Obj)) ++ [] from hp) (by simp)⟩
  have loop : codeAny (model X.prog X.w) X.A (.compLoop (.ListComp elt [⟨tg, iter, ifs, 0⟩] scope pos) 0 (.ref it) (.ref D) ce) (compPost (model X.prog X.w) X.A X.xe none (EP X pn σ Q) (.ref D) s3.heap.objs.size) s4 := by
    refine compLoop_any (fun n s' => ∃ i H', Inv (X.blk s3 H3 scope ce [it]) [] (wipe σ (own.map (·.2))) H' s' ∧ s'.heap.IsListIter it a i ∧ H' it = none ∧ W i n H') ?_ m0 ⟨0, H3, I4, st4, f3.1.1, w0⟩
    rintro n s5 ⟨i, H5, I5, st5, n5, w5⟩
    have fp5 := stat I5 n5
    rcases turn i n H5 w5 with ⟨⟨xs5, hq5, hx5⟩, qq⟩ | ⟨⟨xs5, x5, hq5, hx5⟩, Nx, hNx, step⟩
    · obtain ⟨its5, rv5, p5, _⟩ := I5.list hq5
      obtain ⟨f0, f1, f2', f3', f4, f5⟩ := fp5
      obtain ⟨sl, live⟩ := I5.base.any px pf (fun z => npi (by simpa using z))
      have ended := list_end_hot (prog := X.prog) (w := X.w) (A := X.A) (E := fun _ _ => False) (st := s5) (G := fun r s6 => r = none ∧ Inv (X.blk s3 H3 scope ce [it]) [] (wipe σ (own.map (·.2))) H5 s6) ⟨hh, _, v1, live, d1, c1⟩ npi st5 p5.isList (by have := rv5.length; simp; omega) fun h' eb => ⟨rfl, I5.turned (t' := s5.toks) (fun b o hb e => eb b o hb e) f0 f1 f3' f4 f5⟩
      refine thnF ended fun r s6 ⟨hr, I6⟩ => ?_
      subst hr
      have I7 : Inv X pn σ H5 s6 := I3.call' (ch := [it]) I6.os I6.base I6.hok I6.bare fun b hb => by
        rw [List.mem_singleton.mp hb]
        exact ⟨f3.1.2.2.2.1, f3.1.2.1, f3.1.2.2.2.2.1, f3.1.2.2.2.2.2⟩
      have nC : H5 s3.heap.objs.size = none := by
        have z : H5 ce.locals = none := I6.free
        rw [cL] at z
        exact z
      obtain ⟨mm, hn, _⟩ := I6.loc
      have hn : s6.heap.Ns ce.locals mm := hn
      rw [cL] at hn
      obtain ⟨g0, g1, g2, g3, g4, g5⟩ := I3.fpOk (H' := H5) (Nat.le_refl _) nC
      exact ⟨mm, hn, fun h'' sb => ⟨.ref D, H5, I7.turned (t' := s6.toks) (fun b o hb e => (sb.2 b hb).trans e) g0 g1 g3 g4 g5, rfl, qq⟩⟩
    · obtain ⟨its5, rv5, p5, hz5⟩ := I5.list hq5
      obtain ⟨u5, hu5, ru5⟩ := rv5.get hx5
      obtain ⟨f0, f1, f2', f3', f4, f5⟩ := id fp5
      refine wpAny_pyNext_list_item st5 p5.isList (x := u5) (by simpa using hu5) fun h6 st6 sb => ?_
      have I6 : Inv (X.blk s3 H3 scope ce [it]) [] (wipe σ (own.map (·.2))) H5 { s5 with heap := h6 } := I5.turned (t' := s5.toks) (fun b o hb e => (sb.2 b hb).trans e) f0 f1 f3' f4 f5
      obtain ⟨o6, g6, c6, d6⟩ := id st6
      refine go_of (s := { s5 with heap := h6 }) g6 c6 d6 (by decide) ?_
      have y6 : (Itl X.K a).yld i H5 x5 H5 := ⟨rfl, fun ys hy => by rw [I5.list_inj hy hq5]; exact hx5⟩
      have I6' := I6.pinned (fp := [it]) (fun b hb => by rw [List.mem_singleton.mp hb]; exact stat I6 n5) (fun b hb => by rw [List.mem_singleton.mp hb]; exact ⟨o6, g6, fun v z => by rw [d6] at z; cases z⟩)
      refine thnF (pg.run _ _ _ H5 x5 u5 _ I6' ru5 (step x5 H5 y6)) fun _ s8 ⟨σ8, H8, I8, hw8, q8⟩ => ?_
      refine thnF (pt.run _ s8 σ8 H8 _ I8 q8) fun b s9 ⟨H9, I9, q9⟩ => ?_
      have fin : ∀ {s' : Shared} {H' : Hp}, Inv (X.blk s3 H3 scope ce [it]) ([] ++ pinsAt [it] h6) σ8 H' s' → Nx H' → ∃ m, m < n ∧ ∃ i H', Inv (X.blk s3 H3 scope ce [it]) [] (wipe σ (own.map (·.2))) H' s' ∧ s'.heap.IsListIter it a i ∧ H' it = none ∧ W i m H' := fun {s' H'} J nx => by
        obtain ⟨m', hm, w'⟩ := hNx H' nx
        have kept := J.pin (it, o6) (List.mem_append_right _ (List.mem_append_right _ (mem_pinsAt (by simp) g6)))
        have hl : (wipe σ (own.map (·.2))).length = σ8.length := by rw [← hw8, wipe_length]
        refine ⟨m', hm, i + 1, H', (J.unpinned (pins := [])).weak hl (fun j v e => ?_), ⟨o6, kept.1, c6, d6⟩, kept.2.1, w'⟩
        rw [← hw8] at e
        exact (wipe_some e).1
      cases b with
      | false =>
        simp only [Bool.false_eq_true, if_false] at q9 ⊢
        exact fin I9 q9
      | true =>
        simp only [if_true] at q9 ⊢
        refine thnF (pe.run _ s9 σ8 H9 _ I9 q9) fun z s10 ⟨yv, H10, I10, r10, acc, hD10, hz10, nx⟩ => ?_
        exact app_ok (X := X.blk s3 H3 scope ce [it]) I10 hD10 hz10 r10 fun s11 I11 => fin I11 nx
  exact codeAny_compStart_list loop (wpAny_pyIter_listiter st4 loop)
end RB

namespace RB
open PySem PySem.Spec PyProof.Rows L2 HotX L2H
/-! ### raising defs whose errors carry no context; the law's look at such an error -/
theorem okXN {P : Program} {w : World} {K : PySem.W.Frag} {mg : Str → Option Value} {base : Heap} {x qual : Str} {st : Stmt} {f : Addr} {fd : FuncData} {N ps : List Str} {k : Nat} {sp : Sp} (F : Fun K x qual st f fd) (S : FnScope N ps (defScope st)) (len : ∀ vs H Q E, sp vs H Q E → vs.length = ps.length)
    (body : ∀ (cdv : Value) (A : Around) (outer : List Env) (s : Shared) (H : Hp) (vs : List V) (Q : VK) (E : XK), Room k (A.deeper (envOfC qual (defScope st) s.heap.objs.size f cdv)) → sp vs H Q E →
      ∃ t, PSs (cxOf (L2N.CX P w) P w K mg base N qual (defScope st) f cdv A outer s H E) (defBody st) t ∧ t { nx := fun _ H' => Q .non H', rt := Q } (start N vs) H) : FnOk P w K mg base (L2N.CX P w) (k + 1) f fd ps sp := by
  obtain ⟨oc, od, kV, doc, pm, an, cdv, ct, osl, rfl, look, cod⟩ := F.ex
  exact fn_of look cod S len fun A outer s H vs Q E hr h => body cdv A outer s H vs Q E hr h
theorem passN {X : Cx} : Passes (L2N.CX X.prog X.w) X E0 := fun _ _ _ _ _ _ _ h => by
  obtain ⟨_, _, _, _, _, _, _, _, _, _, _, _, z⟩ := h
  exact z.elim
/-- isinstance(e, c), e an error that is pinned -/
theorem call_isP {X : Cx} {a D : Addr} {oe : Obj} (hp : (a, oe) ∈ X.pn) (T : L2.ExcC X.K D) (hz : Zc (.ref D) none oe) (hf : ∃ vs, oe.data = .fields vs) : CallR X (.builtin "isinstance") (rIsE X.K D a) := by
  intro pins s σ H xs us Q I r ⟨c, cv, b, ex, hcv, e, q⟩
  subst ex
  obtain ⟨u1, u2, eu, ra, rc⟩ := r.two
  subst eu
  cases ra
  have ec := hcv _ rc
  subst ec
  have hget := (I.pin (a, oe) (List.mem_append_left _ hp)).1
  obtain ⟨vs, hv⟩ := hf
  have J : PySem.W.InstAt s.heap a oe D none := by
    obtain ⟨oc, od, oda, osl⟩ := oe
    obtain ⟨h1, h2⟩ := hz
    dsimp only at h1 h2 hv
    subst h1 h2 hv
    exact ⟨hget, rfl, rfl, trivial⟩
  exact PySem.W.kia_one (PySem.W.handS_kitx_exc T.hg T.hk T.hs T.hd T.ha T.hn T.ht T.hm) I.kIn J e (fun z => nomatch z) fun tk => ⟨.bl b, H, I.kept (t' := tk) fun _ _ z => z, rfl, q⟩
/-- a def of one parameter that is called with the handled error, an own class at D: it answers True -/
structure FnE (P : Program) (w : World) (K : PySem.W.Frag) (mg : Str → Option Value) (base : Heap) (k : Nat) (f : Addr) (fd : FuncData) (y : Str) (D : Addr) : Prop where
  go : ∀ (A : Around) (env0 : List Env) (st : Shared) (h0 : Hp) (ar : Args) (G : VK) (p : Addr × Obj), RoomH k A → Hot1 A p → PinOk env0 h0 st p → Zc (.ref D) none p.2 → (∃ vs, p.2.data = .fields vs) → Env0 P w K mg base A env0 st h0 → BindsTo st fd ar [(y, .ref p.1)] →
    RetV (.bl true) h0 G → codeAny (model P w) A (.call (.ref f) ar) (CR CX0 env0 P w h0 st G E0) st
theorem fnE_of {P : Program} {w : World} {K : PySem.W.Frag} {mg : Str → Option Value} {base : Heap} {x qual y : Str} {st : Stmt} {f D : Addr} {fd : FuncData} {N : List Str} {k : Nat} (F : Fun K x qual st f fd) (S : FnScope N [y] (defScope st))
    (body : ∀ (cdv : Value) (A : Around) (env0 : List Env) (s0 : Shared) (h0 : Hp) (G : VK) (p : Addr × Obj), Hot1 A p → RoomH k (A.deeper (envOfC qual (defScope st) s0.heap.objs.size f cdv)) → Zc (.ref D) none p.2 → (∃ vs, p.2.data = .fields vs) → RetV (.bl true) h0 G →
      ∃ t, PSs (cxH CX0 P w K mg base N qual (defScope st) f cdv A env0 s0 h0 E0 p) (defBody st) t ∧ t { nx := fun _ H' => G .non H', rt := G } (L2.start N [.ref p.1]) h0) : FnE P w K mg base (k + 1) f fd y D := by
  obtain ⟨oc, od, kV, doc, pm, an, cdv, ct, osl, rfl, look, cod⟩ := F.ex
  refine ⟨fun A env0 s0 h0 ar G p room hot pin zc fl at0 bd want => ?_⟩
  have kin : K.In s0.heap := at0.mod.kin.keeps fun b o e => (at0.bs b o e).1
  have free : s0.heap.NoLimit := at0.mod.nolimit.keeps fun b o e => (at0.bs b o e).1
  have bd' : BindsTo s0 _ ar (List.zip [y] [Value.ref p.1]) := bd
  have rv : Vals [V.ref p.1] [Value.ref p.1] := .cons rfl .nil
  have kinds : ∀ z ∈ List.zip [y] [Value.ref p.1], (defScope st).names.lookup z.1 = some .local ∨ ((defScope st).names.lookup z.1 = some .cell ∧ ((cellsFrom (s0.heap.objs.size + 1) (defScope st).names []).lookup z.1).isSome = true) := by
    rintro ⟨n, v⟩ hy
    cases S.par n (List.of_mem_zip hy).1 with
    | inl q => exact .inl q
    | inr q => exact .inr ⟨q, PySem.W.cellsFrom_some _ _ _ (.inl q)⟩
  refine codeAny_call_function room.depth (kin _ _ look) rfl S.co S.gen rfl (PySem.W.codeRec_of kin cod) (bd' _ _ _ _ ?_)
  refine wpAny_newFunctionEnv_cells S.kind kinds fun e1 he s1 x => ?_
  subst he
  refine ⟨free.keeps x.toInCall.keep, codeAny_func ?_⟩
  obtain ⟨t, run, q0⟩ := body cdv A env0 s0 h0 G p hot (room.deeper _) zc fl want
  have J : Inv (cxH CX0 P w K mg base N qual (defScope st) f cdv A env0 s0 h0 E0 p) [] (L2.start N [.ref p.1]) h0 s1 := inv_startH S pin at0 rfl rv x
  refine wpAny_mono (run.run [] s1 (L2.start N [.ref p.1]) h0 _ J q0) (fun fl s' z => ?_) fun e s' z => z
  have close : ∀ {σ' : L2.St} {H' : Hp} {v : V} {u : Value}, Inv (cxH CX0 P w K mg base N qual (defScope st) f cdv A env0 s0 h0 E0 p) [] σ' H' s' → RelV v u → G v H' → CE env0 P w h0 s0 G u s' :=
    fun {σ' H' v u} J' rv' q' => ⟨v, H', J'.os, J'.bare, J'.base, J'.hok, rv', q'⟩
  cases fl with
  | ret u => obtain ⟨v, σ', H', J', rv', q'⟩ := z; exact close J' rv' q'
  | next => obtain ⟨σ', H', J', q'⟩ := z; exact close (v := V.non) (u := Value.none) J' rfl q'
  | brk => obtain ⟨_, _, _, q'⟩ := z; exact q'.elim
  | cont => obtain ⟨_, _, _, q'⟩ := z; exact q'.elim
/-- f(e) in the suite, e the error that it handles -/
theorem pe_callE {X : Cx} {a D : Addr} {oe : Obj} {k : Nat} {f : Addr} {fd : FuncData} {x y : Str} {p pos : Pos} {e : Expr} {t : TE} (F : FnE X.prog X.w X.K X.mg X.base k f fd y D) (room : RoomH k X.A) (hp : (a, oe) ∈ X.pn) (hh : X.A.handled = some (.ref a)) (zn : L2N.Zn (.ref D) none oe) (fl : ∃ vs, oe.data = .fields vs)
    (g : Gl X x) (m : X.mg x = some (.ref f)) (kp : PySem.W.keepIn X.K (.ref f) = true) (bd : Binds X.K fd [y] []) (ha : PE X e t) (nd : (x == ("__debug__" : Str)) = false := by decide) (h1 : starEach [e] X.env = (false, eval e X.env) :: starEach [] X.env := by rfl) (h2 : (backTo pos (starEach [] X.env)).any (·.1) = false := by rfl) :
    PE X (.Call (.Name x p) [e] [] pos) (fun σ H Q => t σ H fun v H1 => [v].headD .non = .ref a ∧ RetV (.bl true) H1 Q ∧ [v].length = 1) := by
  refine ⟨fun pn s σ H Q I hq => wpAny_Call_Name_kw (ld_glob I g m ?_ nd)⟩
  have args : PA X [e] (tCons t tNil) := pa_cons ha pa_nil h1
  refine PySem.W.callWith_K (h₀ := X.base) I.ok.mod.kin kp (thn (args.run pos pn s σ H (fun vs H1 => vs.headD .non = .ref a ∧ RetV (.bl true) H1 Q ∧ vs.length = 1) I ?_) fun us s1 ⟨vs, H1, I1, rv, q⟩ => ⟨I1.kIn, ?_⟩) h1 h2
  · exact hq
  obtain ⟨e1, q, e2⟩ := q
  obtain ⟨v, rfl⟩ := List.length_eq_one_iff.mp e2
  have e3 : v = .ref a := e1
  subst e3
  obtain ⟨u, rfl, ru⟩ := vals1 rv
  cases ru
  have bd' := bd s1 [Value.ref a] I1.kIn rfl
  have P1 := I1.pin (a, oe) (List.mem_append_left _ hp)
  have pin : PinOk X.stack H1 s1 (a, oe) := ⟨P1.1, P1.2.1, fun hm => (List.mem_cons.mp (I1.stkSub a hm)).elim P1.2.2.1 P1.2.2.2.1, P1.2.2.2.2⟩
  obtain ⟨vs, hv⟩ := fl
  show wpAny _ _ (call (.ref f) [.ref a]) _ _ _
  refine wpAny_call (codeAny_mono (F.go X.A X.stack s1 H1 ⟨[.ref a], []⟩ Q (a, oe) room ⟨hh, vs, hv, zn.2.2 vs hv⟩ pin zn.zc ⟨vs, hv⟩ I1.env0 bd' q) fun r s' z => ?_)
  cases r with
  | error e => exact z.elim
  | ok fl =>
    cases fl with
    | ret u => exact I1.after z
    | next => exact z.elim
    | brk => exact z.elim
    | cont => exact z.elim
/-- C(..) whose __init__ may raise, in a try -/
def tMakeS (C : Addr) (sp : Sp) (E : L2.St → XK) (t : TA) : TE := fun σ H Q => t σ H fun vs H1 => ∀ x dx, H1 x = none → H1 dx = none → dx ≠ x → sp (.ref x :: (vs ++ [])) (upd (upd H1 dx (.own x)) x (.ins C dx [])) (fun v H2 => v = .non ∧ Q (.ref x) H2) (E σ)
theorem r_makeS {C : Addr} {sp : Sp} {E : L2.St → XK} {t : TA} {σ : L2.St} {H : Hp} {Q : VK} (q : t σ H fun vs H1 => ∀ x dx, H1 x = none → H1 dx = none → dx ≠ x → sp (.ref x :: (vs ++ [])) (upd (upd H1 dx (.own x)) x (.ins C dx [])) (fun v H2 => v = .non ∧ Q (.ref x) H2) (E σ)) : tMakeS C sp E t σ H Q := q
theorem pe_makeS {X : Cx} {CX : CXT} {C f : Addr} {fd : FuncData} {k : Nat} {ps : List Str} {sp : Sp} {E : L2.St → XK} {x : Str} {p pos : Pos} {e : Expr} {es : List Expr} {t : TA} (M : Mk X.K C f) (F : FnOk X.prog X.w X.K X.mg X.base CX k f fd ps sp) (room : Room (k + 1) X.A) (g : Gl X x) (m : X.mg x = some (.ref C)) (bd : Binds X.K fd ps [])
    (hx : ∀ σ, PassesAt CX X σ (E σ)) (ar : PA X (e :: es) t) (nd : (x == ("__debug__" : Str)) = false := by decide) (h1 : starEach (e :: es) X.env = (false, eval e X.env) :: starEach es X.env := by rfl) (h2 : (backTo pos (starEach es X.env)).any (·.1) = false := by rfl) :
    PE X (.Call (.Name x p) (e :: es) [] pos) (tMakeS C sp E t) := by
  refine ⟨fun pn s σ H Q I hq => wpAny_Call_Name_kw (ld_glob I g m ?_ nd)⟩
  refine PySem.W.callWith_K (h₀ := X.base) I.ok.mod.kin M.kp (thn (ar.run pos pn s σ H _ I hq) fun us s1 ⟨vs, H1, I1, rv, q⟩ => ⟨I1.kIn, ?_⟩) h1 h2
  have want := q (s1.heap.objs.size + 1) s1.heap.objs.size (I1.hok.fresh (Nat.le_succ _)) (I1.hok.fresh (Nat.le_refl _)) (Nat.ne_of_lt (Nat.lt_succ_self _))
  rw [List.append_nil] at want
  have J := Inv.made (C := C) I1
  have rv2 : Vals (V.ref (s1.heap.objs.size + 1) :: vs) (Value.ref (s1.heap.objs.size + 1) :: us) := .cons rfl rv
  have len : (Value.ref (s1.heap.objs.size + 1) :: us).length = ps.length := by
    have z := rv2.length
    rw [F.len _ _ _ _ want] at z
    exact z.symm
  have bd' := bd _ (Value.ref (s1.heap.objs.size + 1) :: us) J.kIn (by rw [List.append_nil]; exact len)
  rw [List.append_nil] at bd'
  show wpAny _ _ (call (.ref C) us) _ _ _
  refine wpAny_call (make_map (f := f) I1.kIn M.makes M.init (beq_iff_eq.mp M.fn) (codeAny_mono (F.run _ X.stack _ _ ⟨Value.ref (s1.heap.objs.size + 1) :: us, []⟩ (Value.ref (s1.heap.objs.size + 1) :: us) _ _ (E σ) (room.make C us []) (J.env0.make C us []) bd' rv2 want) fun r s' z => ?_))
  cases r with
  | error e => exact hx σ pn _ _ e s' J z
  | ok fl =>
    cases fl with
    | ret u =>
      obtain ⟨v, H', I3, rw3, ev, q3⟩ := J.after z
      subst ev
      exact ⟨rw3, ⟨V.ref (s1.heap.objs.size + 1), H', I3, rfl, q3⟩⟩
    | next => exact z.elim
    | brk => exact z.elim
    | cont => exact z.elim
end RB

namespace RB
open PySem PySem.Spec PyProof.Rows L2 HotX L2H
/-! ### try with one or several clauses 'except C as e' -/
/-- what the clauses wish of an error; the slot i is e's -/
def wSome (K : PySem.W.Frag) (i : Nat) (D : Ends) : List (Addr × (Addr → Value → Option Addr → TS)) → WX
  | [] => fun _ _ _ _ => False
  | q :: l => fun cls d σ H => ∃ b, PySem.W.exmOne K cls (.ref q.1) = some b ∧
      (b = true → ∀ a, H a = none → q.2 a cls d { nx := fun σ1 H1 => D.nx (σ1.set i none) H1, rt := D.rt, bk := fun σ1 H1 => D.bk (σ1.set i none) H1, ct := fun σ1 H1 => D.ct (σ1.set i none) H1 } (σ.set i (some (.ref a))) H) ∧
      (b = false → wSome K i D l cls d σ H)
def tTry (K : PySem.W.Frag) (i : Nat) (tb : WX → TS) (l : List (Addr × (Addr → Value → Option Addr → TS))) : TS := fun D σ H => tb (wSome K i D l) D σ H
theorem r_try {K : PySem.W.Frag} {i : Nat} {tb : WX → TS} {l : List (Addr × (Addr → Value → Option Addr → TS))} {D : Ends} {σ : L2.St} {H : Hp} (q : tb (wSome K i D l) D σ H) : tTry K i tb l D σ H := q
theorem w_hit {K : PySem.W.Frag} {i : Nat} {D : Ends} {C : Addr} {ts : Addr → Value → Option Addr → TS} {l : List (Addr × (Addr → Value → Option Addr → TS))} {cls : Value} {d : Option Addr} {σ : L2.St} {H : Hp} (e : PySem.W.exmOne K cls (.ref C) = some true)
    (q : ∀ a, H a = none → ts a cls d { nx := fun σ1 H1 => D.nx (σ1.set i none) H1, rt := D.rt, bk := fun σ1 H1 => D.bk (σ1.set i none) H1, ct := fun σ1 H1 => D.ct (σ1.set i none) H1 } (σ.set i (some (.ref a))) H) : wSome K i D ((C, ts) :: l) cls d σ H := ⟨true, e, fun _ => q, fun z => Bool.noConfusion z⟩
theorem w_miss {K : PySem.W.Frag} {i : Nat} {D : Ends} {C : Addr} {ts : Addr → Value → Option Addr → TS} {l : List (Addr × (Addr → Value → Option Addr → TS))} {cls : Value} {d : Option Addr} {σ : L2.St} {H : Hp} (e : PySem.W.exmOne K cls (.ref C) = some false)
    (q : wSome K i D l cls d σ H) : wSome K i D ((C, ts) :: l) cls d σ H := ⟨false, e, fun z => Bool.noConfusion z, fun _ => q⟩
/-- the clauses of a try, all with one name -/
inductive Clauses (X : Cx) (n : Str) : List ExceptHandler → List (Addr × (Addr → Value → Option Addr → TS)) → Prop
  | nil : Clauses X n [] []
  | cons {x : Str} {C : Addr} {ts : Addr → Value → Option Addr → TS} {st : Stmt} {more : List Stmt} {np pos1 : Pos} {hds : List ExceptHandler} {l : List (Addr × (Addr → Value → Option Addr → TS))} (gl : Gl X x) (gm : X.mg x = some (.ref C)) (hdb : (x == ("__debug__" : Str)) = false)
      (su : ∀ (a : Addr) (oe : Obj) (cls : Value) (d : Option Addr) (pn : List (Addr × Obj)), L2N.Zn cls d oe → (∃ vs, oe.data = .fields vs) → PSs (X.suite a ((a, oe) :: pn)) (st :: more) (ts a cls d)) (r : Clauses X n hds l) :
      Clauses X n (.ExceptHandler (some (.Name x np)) (some n) (st :: more) pos1 :: hds) ((C, ts) :: l)
theorem ps_tryM {X : Cx} {n : Str} {i : Nat} {body : List Stmt} {hd0 : ExceptHandler} {hds : List ExceptHandler} {l : List (Addr × (Addr → Value → Option Addr → TS))} {pos : Pos} {tb : WX → TS} (hs : X.stack = X.env :: X.outer) (hf : X.env.frame = some X.env.locals)
    (hN : X.N.Nodup) (hi : X.N[i]? = some n) (hln : X.env.kindOf n = some .local)
    (hb : ∀ (W : WX) (pn : List (Addr × Obj)) (xe : Value → Shared → Prop), L2N.Takes (X.tr pn xe) W → PassesOwn (model X.prog X.w) X.A X.env xe → PSs (X.tr pn xe) body (tb W)) (hh : Clauses X n (hd0 :: hds) l) :
    PS X (.Try body (hd0 :: hds) [] [] pos) (tTry X.K i tb l) := by
  refine ⟨fun pins s σ H D I want => ?_⟩
  have frame : X.A.frames = some (X.env :: X.outer) := I.ok.frames.trans (congrArg some hs)
  refine wpAny_Try_except (wpAny_mono ((hb (wSome X.K i D l) (X.pn ++ pins) _ (fun u s1 caught => ?_) PassesOwn.looking).run [] s σ H D (I.toTry _) want) (fun fl s1 ended => ?_) (fun _ _ z => z))
  · obtain ⟨a, G, sI, pins1, σ1, H1, cls, d, rfl, J1, below, upto, air, free, oss, bare, w⟩ := caught
    have J := J1.ofTry I.ok
    have air2 : Sky G (X.env :: X.outer) a (L2N.Zn cls d) X.env.locals s1.heap := hs ▸ air
    refine L2N.Sky.land L2N.Zn.steady frame hf air2 fun h2 fl2 up2 => ?_
    have J2 : Inv X pins σ1 H1 { s1 with heap := h2 } := J.landed below fl2.1 (upto.trans up2) oss bare
    obtain ⟨o2, vs2, at2, z2, d2⟩ := fl2.there
    have apart : a ∉ frs (X.env :: X.outer) := fun hm => by
      obtain ⟨_, o, at_, nf⟩ := fl2.2.2.1.mem hm
      exact nf _ ((Option.some.inj (at_.symm.trans at2)).symm ▸ d2)
    have notL : a ≠ X.env.locals := fun z => apart (List.mem_filterMap.mpr ⟨X.env, List.mem_cons_self, by rw [hf, z]⟩)
    have notF : a ∉ X.fs := fun hm => let ⟨e, he, q⟩ := List.mem_filterMap.mp hm; apart (List.mem_filterMap.mpr ⟨e, List.mem_cons_of_mem _ he, q⟩)
    have S2 := J2.suite at2 d2 free notL notF
    suffices all : ∀ {hs' : List ExceptHandler} {l' : List (Addr × (Addr → Value → Option Addr → TS))}, Clauses X n hs' l' → wSome X.K i D l' cls d σ1 H1 → wpAny (model X.prog X.w) X.A (handleBy (.ref a) X.env hs') (SP X pins D) X.xe { s1 with heap := h2 } from all hh w
    intro hs' l' cl
    induction cl with
    | nil => exact False.elim
    | @cons x C ts st more np pos1 hds2 l2 gl gm hdb su r ih =>
      rintro ⟨b, known, yes, no⟩
      refine wpAny_handleBy_cons (codeAny_handlers_test ?_) (by intro q; cases q)
      have kind : PySem.W.Looks (model X.prog X.w) h2 (typeOf (.ref a)) cls := fun A Q E s k q => wpAny_typeOf_ref (k _ _ at2) (by rw [z2.1]; exact q)
      refine ld_glob (X := X.suite a ((a, o2) :: (X.pn ++ pins))) S2 gl gm ((PySem.W.exm_one (M := model X.prog X.w) J2.kIn kind known).here ?_) hdb
      cases b with
      | false => exact ih (no rfl)
      | true =>
        refine codeAny_handlers_suite_as (HandSPX.lands_againZ fl2 fun h3 fl3 up3 => ?_)
        have J3 : Inv X pins σ1 H1 { s1 with heap := h3 } := J.landed below fl3.1 ((upto.trans up2).trans up3) oss bare
        obtain ⟨o3, vs3, at3, z3, d3⟩ := fl3.there
        refine store_ok (X := X.suite a ((a, o3) :: (X.pn ++ pins))) (v := .ref a) (J3.suite at3 d3 free notL notF) hN hi (.inl hln) rfl (fun s4 S4 => ?_) (.inr hln)
        refine wpAny_mono ((su a o3 cls d (X.pn ++ pins) z3 ⟨_, d3⟩).run [] s4 _ H1 _ S4 (yes rfl a free)) (fun f s5 q5 => ?_) (fun _ _ z => False.elim z)
        have unbind : ∀ {σ5 : L2.St} {H5 : Hp} {Q : Shared → Prop}, Inv (X.suite a ((a, o3) :: (X.pn ++ pins))) [] σ5 H5 s5 → (∀ s6, Inv X pins (σ5.set i none) H5 s6 → Q s6) →
            wpAny (model X.prog X.w) X.A (do bindName X.env n .none; unbindBehindTheSuite X.env n pos1) (fun _ s6 => Q s6) X.xe s5 := fun S5 k => gone_ok (S5.unsuite I.ok) hN hi hln k
        cases f with
        | ret u => obtain ⟨v5, σ5, H5, S5, r5, k5⟩ := q5; exact unbind S5 fun s6 J6 => ⟨_, _, _, J6, r5, k5⟩
        | next => obtain ⟨σ5, H5, S5, k5⟩ := q5; exact unbind S5 fun s6 J6 => ⟨_, _, J6, k5⟩
        | brk => obtain ⟨σ5, H5, S5, k5⟩ := q5; exact unbind S5 fun s6 J6 => ⟨_, _, J6, k5⟩
        | cont => obtain ⟨σ5, H5, S5, k5⟩ := q5; exact unbind S5 fun s6 J6 => ⟨_, _, J6, k5⟩
  · cases fl with
    | ret u => obtain ⟨v, σ1, H1, J1, r, k⟩ := ended; exact ⟨v, σ1, H1, J1.ofTry I.ok, r, k⟩
    | next => obtain ⟨σ1, H1, J1, k⟩ := ended; exact wpAny_execs_nil ⟨σ1, H1, J1.ofTry I.ok, k⟩
    | brk => obtain ⟨σ1, H1, J1, k⟩ := ended; exact ⟨σ1, H1, J1.ofTry I.ok, k⟩
    | cont => obtain ⟨σ1, H1, J1, k⟩ := ended; exact ⟨σ1, H1, J1.ofTry I.ok, k⟩
/-! ### the law's look at an error, for all classes that it may have -/
structure CalE (P : Program) (w : World) (K : PySem.W.Frag) (mg : Str → Option Value) (base : Heap) (k : Nat) (x y : Str) (good : Addr → Prop) : Prop where
  ex : ∃ (f : Addr) (fd : FuncData), (∀ D, good D → FnE P w K mg base k f fd y D) ∧ mg x = some (.ref f) ∧ PySem.W.keepIn K (.ref f) = true ∧ Binds K fd [y] []
def tLook (a : Addr) (cls : Value) (d : Option Addr) (good : Addr → Prop) (t : TE) : TE := fun σ H Q => t σ H fun v H1 => v = .ref a ∧ (∃ D, cls = .ref D ∧ d = none ∧ good D) ∧ RetV (.bl true) H1 Q
theorem r_look {a : Addr} {cls : Value} {d : Option Addr} {good : Addr → Prop} {t : TE} {σ : L2.St} {H : Hp} {Q : VK} (q : t σ H fun v H1 => v = .ref a ∧ (∃ D, cls = .ref D ∧ d = none ∧ good D) ∧ RetV (.bl true) H1 Q) : tLook a cls d good t σ H Q := q
/-- f(e) in a clause's suite -/
theorem pe_look {X : Cx} {a : Addr} {oe : Obj} {cls : Value} {d : Option Addr} {good : Addr → Prop} {k : Nat} {x y : Str} {p pos : Pos} {e : Expr} {t : TE} (F : CalE X.prog X.w X.K X.mg X.base k x y good) (room : RoomH k X.A) (hp : (a, oe) ∈ X.pn) (hh : X.A.handled = some (.ref a)) (zn : L2N.Zn cls d oe) (fl : ∃ vs, oe.data = .fields vs)
    (g : Gl X x) (ha : PE X e t) (nd : (x == ("__debug__" : Str)) = false := by decide) (h1 : starEach [e] X.env = (false, eval e X.env) :: starEach [] X.env := by rfl) (h2 : (backTo pos (starEach [] X.env)).any (·.1) = false := by rfl) :
    PE X (.Call (.Name x p) [e] [] pos) (tLook a cls d good t) := by
  obtain ⟨f, fd, go, m, kp, bd⟩ := F.ex
  refine ⟨fun pn s σ H Q I hq => wpAny_Call_Name_kw (ld_glob I g m ?_ nd)⟩
  have args : PA X [e] (tCons t tNil) := pa_cons ha pa_nil h1
  refine PySem.W.callWith_K (h₀ := X.base) I.ok.mod.kin kp (thn (args.run pos pn s σ H (fun vs H1 => match vs with | [v] => v = .ref a ∧ (∃ D, cls = .ref D ∧ d = none ∧ good D) ∧ RetV (.bl true) H1 Q | _ => False) I hq) fun us s1 ⟨vs, H1, I1, rv, q⟩ => ⟨I1.kIn, ?_⟩) h1 h2
  obtain ⟨v, rfl⟩ : ∃ v, vs = [v] := by
    rcases vs with _ | ⟨v, _ | ⟨v2, vs⟩⟩
    · exact q.elim
    · exact ⟨v, rfl⟩
    · exact q.elim
  obtain ⟨rfl, ⟨D, rfl, rfl, gD⟩, q⟩ := q
  obtain ⟨u, rfl, ru⟩ := vals1 rv
  cases ru
  have at1 := I1.pin (a, oe) (List.mem_append_left _ hp)
  have pin : PinOk X.stack H1 s1 (a, oe) := ⟨at1.1, at1.2.1, fun hm => (List.mem_cons.mp (I1.stkSub a hm)).elim at1.2.2.1 at1.2.2.2.1, at1.2.2.2.2⟩
  obtain ⟨vs, hv⟩ := fl
  show wpAny _ _ (call (.ref f) [.ref a]) _ _ _
  refine wpAny_call (codeAny_mono ((go D gD).go X.A X.stack s1 H1 ⟨[.ref a], []⟩ Q (a, oe) room ⟨hh, vs, hv, zn.2.2 vs hv⟩ pin zn.zc ⟨vs, hv⟩ I1.env0 (bd s1 [Value.ref a] I1.kIn rfl) q) fun r s2 z => ?_)
  cases r with
  | error e => exact z.elim
  | ok fl =>
    cases fl with
    | ret u => exact I1.after z
    | next => exact z.elim
    | brk => exact z.elim
    | cont => exact z.elim
/-! ### a method that may raise, in a try -/
def tMethX (C : Addr) (m : Str) (sp : Sp) (E : L2.St → XK) (ta : TE) (t : TA) : TE := fun σ H Q => ta σ H fun x H1 => ∃ a dx fs, x = .ref a ∧ H1 a = some (.ins C dx fs) ∧ fs.lookup m = none ∧ t σ H1 fun vs H2 => sp (x :: vs) H2 Q (E σ)
theorem r_methX {C : Addr} {m : Str} {sp : Sp} {E : L2.St → XK} {ta : TE} {t : TA} {σ : L2.St} {H : Hp} {Q : VK} (q : ta σ H fun x H1 => ∃ a dx fs, x = .ref a ∧ H1 a = some (.ins C dx fs) ∧ fs.lookup m = none ∧ t σ H1 fun vs H2 => sp (x :: vs) H2 Q (E σ)) : tMethX C m sp E ta t σ H Q := q
theorem pe_methX {X : Cx} {CX : CXT} {k : Nat} {f C : Addr} {fd : FuncData} {ps : List Str} {sp : Sp} {E : L2.St → XK} {m : Str} {pos apos : Pos} {e o : Expr} {es : List Expr} {ta : TE} {t : TA} {pl : Sem Bool} (ob : PE X o ta) (c : Cls X.K C) (M : Meth X.K C m f) (F : FnOk X.prog X.w X.K X.mg X.base CX k f fd ps sp)
    (room : Room k X.A) (bd : Binds X.K fd ps []) (lets : ∀ σ, PassesAt CX X σ (E σ)) (args : PA X (e :: es) t) (h1 : starEach (e :: es) X.env = (false, eval e X.env) :: starEach es X.env := by rfl) (h2 : (backTo pos (starEach es X.env)).any (·.1) = false := by rfl)
    (h3 : eval (.Call (.Attribute o m apos) (e :: es) [] pos) X.env = (do
      let ov ← eval o X.env
      standAt apos.atName
      let (f, first) ← holding [ov] (getMethod ov m pl)
      callWith pos f first (backTo pos (starEach (e :: es) X.env)) (backToKw pos (keywordEach [] X.env))) := by rfl) :
    PE X (.Call (.Attribute o m apos) (e :: es) [] pos) (tMethX C m sp E ta t) := by
  refine ⟨fun pn s σ H Q I want => PySem.W.methodCall_KW (pl := pl) (thn (ob.run pn s σ H _ I want) fun u s1 ⟨x, H1, I1, rx, a, dx, fs, ex, ha, nl, q⟩ => ?_) h3⟩
  subst ex
  have eu : u = Value.ref a := rx
  subst eu
  refine getmeth_ok I1 ha c M nl (PySem.W.callWith_K (first := [.ref a]) (h₀ := X.base) I.ok.mod.kin M.kp (thn (args.run pos pn s1 σ H1 _ I1 q) fun us s2 ⟨vs, H2, I2, rv, q2⟩ => ⟨I2.kIn, ?_⟩) h1 h2)
  exact run_fnS (us := .ref a :: us) (vs := .ref a :: vs) F room bd (lets σ) I2 (.cons rfl rv) q2
/-- room for a call in a clause's suite -/
theorem roomS {j k : Nat} {A : Around} {a : Option Value} (r : Room k A) (h : j ≤ k) : RoomH j (A.mark a) := ⟨(r.mono h).dp, (r.mono h).un⟩
end RB

namespace RB
open PySem PySem.Spec PyProof.Rows L2
/-- [rows[i][k] for k in rows[i] if ..]: the row is found in a list -/
theorem row_compR {td : TE} {g : TG} {tt : TT} {te : TE} {vs : List Nat} {σ : L2.St} {H : Hp} {Q : VK} {d : Addr} {D : DD} (hd : H d = some (.dK (D.map kvI))) (hn : D.length ≤ 1000000) (t : Int × Int → Bool)
    (htd : ∀ (H' : Hp) (R : VK), (∀ b o, b ≠ d → H b = some o → H' b = some o) → R (.ref d) H' → td σ H' R)
    (hs : ∀ (i : Nat) (hi : i < D.length) (od : Obj) (H1 : Hp), H1 d = some (.frz od (.dK (D.map kvI))) → (∀ b o, b ≠ d → H b = some o → H1 b = some o) → ∀ (R : V → Hp → Prop) (S : Hp → Prop), (t D[i] = true → R (.int D[i].2) H1) → (t D[i] = false → S H1) → g (.int D[i].1) (wipe σ vs) H1 fun σ2 H2 => wipe σ2 vs = wipe σ vs ∧ tt σ2 H2 fun b H3 => if b = true then te σ2 H3 R else S H3)
    (q : ∀ p H', H p = none → Same H H' → H' p = some (.lst (((D.filter t).map (·.2)).map V.int)) → Q (.ref p) H') : tLockE (tLc (iKeys td) g tt te vs) σ H Q := by
  refine r_lockE ⟨d, _, hd, trivial, fun od => ?_⟩
  have hdF : (upd H d (.frz od (.dK (D.map kvI)))) d = some (.frz od (.dK (D.map kvI))) := upd_same
  have keep : ∀ b o, b ≠ d → H b = some o → (upd H d (.frz od (.dK (D.map kvI)))) b = some o := fun b o n e => by rw [upd_ne n]; exact e
  refine r_lc (r_iKeys (htd _ _ keep ⟨d, od, rfl, .inl ⟨_, hdF, ?_⟩⟩))
  refine lc_gen (walk_keys (d := d) (o := od) (kvs := D.map kvI)) (fun i => t (D.getD i (0, 0))) (fun i v _ => v = .int (D.getD i (0, 0)).2) (by rw [List.length_map]; omega) hdF (fun H H' s h => s _ _ h)
      (fun _ _ _ _ _ h => h) (fun _ _ _ _ _ _ _ h => h) (fun i hi H1 s1 _ x H' y => ?_) (fun p1 ys H1 hp1 s1 h1 M => ?_)
  · obtain ⟨rfl, kk, vv, ex, rfl⟩ := y
    rw [List.length_map] at hi
    rw [List.getElem?_map, List.getElem?_eq_getElem hi] at ex
    have ex' : kk = Sum.inl D[i].1 := (congrArg Prod.fst (Option.some.inj ex)).symm
    subst ex'
    have e0 : D.getD i (0, 0) = D[i] := by rw [List.getD_eq_getElem?_getD, List.getElem?_eq_getElem hi]; rfl
    refine ⟨Same.refl _, fun R S hy hn' => ?_⟩
    rw [e0] at hy hn'
    exact hs i hi od _ (s1 _ _ hdF) (fun b o n e => s1 _ _ (keep b o n e)) R S (fun h => hy h _ _ (Same.refl _) rfl) fun h => hn' h _ (Same.refl _)
  · have em := M.ints
    rw [List.length_map, pick_filter] at em
    have sL := lock_same hd s1
    have npd1 : p1 ≠ d := fun e => by subst e; rw [hdF] at hp1; cases hp1
    refine ⟨s1 _ _ hdF, ?_⟩
    exact q p1 _ (upd_none hp1) sL (by rw [upd_ne npd1, h1, em])
/-- the row at a place of the list -/
theorem Rows3.atl {K : PySem.W.Frag} {H : Hp} {pr : Addr} {B : Nat → Addr} (h : H pr = some (.lst [.ref (B 0), .ref (B 1), .ref (B 2)])) {i : Nat} (hi : i < 3) {Q : VK} (q : Q (.ref (B i)) H) : rIxL K (.ref pr) (.int (i : Int)) H Q := by
  have e : ([.ref (B 0), .ref (B 1), .ref (B 2)] : List V)[i]? = some (.ref (B i)) := by
    match i, hi with
    | 0, _ => rfl
    | 1, _ => rfl
    | 2, _ => rfl
  exact lst_at h e q
end RB

namespace RB
open PySem PySem.Spec PyProof.Rows L2
/-! ### lists of lists of entries as text -/
structure ShOk (d : PyData) (n m : Nat) : Prop where
  show_ : d.showable = true
  short : d.leavesShort 129 = true
  dict : d.hasDict = false
  depth : d.depth ≤ n
  bulk : d.bulk ≤ m
theorem ShOk.mono {d : PyData} {n m n' m' : Nat} (h : ShOk d n m) (h1 : n ≤ n') (h2 : m ≤ m') : ShOk d n' m' := ⟨h.show_, h.short, h.dict, Nat.le_trans h.depth h1, Nat.le_trans h.bulk h2⟩
theorem ShOk.int {i : Int} (h : Sm i) : ShOk (.int i) 0 0 := ⟨sm_show h, sm_short h, rfl, by simp [PyData.depth], by simp [PyData.bulk]⟩
theorem ShOk.ents {es : List E} (h : SmE es) : ShOk (dEs es) 3 (4 * es.length) := by
  obtain ⟨b1, b2, b3, b4, b5⟩ := es_show h
  unfold dEs
  exact ⟨by simp only [PyData.showable]; exact b1, by simp only [PyData.leavesShort]; exact b2, by simp only [PyData.hasDict]; exact b3, by simp only [PyData.depth]; omega, by simp only [PyData.bulk]; exact b5⟩
theorem shAll {n m : Nat} : ∀ {ds : List PyData}, (∀ d ∈ ds, ShOk d n m) → PyData.showableAll ds = true ∧ PyData.leavesShortAll 129 ds = true ∧ PyData.hasDictAll ds = false ∧ PyData.depthAll ds ≤ n ∧ PyData.bulkAll ds ≤ (m + 1) * ds.length
  | [], _ => ⟨rfl, rfl, rfl, by simp [PyData.depthAll], by simp [PyData.bulkAll]⟩
  | d :: ds, h => by
    have a := h d List.mem_cons_self
    obtain ⟨b1, b2, b3, b4, b5⟩ := shAll (ds := ds) fun x hx => h x (List.mem_cons_of_mem _ hx)
    have a4 := a.depth
    have a5 := a.bulk
    simp only [PyData.showableAll, PyData.leavesShortAll, PyData.hasDictAll, PyData.depthAll, PyData.bulkAll, List.length_cons, a.show_, a.short, a.dict, b1, b2, b3, Bool.and_true, Bool.or_false, true_and]
    rw [Nat.mul_add]
    omega
theorem ShOk.list {n m : Nat} {ds : List PyData} (h : ∀ d ∈ ds, ShOk d n m) : ShOk (.list ds) (n + 1) ((m + 1) * ds.length) := by
  obtain ⟨b1, b2, b3, b4, b5⟩ := shAll h
  exact ⟨by simp only [PyData.showable]; exact b1, by simp only [PyData.leavesShort]; exact b2, by simp only [PyData.hasDict]; exact b3, by simp only [PyData.depth]; omega, by simp only [PyData.bulk]; exact b5⟩
theorem ShOk.shown {d : PyData} {n m : Nat} (h : ShOk d n m) (h1 : n ≤ 8) (h2 : m ≤ 120000) : d.showable = true ∧ d.hasDict = false ∧ d.depth ≤ 8 ∧ d.shown.length ≤ sizeLine := by
  have hs := PyData.shown_le_bulk 129 (by decide) d h.short
  have hb := h.bulk
  refine ⟨h.show_, h.dict, Nat.le_trans h.depth h1, ?_⟩
  rw [sizeLine_eq]
  omega
theorem kept_len4 {s : CupM} {R : Row} (g : Good s R) (hc : s.count < 2 ^ 63) : s.kept.length ≤ 4096 := by
  obtain ⟨ws, _, hl⟩ := g.kept
  have hq : s.count / s.keep < 2 ^ 63 := Nat.lt_of_le_of_lt (Nat.div_le_self _ _) hc
  have hd : (digitsM (s.count / s.keep)).length ≤ 63 := digits_lt hq
  have h1 := Nat.mul_le_mul g.k64 hd
  have h2 := Nat.mod_lt s.count g.k1
  have h3 := g.k64
  omega
/-- strings compared -/
theorem r_neS {x y : Str} {H : Hp} {Q : VK} (h : x ≠ y) (q : Q (.bl true) H) : rNe (.str x) (.str y) H Q := ⟨rfl, by rw [decide_eq_false fun z => h (V.str.inj z)]; exact q⟩
theorem r_neS0 {x : Str} {H : Hp} {Q : VK} (q : Q (.bl false) H) : rNe (.str x) (.str x) H Q := ⟨rfl, by rw [decide_eq_true rfl]; exact q⟩
theorem r_eqS {x : Str} {H : Hp} {Q : VK} (q : Q (.bl true) H) : rEq (.str x) (.str x) H Q := ⟨rfl, by rw [decide_eq_true rfl]; exact q⟩
end RB

namespace RB
open PySem PySem.Spec PyProof.Rows L2
/-! ### n cups, n rows; the lists that hold them are told apart from them -/
structure Cups (n : Nat) (C : Addr) (H : Hp) (A : Nat → Addr × Addr) (S : Nat → CupM) : Prop where
  c : ∀ i, i < n → CupAt C H (A i).1 (A i).2 (S i)
  np : ∀ i j, i < n → j < n → (A i).1 = (A j).1 → i = j
  nd : ∀ i j, i < n → j < n → (A i).2 = (A j).2 → i = j
def upL (n : Nat) (f : Nat → V) : List V := (List.range n).map f
theorem upL_len (n : Nat) (f : Nat → V) : (upL n f).length = n := by unfold upL; rw [List.length_map, List.length_range]
theorem upL_get {n i : Nat} (f : Nat → V) (h : i < n) : (upL n f)[i]? = some (f i) := by
  unfold upL
  rw [List.getElem?_map, List.getElem?_range h]
  rfl
theorem upL_succ (n : Nat) (f : Nat → V) : upL (n + 1) f = upL n f ++ [f n] := by
  unfold upL
  rw [List.range_succ, List.map_append]
  rfl
theorem up_at {K : PySem.W.Frag} {H : Hp} {p : Addr} {n : Nat} {f : Nat → V} {i : Nat} {j : Int} {Q : VK} (h : H p = some (.lst (upL n f))) (hi : i < n) (q : Q (f i) H) (hj : j = (i : Int) := by rfl) : rIxL K (.ref p) (.int j) H Q := by
  subst hj
  exact lst_at h (upL_get f hi) q
/-- the list of the cups -/
def cupL (n : Nat) (A : Nat → Addr × Addr) : List V := upL n fun i => .ref (A i).1
def rowL (n : Nat) (B : Nat → Addr) : List V := upL n fun i => .ref (B i)
structure FrN (n : Nat) (H H' : Hp) (A : Nat → Addr × Addr) : Prop where
  fr : ∀ b o, H b = some o → (∀ i, i < n → b ≠ (A i).1 ∧ b ≠ (A i).2) → H' b = some o
  al : ∀ b, H' b = none → H b = none
  ow : ∀ i, i < n → ∀ b, Own H' (A i).1 (A i).2 b → (∃ j, j < n ∧ Own H (A j).1 (A j).2 b) ∨ H b = none
theorem FrN.refl {n : Nat} (H : Hp) (A : Nat → Addr × Addr) : FrN n H H A := ⟨fun _ _ h _ => h, fun _ h => h, fun i hi _ h => .inl ⟨i, hi, h⟩⟩
theorem FrN.trans {n : Nat} {H H1 H2 : Hp} {A : Nat → Addr × Addr} (a : FrN n H H1 A) (b : FrN n H1 H2 A) : FrN n H H2 A := by
  refine ⟨fun x o h n => b.fr x o (a.fr x o h n) n, fun x h => a.al x (b.al x h), fun i hi x h => ?_⟩
  rcases b.ow i hi x h with ⟨j, hj, g⟩ | g
  · exact a.ow j hj x g
  · exact .inr (a.al x g)
def FreeN (n : Nat) (H : Hp) (A : Nat → Addr × Addr) (z : Addr) : Prop := ∀ i, i < n → ¬ Own H (A i).1 (A i).2 z
theorem FrN.free {n : Nat} {H H' : Hp} {A : Nat → Addr × Addr} {z : Addr} {o : HO} (f : FrN n H H' A) (h : FreeN n H A z) (hz : H z = some o) : FreeN n H' A z := fun i hi g => by
  rcases f.ow i hi z g with ⟨j, hj, k⟩ | k
  · exact h j hj k
  · rw [hz] at k; cases k
theorem Cups.frSame {n : Nat} {C : Addr} {H H' : Hp} {A : Nat → Addr × Addr} {S : Nat → CupM} (h : Cups n C H A S) (s : Same H H') : FrN n H H' A := by
  refine ⟨fun b o hb _ => s b o hb, fun b hb => s.free hb, fun i hi b hb => ?_⟩
  rcases (Ow.same (h.c i hi) s).2 b hb with g | g | g
  · exact .inl ⟨i, hi, g⟩
  · exact .inr g
  · exact g.elim
theorem Cups.frOf {n : Nat} {C : Addr} {H H' : Hp} {A : Nat → Addr × Addr} {S : Nat → CupM} {X : Addr → Prop} {i : Nat} (h : Cups n C H A S) (hi : i < n) (f : Fr H H' (A i).1 (A i).2) (o : Ow X H H' (A i).1 (A i).2) (hX : ∀ b, X b → ∃ j, j < n ∧ Own H (A j).1 (A j).2 b) : FrN n H H' A := by
  refine ⟨fun b o hb n => f b o hb (n i hi).1 (n i hi).2, o.1, fun j hj b hb => ?_⟩
  by_cases e : j = i
  · subst e
    rcases o.2 b hb with g | g | g
    · exact .inl ⟨j, hj, g⟩
    · exact .inr g
    · exact .inl (hX b g)
  · obtain ⟨dx, l, hp, hl, b3, hd, _⟩ := h.c j hj
    obtain ⟨⟨dx', fs', h1⟩, kvs, h2⟩ := (h.c i hi).kinds
    have hp' := f _ _ hp (fun z => e (h.np j i hj hi z)) (ne_of hp h2 (by intro z; cases z))
    have hd' := f _ _ hd (ne_of hd h1 (by intro z; cases z)) (fun z => e (h.nd j i hj hi z))
    refine .inl ⟨j, hj, ?_⟩
    rcases own_of hp' hd' hb with rfl | ⟨x, hx, rfl⟩
    · exact .inl ⟨_, _, _, hp⟩
    · exact .inr ⟨_, _, hd, List.mem_map.mpr ⟨x, hx, rfl⟩⟩
theorem Cups.imm {n : Nat} {C : Addr} {H H' : Hp} {A : Nat → Addr × Addr} {S : Nat → CupM} (h : Cups n C H A S) (f : FrN n H H' A) : Imm H H' := by
  have key : ∀ b o, H b = some o → (∀ dx fs, o ≠ .ins C dx fs) → (∀ kvs, o ≠ .dK kvs) → H' b = some o := fun b o hb n1 n2 => f.fr b o hb fun i hi => by
    obtain ⟨⟨dx, fs, h1⟩, kvs, h2⟩ := (h.c i hi).kinds
    exact ⟨fun e => by subst e; rw [h1] at hb; cases hb; exact n1 _ _ rfl, fun e => by subst e; rw [h2] at hb; cases hb; exact n2 _ rfl⟩
  exact ⟨fun a xs ha => key a _ ha (fun _ _ z => nomatch z) (fun _ z => nomatch z), fun a xs ha => key a _ ha (fun _ _ z => nomatch z) (fun _ z => nomatch z)⟩
theorem Cups.put {n : Nat} {C : Addr} {H H' : Hp} {A : Nat → Addr × Addr} {S : Nat → CupM} {s : CupM} {i : Nat} (h : Cups n C H A S) (hi : i < n) (f : Fr H H' (A i).1 (A i).2) (c : CupAt C H' (A i).1 (A i).2 s) : Cups n C H' A (RB.put S i s) := by
  have im := (h.c i hi).immF f
  refine ⟨fun j hj => ?_, h.np, h.nd⟩
  by_cases e : j = i
  · subst e
    rw [put_here]
    exact c
  · rw [put_else e]
    exact (h.c i hi).other (h.c j hj) f (fun z => e (h.np j i hj hi z)) (fun z => e (h.nd j i hj hi z))
theorem Cups.same {n : Nat} {C : Addr} {H H' : Hp} {A : Nat → Addr × Addr} {S : Nat → CupM} (h : Cups n C H A S) (s : Same H H') : Cups n C H' A S := ⟨fun i hi => (h.c i hi).same s, h.np, h.nd⟩
theorem Cups.mut {n : Nat} {C : Addr} {H : Hp} {z : Addr} {A : Nat → Addr × Addr} {S : Nat → CupM} {xs : List V} {o : HO} (h : Cups n C H A S) (hf : FreeN n H A z) (hz : H z = some (.lst xs)) : Cups n C (upd H z o) A S :=
  ⟨fun i hi => (h.c i hi).own (hf i hi) ⟨xs, hz⟩, h.np, h.nd⟩
theorem Cups.free {n : Nat} {C : Addr} {H : Hp} {z y : Addr} {A : Nat → Addr × Addr} {S : Nat → CupM} {xs : List V} {o : HO} (h : Cups n C H A S) (hf : FreeN n H A y) (hz : H z = some (.lst xs)) : FreeN n (upd H z o) A y := fun i hi g => by
  obtain ⟨⟨dx', fs', h1⟩, kvs, h2⟩ := (h.c i hi).kinds
  exact hf i hi ((own_upd (ne_of h1 hz (by intro z; cases z)) (ne_of h2 hz (by intro z; cases z))).mp g)
theorem Cups.fresh {n : Nat} {C : Addr} {H H' : Hp} {z : Addr} {A : Nat → Addr × Addr} {S : Nat → CupM} (h : Cups n C H A S) (e : Same H H') (hz : H z = none) : FreeN n H' A z := fun i hi => (h.c i hi).fresh e hz
structure RowsC (n : Nat) (H : Hp) (B : Nat → Addr) (D : Nat → DD) : Prop where
  d : ∀ i, i < n → H (B i) = some (.dK ((D i).map kvI))
  nb : ∀ i j, i < n → j < n → B i = B j → i = j
theorem RowsC.same {n : Nat} {H H' : Hp} {B : Nat → Addr} {D : Nat → DD} (h : RowsC n H B D) (s : Same H H') : RowsC n H' B D := ⟨fun i hi => s _ _ (h.d i hi), h.nb⟩
theorem RowsC.put {n : Nat} {H H' : Hp} {B : Nat → Addr} {D : Nat → DD} {i : Nat} {E : DD} (h : RowsC n H B D) (hi : i < n) (f : FrB H H' (B i)) (e : H' (B i) = some (.dK (E.map kvI))) : RowsC n H' B (put D i E) := by
  refine ⟨fun j hj => ?_, h.nb⟩
  by_cases c : j = i
  · subst c
    rw [put_here]
    exact e
  · rw [put_else c]
    exact f _ _ (h.d j hj) fun z => c (h.nb j i hj hi z)
def ApartN (n : Nat) (A : Nat → Addr × Addr) (B : Nat → Addr) : Prop := ∀ i j, i < n → j < n → B i ≠ (A j).2
theorem RowsC.frN {n : Nat} {C : Addr} {H H' : Hp} {A : Nat → Addr × Addr} {S : Nat → CupM} {B : Nat → Addr} {D : Nat → DD} (h : RowsC n H B D) (T : Cups n C H A S) (f : FrN n H H' A) (ap : ApartN n A B) : RowsC n H' B D := by
  refine ⟨fun i hi => f.fr _ _ (h.d i hi) fun j hj => ⟨?_, ap i j hi hj⟩, h.nb⟩
  obtain ⟨⟨dx, fs, h1⟩, _⟩ := (T.c j hj).kinds
  exact ne_of (h.d i hi) h1 (by intro z; cases z)
theorem Cups.frB {n : Nat} {C : Addr} {H H' : Hp} {A : Nat → Addr × Addr} {S : Nat → CupM} {B : Nat → Addr} {D : Nat → DD} (T : Cups n C H A S) (h : RowsC n H B D) {i : Nat} (hi : i < n) (f : FrB H H' (B i)) (ap : ApartN n A B) : Cups n C H' A S := by
  have im := f.imm (h.d i hi)
  refine ⟨fun j hj => (T.c j hj).imm im (fun o ho => ?_) (fun o ho => ?_), T.np, T.nd⟩
  · obtain ⟨⟨dx, fs, h1⟩, _⟩ := (T.c j hj).kinds
    exact f _ _ ho (ne_of h1 (h.d i hi) (by intro z; cases z))
  · exact f _ _ ho fun z => ap i j hi hj z.symm
theorem Cups.seq {n : Nat} {K : PySem.W.Frag} {C : Addr} {H H' : Hp} {a : Addr} {A : Nat → Addr × Addr} {S : Nat → CupM} {xs : List V} (T : Cups n C H A S) (f : FrN n H H' A) (h : SqL K H a xs) : SqL K H' a xs :=
  seq_keep (fun o ho n1 n2 => f.fr _ _ ho fun i hi => by
    obtain ⟨⟨dx, fs, h1⟩, kvs, h2⟩ := (T.c i hi).kinds
    exact ⟨fun e => by subst e; rw [h1] at ho; cases ho; exact n1 _ _ _ rfl, fun e => by subst e; rw [h2] at ho; cases ho; exact n2 _ rfl⟩) h
theorem RowsC.seq {n : Nat} {K : PySem.W.Frag} {H H' : Hp} {a : Addr} {B : Nat → Addr} {D : Nat → DD} {i : Nat} {xs : List V} (R : RowsC n H B D) (hi : i < n) (f : FrB H H' (B i)) (h : SqL K H a xs) : SqL K H' a xs :=
  seq_keep (fun o ho _ n2 => f _ _ ho fun e => by
    subst e
    rw [R.d i hi] at ho
    cases ho
    exact n2 _ rfl) h
theorem Cups.apart {n : Nat} {C : Addr} {H : Hp} {A : Nat → Addr × Addr} {S : Nat → CupM} {B : Nat → Addr} (T : Cups n C H A S) (hB : ∀ i, i < n → H (B i) = none) : ApartN n A B := fun i j hi hj e => by
  obtain ⟨_, kvs, h2⟩ := (T.c j hj).kinds
  rw [← e, hB i hi] at h2
  cases h2

end RB

/-! How far apart two rows are. -/
namespace RB
section
variable {R T : Row} {e1 e2 : Int} {es fs : List E} {ws us : List Int}
/-- the difference at a mark -/
def dif (R T : Row) (x : Int) : Int := R.lt x * T.n - T.lt x * R.n
def lo (es : List E) (x : Int) : Int := leastOf es (upTo es (x - 1))
def hi (es : List E) (n x : Int) : Int := mostOf es (upTo es (x - 1)) n
/-- what the loop keeps of the readings so far -/
structure ApInv (es fs : List E) (n k : Int) (rs : List Int) (l m : Int) : Prop where
  l0 : 0 ≤ l
  m0 : 0 ≤ m
  la : ∀ r ∈ rs, lo es r * k - hi fs k r * n ≤ l ∧ lo fs r * n - hi es n r * k ≤ l
  mb : ∀ r ∈ rs, hi es n r * k - lo fs r * n ≤ m ∧ hi fs k r * n - lo es r * k ≤ m
  lx : l = 0 ∨ ∃ r ∈ rs, l = lo es r * k - hi fs k r * n ∨ l = lo fs r * n - hi es n r * k
  mx : m = 0 ∨ ∃ r ∈ rs, m = hi es n r * k - lo fs r * n ∨ m = hi fs k r * n - lo es r * k
theorem ApInv.nil {n k : Int} : ApInv es fs n k [] 0 0 := ⟨Int.le_refl _, Int.le_refl _, (fun _ h => by cases h), (fun _ h => by cases h), .inl rfl, .inl rfl⟩
theorem max3_facts (a b c : Int) : a ≤ max (max a b) c ∧ b ≤ max (max a b) c ∧ c ≤ max (max a b) c ∧ (max (max a b) c = a ∨ max (max a b) c = b ∨ max (max a b) c = c) := by omega
theorem ApInv.step {n k : Int} {rs : List Int} {l m r : Int} (h : ApInv es fs n k rs l m) :
    ApInv es fs n k (rs ++ [r]) (max (max l (lo es r * k - hi fs k r * n)) (lo fs r * n - hi es n r * k)) (max (max m (hi es n r * k - lo fs r * n)) (hi fs k r * n - lo es r * k)) := by
  have p1 := max3_facts l (lo es r * k - hi fs k r * n) (lo fs r * n - hi es n r * k)
  have p2 := max3_facts m (hi es n r * k - lo fs r * n) (hi fs k r * n - lo es r * k)
  have h1 := h.l0
  have h2 := h.m0
  obtain ⟨a1, a2, a3, a4⟩ := p1
  obtain ⟨b1, b2, b3, b4⟩ := p2
  have last : r ∈ rs ++ [r] := List.mem_append_right _ (List.mem_singleton.mpr rfl)
  refine ⟨Int.le_trans h1 a1, Int.le_trans h2 b1, fun x hx => ?_, fun x hx => ?_, ?_, ?_⟩
  · rcases List.mem_append.mp hx with hx | hx
    · have := h.la x hx
      exact ⟨Int.le_trans this.1 a1, Int.le_trans this.2 a1⟩
    · rw [List.mem_singleton.mp hx]
      exact ⟨a2, a3⟩
  · rcases List.mem_append.mp hx with hx | hx
    · have := h.mb x hx
      exact ⟨Int.le_trans this.1 b1, Int.le_trans this.2 b1⟩
    · rw [List.mem_singleton.mp hx]
      exact ⟨b2, b3⟩
  · rcases a4 with e | e | e
    · rw [e]
      rcases h.lx with z | ⟨x, hx, z⟩
      · exact .inl z
      · exact .inr ⟨x, List.mem_append_left _ hx, z⟩
    · exact .inr ⟨r, last, .inl e⟩
    · exact .inr ⟨r, last, .inr e⟩
  · rcases b4 with e | e | e
    · rw [e]
      rcases h.mx with z | ⟨x, hx, z⟩
      · exact .inl z
      · exact .inr ⟨x, List.mem_append_left _ hx, z⟩
    · exact .inr ⟨r, last, .inl e⟩
    · exact .inr ⟨r, last, .inr e⟩
theorem least_of_list : ∀ (l : List Int), l ≠ [] → ∃ x ∈ l, ∀ y ∈ l, x ≤ y
  | [], h => absurd rfl h
  | [x], _ => ⟨x, List.mem_singleton.mpr rfl, fun y hy => by rw [List.mem_singleton.mp hy]; exact Int.le_refl _⟩
  | x :: y :: t, _ => by
    obtain ⟨z, hz, h⟩ := least_of_list (y :: t) (List.cons_ne_nil _ _)
    by_cases c : x ≤ z
    · refine ⟨x, List.mem_cons_self, fun w hw => ?_⟩
      rcases List.mem_cons.mp hw with e | e
      · rw [e]; exact Int.le_refl _
      · exact Int.le_trans c (h w e)
    · refine ⟨z, List.mem_cons_of_mem _ hz, fun w hw => ?_⟩
      rcases List.mem_cons.mp hw with e | e
      · rw [e]; omega
      · exact h w e
theorem upTo_gap {l : List E} (hs : Srtd l) {x r : Int} (hx : x ≤ r) (h : ∀ e ∈ l, ¬ (x ≤ e.1 ∧ e.1 < r)) : upTo l (r - 1) = upTo l (x - 1) := by
  have h1 := upTo_le l (r - 1)
  have h2 := upTo_le l (x - 1)
  by_cases c : upTo l (x - 1) < upTo l (r - 1)
  · have hi : l[upTo l (x - 1)]? = some l[upTo l (x - 1)] := List.getElem?_eq_getElem (by omega)
    have a := (upTo_at hs (r := r - 1) hi).mpr c
    have b := mt (upTo_at hs (r := x - 1) hi).mp (Nat.lt_irrefl _)
    have lt1 : upTo l (x - 1) < l.length := by omega
    have z := h l[upTo l (x - 1)] (List.getElem_mem lt1)
    exact absurd ⟨by omega, by omega⟩ z
  · by_cases c2 : upTo l (r - 1) < upTo l (x - 1)
    · have hi : l[upTo l (r - 1)]? = some l[upTo l (r - 1)] := List.getElem?_eq_getElem (by omega)
      have a := (upTo_at hs (r := x - 1) hi).mpr c2
      have b := mt (upTo_at hs (r := r - 1) hi).mp (Nat.lt_irrefl _)
      omega
    · omega
theorem Gd.all_below (g : Gd R e1 es ws) (hne : es ≠ []) {x : Int} (h : ∀ e ∈ es, e.1 < x) : R.lt x = R.n := by
  have hl : 0 < es.length := List.length_pos_iff.mpr hne
  have hi : es[es.length - 1]? = some es[es.length - 1] := List.getElem?_eq_getElem (by omega)
  have a := (g.lin.at_ hi).1
  rw [List.take_of_length_le (by rw [← g.lin.length]; omega), g.sum] at a
  have t := (g.tru _ (List.getElem_mem (by omega : es.length - 1 < es.length))).least
  have m := g.ok.mono (es[es.length - 1].1 + 1) x (by have := h _ (List.getElem_mem (by omega : es.length - 1 < es.length)); omega)
  have b := g.ok.hi x
  omega
theorem apart_right (g1 : Gd R e1 es ws) (g2 : Gd T e2 fs us) (n1 : es ≠ []) (n2 : fs ≠ []) {l m : Int} (h : ApInv es fs R.n T.n ((es ++ fs).map (·.1)) l m) :
    (∀ G : Int, 0 ≤ G → (∀ r, (R.lt r < R.lt (r + 1) ∨ T.lt r < T.lt (r + 1)) → dif R T r ≤ G ∧ - dif R T r ≤ G) → l ≤ G) ∧ (∀ x, dif R T x ≤ m ∧ - dif R T x ≤ m) ∧ m - l ≤ e1 * T.n + e2 * R.n := by
  have nn := Row.n_nonneg g1.ok
  have kn := Row.n_nonneg g2.ok
  have f1 : ∀ x, lo es x * T.n ≤ R.lt x * T.n ∧ R.lt x * T.n ≤ hi es R.n x * T.n ∧ hi es R.n x * T.n - lo es x * T.n ≤ e1 * T.n := fun x => by
    obtain ⟨a, b, c⟩ := g1.ahead x
    refine ⟨Int.mul_le_mul_of_nonneg_right a kn, Int.mul_le_mul_of_nonneg_right b kn, ?_⟩
    rw [← Int.sub_mul]
    exact Int.mul_le_mul_of_nonneg_right c kn
  have f2 : ∀ x, lo fs x * R.n ≤ T.lt x * R.n ∧ T.lt x * R.n ≤ hi fs T.n x * R.n ∧ hi fs T.n x * R.n - lo fs x * R.n ≤ e2 * R.n := fun x => by
    obtain ⟨a, b, c⟩ := g2.ahead x
    refine ⟨Int.mul_le_mul_of_nonneg_right a nn, Int.mul_le_mul_of_nonneg_right b nn, ?_⟩
    rw [← Int.sub_mul]
    exact Int.mul_le_mul_of_nonneg_right c nn
  have here : ∀ r ∈ (es ++ fs).map (·.1), R.lt r < R.lt (r + 1) ∨ T.lt r < T.lt (r + 1) := fun r hr => by
    obtain ⟨e, he, rfl⟩ := List.mem_map.mp hr
    rcases List.mem_append.mp he with he | he
    · exact .inl (g1.tru e he).here
    · exact .inr (g2.tru e he).here
  have w1 : 0 ≤ e1 * T.n := Int.mul_nonneg g1.err0 kn
  have w2 : 0 ≤ e2 * R.n := Int.mul_nonneg g2.err0 nn
  refine ⟨fun G G0 hG => ?_, fun x => ?_, ?_⟩
  · rcases h.lx with z | ⟨r, hr, z⟩
    · rw [z]; exact G0
    · have hd := hG r (here r hr)
      have p := f1 r
      have q := f2 r
      unfold dif at hd
      rcases z with z | z <;> rw [z] <;> omega
  · by_cases c : ∃ r ∈ (es ++ fs).map (·.1), x ≤ r
    · obtain ⟨r1, hr1, hx1⟩ := c
      have ne : (((es ++ fs).map (·.1)).filter fun r => decide (x ≤ r)) ≠ [] := fun z => by
        have : r1 ∈ ((es ++ fs).map (·.1)).filter fun r => decide (x ≤ r) := List.mem_filter.mpr ⟨hr1, decide_eq_true hx1⟩
        rw [z] at this
        cases this
      obtain ⟨r, hr, hmin⟩ := least_of_list _ ne
      obtain ⟨hr2, hr3⟩ := List.mem_filter.mp hr
      have hxr : x ≤ r := of_decide_eq_true hr3
      have gap : ∀ e ∈ es ++ fs, ¬ (x ≤ e.1 ∧ e.1 < r) := fun e he z => by
        have := hmin e.1 (List.mem_filter.mpr ⟨List.mem_map.mpr ⟨e, he, rfl⟩, decide_eq_true z.1⟩)
        omega
      have u1 := upTo_gap g1.srt hxr fun e he => gap e (List.mem_append_left _ he)
      have u2 := upTo_gap g2.srt hxr fun e he => gap e (List.mem_append_right _ he)
      have b := h.mb r hr2
      have l1 : lo es r = lo es x := by unfold lo; rw [u1]
      have l2 : lo fs r = lo fs x := by unfold lo; rw [u2]
      have l3 : hi es R.n r = hi es R.n x := by unfold hi; rw [u1]
      have l4 : hi fs T.n r = hi fs T.n x := by unfold hi; rw [u2]
      rw [l1, l2, l3, l4] at b
      have p := f1 x
      have q := f2 x
      unfold dif
      omega
    · have z1 : R.lt x = R.n := g1.all_below n1 fun e he => by
        have := mt (fun z => (⟨e.1, List.mem_map.mpr ⟨e, List.mem_append_left _ he, rfl⟩, z⟩ : ∃ r ∈ (es ++ fs).map (·.1), x ≤ r)) c
        omega
      have z2 : T.lt x = T.n := g2.all_below n2 fun e he => by
        have := mt (fun z => (⟨e.1, List.mem_map.mpr ⟨e, List.mem_append_right _ he, rfl⟩, z⟩ : ∃ r ∈ (es ++ fs).map (·.1), x ≤ r)) c
        omega
      have d0 : dif R T x = 0 := by
        unfold dif
        rw [z1, z2, Int.mul_comm]
        exact Int.sub_self _
      have := h.m0
      omega
  · have l0 := h.l0
    rcases h.mx with z | ⟨r, hr, z⟩
    · rw [z]
      omega
    · have a := h.la r hr
      have p := f1 r
      have q := f2 r
      rcases z with z | z <;> rw [z] <;> omega
end
end RB

namespace RB
open PySem PySem.Spec PyProof.Rows L2
theorem nuMax2_int (i j : Int) : nuMax2 (.int i) (.int j) = some (.int (max i j)) := by
  have e : nuLt (.int i) (.int j) = some (decide (i < j)) := rfl
  unfold nuMax2
  rw [e]
  show some (if decide (i < j) = true then V.int j else V.int i) = _
  by_cases h : i < j
  · rw [if_pos (decide_eq_true h), show max i j = j by omega]
  · rw [if_neg (by simpa using h), show max i j = i by omega]
theorem r_max3 {H : Hp} {Q : VK} {i j k : Int} (q : Q (.int (max (max i j) k)) H) : rNuC3 nuMax3 [.int i, .int j, .int k] H Q := by
  refine ⟨_, _, _, _, rfl, ?_, q⟩
  show (nuMax2 (.int i) (.int j)).bind (fun m => nuMax2 m (.int k)) = _
  rw [nuMax2_int]
  exact nuMax2_int _ _
theorem EntsV.app {H : Hp} {xs ys : List V} {es fs : List E} (h : EntsV H xs es) (g : EntsV H ys fs) : EntsV H (xs ++ ys) (es ++ fs) := by
  refine ⟨by rw [List.length_append, List.length_append, h.1, g.1], fun i e he => ?_⟩
  by_cases c : i < es.length
  · rw [List.getElem?_append_left c] at he
    rw [List.getElem?_append_left (by rw [h.1]; exact c)]
    exact h.2 i e he
  · rw [List.getElem?_append_right (by omega)] at he
    rw [List.getElem?_append_right (by rw [h.1]; omega), h.1]
    exact g.2 _ e he
/-- the readings of a row in which something stands are its keys -/
theorem key_of {D : DD} {U : List Int} (ok : RowOk D U) {r : Int} (h : (rowD D).lt r < (rowD D).lt (r + 1)) : r ∈ D.map (·.1) :=
  RowOk.lt_in (U := D.map (·.1)) ⟨ok.nd, fun x hx => List.mem_map.mpr ⟨x, hx, rfl⟩, ok.pos⟩ h
theorem row_pos {D : DD} {U : List Int} (ok : RowOk D U) (h : D ≠ []) : 0 < (rowD D).n := by
  rw [rowD_n]
  cases D with
  | nil => exact absurd rfl h
  | cons x t =>
    have p := ok.pos x List.mem_cons_self
    have q : 0 ≤ (t.map (·.2)).sum := by
      have hp : ∀ y ∈ t, 1 ≤ y.2 := fun y hy => ok.pos y (List.mem_cons_of_mem _ hy)
      clear p ok h
      induction t with
      | nil => exact Int.le_refl _
      | cons y t ih =>
        have a := hp y List.mem_cons_self
        have b := ih fun z hz => hp z (List.mem_cons_of_mem _ hz)
        rw [List.map_cons, List.sum_cons]
        omega
    rw [List.map_cons, List.sum_cons]
    omega
end RB

namespace RB
open PySem PySem.Spec PyProof.Rows L2
section
variable {J : It} {n : Nat} {G : Hp → Prop} {Y : Nat → Hp → V → Hp → Prop}
/-- as lc_gen; what is kept of the items may speak of the list that is made -/
theorem lc_genD (w : Walk J n G Y) {g : TG} {tt : TT} {te : TE} {vs : List Nat} {σ : L2.St} {H1 : Hp} {Q : VK} (t : Nat → Bool) (P : Addr → Nat → V → Hp → Prop) (hn : n < 16000000) (hG : G H1) (monoG : ∀ H H', Same H H' → G H → G H')
    (hP : ∀ D i v H H', Same H H' → P D i v H → P D i v H') (hP' : ∀ (D : Addr) i v (H : Hp) (xs ys : List V), H D = some (.lst xs) → P D i v H → P D i v (upd H D (.lst ys)))
    (hs : ∀ (D : Addr) i, i < n → ∀ H, Same H1 H → G H → (∃ zs, H D = some (.lst zs)) → ∀ x H', Y i H x H' → Same H H' ∧ ∀ (R : V → Hp → Prop) (S : Hp → Prop), (t i = true → ∀ y H4, Same H' H4 → P D i y H4 → R y H4) → (t i = false → ∀ H4, Same H' H4 → S H4) →
      g x (wipe σ vs) H' fun σ2 H2 => wipe σ2 vs = wipe σ vs ∧ tt σ2 H2 fun b H3 => if b = true then te σ2 H3 R else S H3)
    (hq : ∀ D ys H, H1 D = none → Same H1 H → H D = some (.lst ys) → Made n t (P D) ys H → Q (.ref D) H) : LcG J g tt te vs σ H1 Q := by
  intro D hD
  have monoU : ∀ H, Same H1 H → G H := fun H s => monoG _ _ s hG
  refine lc_it w (Qd := Q (.ref D)) (fun i H => Same H1 H ∧ ∃ ys, H D = some (.lst ys) ∧ Made i t (P D) ys H) ⟨Same.new hD, [], upd_same, ?_⟩ (fun i H _ p => monoU H p.1) (fun i x H H' hi p y => ?_) (fun H p => ?_)
  · exact ⟨by simp [pickN], fun k i y h => by simp [pickN] at h⟩
  · obtain ⟨s1, ys, hDy, M⟩ := p
    obtain ⟨s2, f⟩ := hs D i hi H s1 (monoU H s1) ⟨ys, hDy⟩ x H' y
    have hlen : ys.length < sizeLine := by
      rw [M.len]
      have := pickN_len i t
      rw [sizeLine_eq]
      omega
    refine f _ _ (fun ht y H4 s4 hy => ⟨ys, s4 _ _ (s2 _ _ hDy), hlen, ?_⟩) (fun ht H4 s4 => ?_)
    · have hD4 : H4 D = some (.lst ys) := s4 _ _ (s2 _ _ hDy)
      refine ⟨Same.mut ((s1.trans s2).trans s4) hD, ys ++ [y], upd_same, ?_, fun k j z hk hz => ?_⟩
      · rw [pickN_succ_yes ht, List.length_append, List.length_append, M.len]
        rfl
      · rw [pickN_succ_yes ht] at hk
        by_cases hlt : k < ys.length
        · rw [List.getElem?_append_left hlt] at hz
          rw [List.getElem?_append_left (by rw [← M.len]; exact hlt)] at hk
          exact hP' _ _ _ _ _ _ hD4 (hP _ _ _ _ _ (s2.trans s4) (M.get k j z hk hz))
        · have hk' : k = ys.length := by
            have := (List.getElem?_eq_some_iff.mp hz).1
            simp at this
            omega
          subst hk'
          have hz' : y = z := by simpa using hz
          have hj : i = j := by
            rw [M.len] at hk
            simpa using hk
          subst hz' hj
          exact hP' _ _ _ _ _ _ hD4 hy
    · refine ⟨(s1.trans s2).trans s4, ys, s4 _ _ (s2 _ _ hDy), ?_, fun k j z hk hz => ?_⟩
      · rw [pickN_succ_no ht]
        exact M.len
      · rw [pickN_succ_no ht] at hk
        exact hP _ _ _ _ _ (s2.trans s4) (M.get k j z hk hz)
  · obtain ⟨s1, ys, hDy, M⟩ := p
    exact hq D ys H hD s1 hDy M
end
theorem Ents.mutL {H : Hp} {pk D : Addr} {es : List E} {xs ys : List V} (h : Ents H pk es) (n : pk ≠ D) (hD : H D = some (.lst xs)) : Ents (upd H D (.lst ys)) pk es := by
  obtain ⟨zs, h1, h2⟩ := h
  exact ⟨zs, by rw [upd_ne n]; exact h1, h2.imm fun a cs ha => by rw [upd_ne (ne_of ha hD (by intro z; cases z))]; exact ha⟩
/-- the items of a made list, one for each turn -/
theorem Made.all {n : Nat} {P : Nat → V → Hp → Prop} {ys : List V} {H : Hp} (M : Made n (fun _ => true) P ys H) : ys.length = n ∧ ∀ i, i < n → ∃ y, ys[i]? = some y ∧ P i y H := by
  have l := M.len
  rw [pickN_all, List.length_range] at l
  refine ⟨l, fun i hi => ?_⟩
  have hy : ys[i]? = some ys[i] := List.getElem?_eq_getElem (by omega)
  exact ⟨_, hy, M.get i i _ (by rw [pickN_all, List.getElem?_range hi]) hy⟩
/-- a list of lists as data -/
theorem dpa_of {K : PySem.W.Frag} {H : Hp} : ∀ {ys : List V} {ds : List PyData}, ys.length = ds.length → (∀ (i : Nat) (y : V) (d : PyData), ys[i]? = some y → ds[i]? = some d → Dp K H y d) → DpAll K H ys ds
  | [], [], _, _ => .nil
  | [], d :: ds, h, _ => by simp at h
  | y :: ys, [], h, _ => by simp at h
  | y :: ys, d :: ds, h, f => .cons (f 0 y d rfl rfl) (dpa_of (by simpa using h) fun i z e hz he => f (i + 1) z e (by simpa using hz) (by simpa using he))
/-! ### n cups and rows in two lists, and the law's script -/
structure ScN (n : Nat) (C : Addr) (K : PySem.W.Frag) (H : Hp) (a pc pr : Addr) (A : Nat → Addr × Addr) (B : Nat → Addr) (S : Nat → CupM) (D : Nat → DD) (ns : List Int) : Prop where
  t : Cups n C H A S
  l : H pc = some (.lst (cupL n A))
  r : RowsC n H B D
  rl : H pr = some (.lst (rowL n B))
  ap : ApartN n A B
  fc : FreeN n H A pc
  fr : FreeN n H A pr
  np : pc ≠ pr
  sq : SqL K H a (ns.map V.int)
  na : (∀ H', SqL K H' a (ns.map V.int)) ∨ (a ≠ pc ∧ a ≠ pr)
section
variable {n : Nat} {C : Addr} {K : PySem.W.Frag} {H H' : Hp} {a pc pr : Addr} {A : Nat → Addr × Addr} {B : Nat → Addr} {S S' : Nat → CupM} {D D' : Nat → DD} {ns : List Int}
theorem Cups.freeB (T : Cups n C H A S) (h : RowsC n H B D) {i : Nat} (hi : i < n) (f : FrB H H' (B i)) (ap : ApartN n A B) {z : Addr} (hz : FreeN n H A z) : FreeN n H' A z := fun j hj g => hz j hj (by
  obtain ⟨dx, l, hp, hL, b3, hd, eb, hE⟩ := T.c j hj
  rcases own_of (f _ _ hp (ne_of hp (h.d i hi) (by intro z; cases z))) (f _ _ hd fun z => ap i j hi hj z.symm) g with rfl | ⟨x, hx, rfl⟩
  · exact .inl ⟨_, _, _, hp⟩
  · exact .inr ⟨_, _, hd, List.mem_map.mpr ⟨x, hx, rfl⟩⟩)
theorem ScN.same (w : ScN n C K H a pc pr A B S D ns) (s : Same H H') : ScN n C K H' a pc pr A B S D ns :=
  ⟨w.t.same s, s _ _ w.l, w.r.same s, s _ _ w.rl, w.ap, (w.t.frSame s).free w.fc w.l, (w.t.frSame s).free w.fr w.rl, w.np, s.seq w.sq, w.na⟩
theorem ScN.done (w : ScN n C K H a pc pr A B S D ns) (T : Cups n C H' A S') (f : FrN n H H' A) : ScN n C K H' a pc pr A B S' D ns :=
  ⟨T, (w.t.imm f).1 _ _ w.l, w.r.frN w.t f w.ap, (w.t.imm f).1 _ _ w.rl, w.ap, f.free w.fc w.l, f.free w.fr w.rl, w.np, w.t.seq f w.sq, w.na⟩
theorem ScN.come (w : ScN n C K H a pc pr A B S D ns) {i : Nat} (hi : i < n) (R : RowsC n H' B D') (f : FrB H H' (B i)) : ScN n C K H' a pc pr A B S D' ns :=
  ⟨w.t.frB w.r hi f w.ap, (f.imm (w.r.d i hi)).1 _ _ w.l, R, (f.imm (w.r.d i hi)).1 _ _ w.rl, w.ap, w.t.freeB w.r hi f w.ap w.fc, w.t.freeB w.r hi f w.ap w.fr, w.np, w.r.seq hi f w.sq, w.na⟩
theorem up_put {f g : Nat → V} {n : Nat} (h : ∀ i, i < n → f i = g i) : upL n f = upL n g := by
  unfold upL
  exact List.map_congr_left fun i hi => h i (List.mem_range.mp hi)
theorem cupL_put (A : Nat → Addr × Addr) (n : Nat) (x : Addr × Addr) : cupL (n + 1) (put A n x) = cupL n A ++ [.ref x.1] := by
  unfold cupL
  rw [upL_succ, put_here]
  congr 1
  exact up_put fun i hi => by rw [put_else (by omega)]
theorem rowL_put (B : Nat → Addr) (n : Nat) (x : Addr) : rowL (n + 1) (put B n x) = rowL n B ++ [.ref x] := by
  unfold rowL
  rw [upL_succ, put_here]
  congr 1
  exact up_put fun i hi => by rw [put_else (by omega)]
theorem seq_new {xs : List V} {z : Addr} {o : HO} (h : SqL K H a xs) (hz : a ≠ z) : SqL K (upd H z o) a xs := by
  rcases h with (h | ⟨o', h⟩) | h
  · exact .inl (.inl (by rw [upd_ne hz]; exact h))
  · exact .inl (.inr ⟨o', by rw [upd_ne hz]; exact h⟩)
  · exact .inr h
/-- one more cup and one more row are put at the lists' ends: H0 was before them, H1 stands with both made -/
theorem ScN.more (w : ScN n C K H a pc pr A B S D ns) {x d q : Addr} {s : CupM} (sm : Same H H') (c : CupAt C H' x d s) (hx : H x = none) (hd : H d = none) (hq : H q = none) (nq : q ≠ d) (hrow : H' q = some (.dK [])) (fx1 : ¬ Own H' x d pc) (fx2 : ¬ Own H' x d pr) :
    ScN (n + 1) C K (upd (upd H' pc (.lst (cupL (n + 1) (put A n (x, d))))) pr (.lst (rowL (n + 1) (put B n q)))) a pc pr (put A n (x, d)) (put B n q) (put S n s) (put D n []) ns := by
  have w' := w.same sm
  have kA : ∀ i, i < n → put A n (x, d) i = A i := fun i hi => put_else (by omega)
  have kB : ∀ i, i < n → put B n q i = B i := fun i hi => put_else (by omega)
  have kS : ∀ i, i < n → put S n s i = S i := fun i hi => put_else (by omega)
  have kD : ∀ i, i < n → put D n [] i = D i := fun i hi => put_else (by omega)
  have ins : ∀ i, i < n → (A i).1 ≠ x := fun i hi e => by
    obtain ⟨⟨_, _, h1⟩, _⟩ := (w.t.c i hi).kinds
    rw [e, hx] at h1
    cases h1
  have ind : ∀ i, i < n → (A i).2 ≠ d := fun i hi e => by
    obtain ⟨_, _, h1⟩ := (w.t.c i hi).kinds
    rw [e, hd] at h1
    cases h1
  have inq : ∀ i, i < n → B i ≠ q := fun i hi e => by
    have h1 := w.r.d i hi
    rw [e, hq] at h1
    cases h1
  -- all cups, the new one too, before the lists are changed
  have T1 : Cups (n + 1) C H' (put A n (x, d)) (put S n s) := by
    refine ⟨fun i hi => ?_, fun i j hi hj e => ?_, fun i j hi hj e => ?_⟩
    · by_cases z : i = n
      · subst z
        rw [put_here, put_here]
        exact c
      · rw [kA i (by omega), kS i (by omega)]
        exact w'.t.c i (by omega)
    · by_cases z : i = n <;> by_cases z' : j = n
      · omega
      · subst z
        rw [put_here, kA j (by omega)] at e
        exact absurd e.symm (ins j (by omega))
      · subst z'
        rw [put_here, kA i (by omega)] at e
        exact absurd e (ins i (by omega))
      · rw [kA i (by omega), kA j (by omega)] at e
        exact w.t.np i j (by omega) (by omega) e
    · by_cases z : i = n <;> by_cases z' : j = n
      · omega
      · subst z
        rw [put_here, kA j (by omega)] at e
        exact absurd e.symm (ind j (by omega))
      · subst z'
        rw [put_here, kA i (by omega)] at e
        exact absurd e (ind i (by omega))
      · rw [kA i (by omega), kA j (by omega)] at e
        exact w.t.nd i j (by omega) (by omega) e
  have F : ∀ z, FreeN n H' A z → ¬ Own H' x d z → FreeN (n + 1) H' (put A n (x, d)) z := fun z h1 h2 i hi => by
    by_cases e : i = n
    · subst e
      rw [put_here]
      exact h2
    · rw [kA i (by omega)]
      exact h1 i (by omega)
  have f1 := F pc w'.fc fx1
  have f2 := F pr w'.fr fx2
  have T2 := T1.mut (o := .lst (cupL (n + 1) (put A n (x, d)))) f1 w'.l
  have f3 := T1.free (o := .lst (cupL (n + 1) (put A n (x, d)))) f2 w'.l
  have f4 := T1.free (o := .lst (cupL (n + 1) (put A n (x, d)))) f1 w'.l
  have hr : (upd H' pc (.lst (cupL (n + 1) (put A n (x, d))))) pr = some (.lst (rowL n B)) := by rw [upd_ne (Ne.symm w.np)]; exact w'.rl
  have T3 := T2.mut (o := .lst (rowL (n + 1) (put B n q))) f3 hr
  have f5 := T2.free (o := .lst (rowL (n + 1) (put B n q))) f3 hr
  have f6 := T2.free (o := .lst (rowL (n + 1) (put B n q))) f4 hr
  have dk : ∀ {b : Addr} {kvs : List (Key × V)}, H' b = some (.dK kvs) → (upd (upd H' pc (.lst (cupL (n + 1) (put A n (x, d))))) pr (.lst (rowL (n + 1) (put B n q)))) b = some (.dK kvs) := fun {b kvs} h => by
    rw [upd_ne (ne_of h w'.rl (by intro z; cases z)), upd_ne (ne_of h w'.l (by intro z; cases z))]
    exact h
  refine ⟨T3, by rw [upd_ne w.np]; exact upd_same, ⟨fun i hi => ?_, fun i j hi hj e => ?_⟩, upd_same, fun i j hi hj e => ?_, f6, f5, w.np, ?_, w.na⟩
  · by_cases z : i = n
    · subst z
      rw [put_here, put_here]
      exact dk hrow
    · rw [kB i (by omega), kD i (by omega)]
      exact dk (w'.r.d i (by omega))
  · by_cases z : i = n <;> by_cases z' : j = n
    · omega
    · subst z
      rw [put_here, kB j (by omega)] at e
      exact absurd e.symm (inq j (by omega))
    · subst z'
      rw [put_here, kB i (by omega)] at e
      exact absurd e (inq i (by omega))
    · rw [kB i (by omega), kB j (by omega)] at e
      exact w.r.nb i j (by omega) (by omega) e
  · by_cases z : i = n <;> by_cases z' : j = n
    · subst z z'
      rw [put_here, put_here] at e
      exact nq e
    · subst z
      rw [put_here, kA j (by omega)] at e
      obtain ⟨_, _, h2⟩ := (w.t.c j (by omega)).kinds
      rw [← e, hq] at h2
      cases h2
    · subst z'
      rw [put_here, kB i (by omega)] at e
      have h2 := w.r.d i (by omega)
      have e' : B i = d := e
      rw [e', hd] at h2
      cases h2
    · rw [kB i (by omega), kA j (by omega)] at e
      exact w.ap i j (by omega) (by omega) e
  · rcases w.na with h | ⟨h1, h2⟩
    · exact h _
    · exact seq_new (seq_new w'.sq h1) h2
end
end RB

namespace RB
open PySem PySem.Spec PyProof.Rows L2
/-! ### one more cup; lists of places; a row of its own beside cups and rows -/
theorem Made.valsF {n : Nat} {f : Nat → V} {ys : List V} {H : Hp} (M : Made n (fun _ => true) (fun i v _ => v = f i) ys H) : ys = (List.range n).map f := by
  obtain ⟨l, g⟩ := M.all
  refine List.ext_getElem? fun i => ?_
  by_cases h : i < n
  · obtain ⟨y, e, rfl⟩ := g i h
    rw [e, List.getElem?_map, List.getElem?_range h]
    rfl
  · rw [List.getElem?_eq_none (by omega), List.getElem?_eq_none (by rw [List.length_map, List.length_range]; omega)]
def natsV (ns : List Nat) : List V := ns.map fun (n : Nat) => V.int (n : Int)
theorem natsV_len (ns : List Nat) : (natsV ns).length = ns.length := by unfold natsV; rw [List.length_map]
theorem natsV_ints (ns : List Nat) : natsV ns = (ns.map fun (n : Nat) => (n : Int)).map V.int := by unfold natsV; rw [List.map_map]; rfl
theorem natsV_get {ns : List Nat} {i : Nat} (h : i < ns.length) : (natsV ns)[i]? = some (.int (ns[i] : Int)) := by
  unfold natsV
  rw [List.getElem?_map, List.getElem?_eq_getElem h]
  rfl
/-- cups by their places -/
def pickL (A : Nat → Addr × Addr) (js : List Nat) : List V := js.map fun j => V.ref (A j).1
theorem pickL_len (A : Nat → Addr × Addr) (js : List Nat) : (pickL A js).length = js.length := by unfold pickL; rw [List.length_map]
theorem pickL_get {A : Nat → Addr × Addr} {js : List Nat} {i : Nat} (h : i < js.length) : (pickL A js)[i]? = some (.ref (A js[i]).1) := by
  unfold pickL
  rw [List.getElem?_map, List.getElem?_eq_getElem h]
  rfl
theorem pickL_put {A : Nat → Addr × Addr} {n : Nat} {x : Addr × Addr} {js : List Nat} (h : ∀ j ∈ js, j < n) : pickL (put A n x) js = pickL A js := by
  unfold pickL
  exact List.map_congr_left fun j hj => by rw [put_else (by have := h j hj; omega)]
theorem cutA (xs : List V) (a : Nat) (h : a ≤ xs.length) : cutV xs none (some (a : Int)) = xs.take a := by
  unfold cutV
  rw [HT.sIx_none, HT.sIx_nat, List.drop_zero, Nat.sub_zero, Nat.min_eq_left h]
theorem cutB (xs : List V) (a : Nat) (h : a ≤ xs.length) : cutV xs (some (a : Int)) none = xs.drop a := by
  unfold cutV
  rw [HT.sIx_none, HT.sIx_nat, Nat.min_eq_left h, List.take_of_length_le (by rw [List.length_drop]; omega)]
section
variable {n : Nat} {C : Addr} {K : PySem.W.Frag} {H H' : Hp} {A : Nat → Addr × Addr} {S : Nat → CupM}
theorem Cups.more (T : Cups n C H A S) {x d : Addr} {s : CupM} (sm : Same H H') (c : CupAt C H' x d s) (hx : H x = none) (hd : H d = none) : Cups (n + 1) C H' (RB.put A n (x, d)) (RB.put S n s) := by
  have T' := T.same sm
  have kA : ∀ i, i < n → RB.put A n (x, d) i = A i := fun i hi => put_else (by omega)
  have kS : ∀ i, i < n → RB.put S n s i = S i := fun i hi => put_else (by omega)
  have ins : ∀ i, i < n → (A i).1 ≠ x := fun i hi e => by
    obtain ⟨⟨_, _, h1⟩, _⟩ := (T.c i hi).kinds
    rw [e, hx] at h1
    cases h1
  have ind : ∀ i, i < n → (A i).2 ≠ d := fun i hi e => by
    obtain ⟨_, _, h1⟩ := (T.c i hi).kinds
    rw [e, hd] at h1
    cases h1
  refine ⟨fun i hi => ?_, fun i j hi hj e => ?_, fun i j hi hj e => ?_⟩
  · by_cases z : i = n
    · subst z
      rw [put_here, put_here]
      exact c
    · rw [kA i (by omega), kS i (by omega)]
      exact T'.c i (by omega)
  · by_cases z : i = n <;> by_cases z' : j = n
    · omega
    · subst z
      rw [put_here, kA j (by omega)] at e
      exact absurd e.symm (ins j (by omega))
    · subst z'
      rw [put_here, kA i (by omega)] at e
      exact absurd e (ins i (by omega))
    · rw [kA i (by omega), kA j (by omega)] at e
      exact T.np i j (by omega) (by omega) e
  · by_cases z : i = n <;> by_cases z' : j = n
    · omega
    · subst z
      rw [put_here, kA j (by omega)] at e
      exact absurd e.symm (ind j (by omega))
    · subst z'
      rw [put_here, kA i (by omega)] at e
      exact absurd e (ind i (by omega))
    · rw [kA i (by omega), kA j (by omega)] at e
      exact T.nd i j (by omega) (by omega) e
theorem Cups.frQ (T : Cups n C H A S) {q : Addr} {kvs : List (Key × V)} (hq : H q = some (.dK kvs)) (f : FrB H H' q) (ap : ∀ j, j < n → q ≠ (A j).2) : Cups n C H' A S := by
  have im := f.imm hq
  refine ⟨fun j hj => (T.c j hj).imm im (fun o ho => ?_) (fun o ho => ?_), T.np, T.nd⟩
  · obtain ⟨⟨dx, fs, h1⟩, _⟩ := (T.c j hj).kinds
    exact f _ _ ho (ne_of h1 hq (by intro z; cases z))
  · exact f _ _ ho fun z => ap j hj z.symm
end
theorem seq_frB {K : PySem.W.Frag} {H H' : Hp} {q a : Addr} {kvs : List (Key × V)} {xs : List V} (hq : H q = some (.dK kvs)) (f : FrB H H' q) (h : SqL K H a xs) : SqL K H' a xs :=
  seq_keep (fun o ho _ n2 => f _ _ ho fun e => by
    subst e
    rw [hq] at ho
    cases ho
    exact n2 _ rfl) h
/-- n cups of which m stand in the law's list, m rows, the places drawn and the cups handed -/
structure L12 (m n : Nat) (C : Addr) (K : PySem.W.Frag) (H : Hp) (a pc pr ps ph : Addr) (A : Nat → Addr × Addr) (B : Nat → Addr) (S : Nat → CupM) (D : Nat → DD) (js : List Nat) (ns : List Int) : Prop where
  t : Cups n C H A S
  l : H pc = some (.lst (cupL m A))
  r : RowsC m H B D
  rl : H pr = some (.lst (rowL m B))
  ap : ∀ i j, i < m → j < n → B i ≠ (A j).2
  s : H ps = some (.lst (natsV js))
  h : H ph = some (.lst (pickL A js))
  sq : SqL K H a (ns.map V.int)
section
variable {m n : Nat} {C : Addr} {K : PySem.W.Frag} {H H' : Hp} {a pc pr ps ph q : Addr} {A : Nat → Addr × Addr} {B : Nat → Addr} {S S' : Nat → CupM} {D D' : Nat → DD} {js : List Nat} {ns : List Int} {kvs : List (Key × V)}
theorem L12.same (w : L12 m n C K H a pc pr ps ph A B S D js ns) (s : Same H H') : L12 m n C K H' a pc pr ps ph A B S D js ns :=
  ⟨w.t.same s, s _ _ w.l, w.r.same s, s _ _ w.rl, w.ap, s _ _ w.s, s _ _ w.h, s.seq w.sq⟩
theorem L12.cup (w : L12 m n C K H a pc pr ps ph A B S D js ns) {i : Nat} (hi : i < n) {s : CupM} (f : Fr H H' (A i).1 (A i).2) (c : CupAt C H' (A i).1 (A i).2 s) : L12 m n C K H' a pc pr ps ph A B (put S i s) D js ns := by
  have im := (w.t.c i hi).immF f
  obtain ⟨⟨dx, fs, h1⟩, kvs, h2⟩ := (w.t.c i hi).kinds
  refine ⟨w.t.put hi f c, im.1 _ _ w.l, ⟨fun j hj => f _ _ (w.r.d j hj) (ne_of (w.r.d j hj) h1 (by intro z; cases z)) (w.ap j i hj hi), w.r.nb⟩, im.1 _ _ w.rl, w.ap, im.1 _ _ w.s, im.1 _ _ w.h, ?_⟩
  exact seq_keep (fun o ho n1 n2 => f _ _ ho (fun e => by subst e; rw [h1] at ho; cases ho; exact n1 _ _ _ rfl) fun e => by subst e; rw [h2] at ho; cases ho; exact n2 _ rfl) w.sq
theorem L12.row (w : L12 m n C K H a pc pr ps ph A B S D js ns) (hq : H q = some (.dK kvs)) (f : FrB H H' q) (n1 : ∀ j, j < n → q ≠ (A j).2) (n2 : ∀ i, i < m → B i ≠ q) : L12 m n C K H' a pc pr ps ph A B S D js ns :=
  ⟨w.t.frQ hq f n1, (f.imm hq).1 _ _ w.l, ⟨fun i hi => f _ _ (w.r.d i hi) (n2 i hi), w.r.nb⟩, (f.imm hq).1 _ _ w.rl, w.ap, (f.imm hq).1 _ _ w.s, (f.imm hq).1 _ _ w.h, seq_frB hq f w.sq⟩
theorem L12.come (w : L12 m n C K H a pc pr ps ph A B S D js ns) {i : Nat} (hi : i < m) (R : RowsC m H' B D') (f : FrB H H' (B i)) : L12 m n C K H' a pc pr ps ph A B S D' js ns :=
  ⟨w.t.frQ (w.r.d i hi) f (fun j hj => w.ap i j hi hj), (f.imm (w.r.d i hi)).1 _ _ w.l, R, (f.imm (w.r.d i hi)).1 _ _ w.rl, w.ap, (f.imm (w.r.d i hi)).1 _ _ w.s, (f.imm (w.r.d i hi)).1 _ _ w.h, w.r.seq hi f w.sq⟩
theorem L12.more (w : L12 m n C K H a pc pr ps ph A B S D js ns) (hmn : m ≤ n) (hjs : ∀ j ∈ js, j < n) {x d : Addr} {s : CupM} (sm : Same H H') (c : CupAt C H' x d s) (hx : H x = none) (hd : H d = none) :
    L12 m (n + 1) C K H' a pc pr ps ph (put A n (x, d)) B (put S n s) D js ns := by
  have w' := w.same sm
  refine ⟨w.t.more sm c hx hd, ?_, w'.r, w'.rl, fun i j hi hj e => ?_, w'.s, by rw [pickL_put hjs]; exact w'.h, w'.sq⟩
  · have e : cupL m (put A n (x, d)) = cupL m A := up_put fun i hi => by rw [put_else (by omega)]
    rw [e]
    exact w'.l
  · by_cases z : j = n
    · subst z
      rw [put_here] at e
      have h := w.r.d i hi
      have e' : B i = d := e
      rw [e', hd] at h
      cases h
    · rw [put_else z] at e
      exact w.ap i j hi (by omega) e
end
/-- the row of some cups together -/
def sumR (R : Nat → Row) (js : List Nat) : Row := js.foldl (fun T j => T.add (R j)) Row.nil
theorem sumR_snoc (R : Nat → Row) (js : List Nat) (j : Nat) : sumR R (js ++ [j]) = (sumR R js).add (R j) := by
  unfold sumR
  rw [List.foldl_append]
  rfl
end RB

namespace RB
open PySem PySem.Spec PyProof.Rows L2
/-! ### cups dealt and poured together -/
def sumF (R : Nat → Row) : List Nat → Row
  | [] => Row.nil
  | j :: t => (R j).add (sumF R t)
theorem sumF_congr {R R' : Nat → Row} : ∀ {js : List Nat}, (∀ j ∈ js, R j = R' j) → sumF R js = sumF R' js
  | [], _ => rfl
  | j :: t, h => by
    show (R j).add (sumF R t) = (R' j).add (sumF R' t)
    rw [h j List.mem_cons_self, sumF_congr fun x hx => h x (List.mem_cons_of_mem _ hx)]
theorem sumF_put {R : Nat → Row} {i : Nat} {T : Row} : ∀ {js : List Nat}, js.Nodup → i ∈ js → sumF (put R i ((R i).add T)) js = (sumF R js).add T
  | [], _, h => by cases h
  | j :: t, nd, h => by
    obtain ⟨n1, n2⟩ := List.nodup_cons.mp nd
    show (put R i ((R i).add T) j).add (sumF (put R i ((R i).add T)) t) = ((R j).add (sumF R t)).add T
    by_cases e : j = i
    · subst e
      rw [put_here, sumF_congr (R' := R) fun x hx => put_else fun z => n1 (by rw [← z]; exact hx), Row.add_assoc, Row.add_assoc, Row.add_comm T]
    · have hi : i ∈ t := by
        rcases List.mem_cons.mp h with z | z
        · exact absurd z.symm e
        · exact z
      rw [put_else e, sumF_put n2 hi, Row.add_assoc]
theorem sumF_erase {R : Nat → Row} : ∀ {js : List Nat} {i : Nat} (h : i < js.length), sumF R js = (sumF R (js.eraseIdx i)).add (R js[i])
  | [], _, h => absurd h (Nat.not_lt_zero _)
  | j :: t, 0, _ => by
    show (R j).add (sumF R t) = (sumF R t).add (R j)
    exact Row.add_comm _ _
  | j :: t, i + 1, h => by
    have h' : i < t.length := by simpa using h
    show (R j).add (sumF R t) = ((R j).add (sumF R (t.eraseIdx i))).add (R t[i])
    rw [sumF_erase (js := t) (i := i) h', Row.add_assoc]
theorem sumF_n {R : Nat → Row} : ∀ {js : List Nat}, (∀ j ∈ js, 0 ≤ (R j).n) → 0 ≤ (sumF R js).n ∧ ∀ j ∈ js, (R j).n ≤ (sumF R js).n
  | [], _ => ⟨Int.le_refl _, fun j h => by cases h⟩
  | x :: t, h => by
    obtain ⟨a, b⟩ := sumF_n (js := t) fun j hj => h j (List.mem_cons_of_mem _ hj)
    have c := h x List.mem_cons_self
    have e : (sumF R (x :: t)).n = (R x).n + (sumF R t).n := rfl
    refine ⟨by omega, fun j hj => ?_⟩
    rcases List.mem_cons.mp hj with z | z
    · subst z; omega
    · have := b j z; omega
theorem sumF_nil : ∀ js : List Nat, sumF newR js = Row.nil
  | [] => rfl
  | j :: t => by
    show Row.nil.add (sumF newR t) = Row.nil
    rw [sumF_nil t]
    rfl
/-- the row of the cells -/
def rowC (tm : Int → Int) : List Int → Row
  | [] => Row.nil
  | c :: t => (rowC tm t).add (Row.one (readM c) (tm c))
theorem rowC_snoc (tm : Int → Int) : ∀ (cs : List Int) (c : Int), rowC tm (cs ++ [c]) = (rowC tm cs).add (Row.one (readM c) (tm c))
  | [], c => rfl
  | x :: t, c => by
    show (rowC tm (t ++ [c])).add _ = ((rowC tm t).add _).add _
    rw [rowC_snoc tm t c, Row.add_assoc, Row.add_assoc, Row.add_comm (Row.one (readM c) (tm c))]
theorem newS_put (k n : Nat) : put (newS k) n (CupM.new k) = newS k := by
  funext i
  unfold put newS
  split <;> rfl
theorem ix_nat {i n : Nat} (h : i < n) : seqIndex? (i : Int) n = some i := by
  unfold seqIndex?
  simp
  omega
theorem pickL_erase (A : Nat → Addr × Addr) : ∀ (js : List Nat) (i : Nat), (pickL A js).eraseIdx i = pickL A (js.eraseIdx i)
  | [], _ => rfl
  | j :: t, 0 => rfl
  | j :: t, i + 1 => by
    show V.ref (A j).1 :: (pickL A t).eraseIdx i = V.ref (A j).1 :: pickL A (t.eraseIdx i)
    rw [pickL_erase A t i]
/-- what is held, none of it in the list pl -/
def HeldW (H : Hp) (ph pl : Addr) (xs : List V) (hs : List (List E)) : Prop := xs.length = hs.length ∧ ∀ (i : Nat) (es : List E), hs[i]? = some es → ∃ t pk, xs[i]? = some (.ref t) ∧ H t = some (.tup [.ref pk, .str (dEs es).shown]) ∧ Ents H pk es ∧ pk ≠ ph ∧ pk ≠ pl ∧ SmE es ∧ es.length ≤ 10000
theorem HeldV.toW {H : Hp} {ph pl : Addr} {xs : List V} {hs : List (List E)} (h : HeldV H ph xs hs) (hp : H pl = none) : HeldW H ph pl xs hs := by
  refine ⟨h.1, fun i es he => ?_⟩
  obtain ⟨t, pk, h1, h2, h3, h4, h5, h6⟩ := h.2 i es he
  refine ⟨t, pk, h1, h2, h3, h4, fun e => ?_, h5, h6⟩
  obtain ⟨ys, y1, _⟩ := h3
  rw [e, hp] at y1
  cases y1
theorem HeldW.toV {H : Hp} {ph pl : Addr} {xs : List V} {hs : List (List E)} (h : HeldW H ph pl xs hs) : HeldV H ph xs hs := by
  refine ⟨h.1, fun i es he => ?_⟩
  obtain ⟨t, pk, h1, h2, h3, h4, _, h5, h6⟩ := h.2 i es he
  exact ⟨t, pk, h1, h2, h3, h4, h5, h6⟩
theorem HeldW.imm {H H' : Hp} {ph pl : Addr} {xs : List V} {hs : List (List E)} (h : HeldW H ph pl xs hs) (i : ∀ a ys, H a = some (.lst ys) → a ≠ ph → a ≠ pl → H' a = some (.lst ys)) (i2 : ∀ a ys, H a = some (.tup ys) → H' a = some (.tup ys)) : HeldW H' ph pl xs hs := by
  refine ⟨h.1, fun j es he => ?_⟩
  obtain ⟨t, pk, h1, h2, ⟨ys, y1, y2⟩, h4, h4', h5, h6⟩ := h.2 j es he
  exact ⟨t, pk, h1, i2 _ _ h2, ⟨ys, i _ _ y1 h4 h4', y2.imm i2⟩, h4, h4', h5, h6⟩
theorem HeldW.same {H H' : Hp} {ph pl : Addr} {xs : List V} {hs : List (List E)} (h : HeldW H ph pl xs hs) (s : Same H H') : HeldW H' ph pl xs hs := h.imm (fun a ys h _ _ => s _ _ h) fun a ys h => s _ _ h
theorem HeldW.snoc {H : Hp} {ph pl t pk : Addr} {xs : List V} {hs : List (List E)} {es : List E} (h : HeldW H ph pl xs hs) (h1 : H t = some (.tup [.ref pk, .str (dEs es).shown])) (h2 : Ents H pk es) (h3 : pk ≠ ph) (h3' : pk ≠ pl) (h4 : SmE es) (h5 : es.length ≤ 10000) : HeldW H ph pl (xs ++ [.ref t]) (hs ++ [es]) := by
  refine ⟨by simp [h.1], fun i e' hd => ?_⟩
  by_cases hi : i < hs.length
  · rw [List.getElem?_append_left hi] at hd
    obtain ⟨t', pk', t1, t2⟩ := h.2 i e' hd
    exact ⟨t', pk', by rw [List.getElem?_append_left (by rw [h.1]; exact hi)]; exact t1, t2⟩
  · rw [List.getElem?_append_right (by omega)] at hd
    have e0 : i - hs.length = 0 := by
      by_cases e : i - hs.length = 0
      · exact e
      · rw [List.getElem?_eq_none (by simp; omega)] at hd
        cases hd
    rw [e0] at hd
    have : es = e' := by simpa using hd
    subst this
    refine ⟨t, pk, ?_, h1, h2, h3, h3', h4, h5⟩
    rw [List.getElem?_append_right (by rw [h.1]; omega), h.1, e0]
    rfl
end RB

local macro_rules | `(tactic| walk_at "rd") => `(tactic| (repeat (first
  | ((with_reducible show L2.tVar _ _ _ _); refine RB.r_var rfl ?_)
  | with_reducible refine RB.r_c ?_
  | with_reducible refine RB.r_op ?_
  | with_reducible refine RB.r_un ?_
  | with_reducible refine RB.r_I0 ?_
  | with_reducible refine RB.r_U ?_
  | with_reducible refine RB.r_eqI ?_
  | with_reducible refine RB.r_neI ?_
  | ((with_reducible refine RB.r_I ?_ ?_); focus (first | (show (0 : Int) < _; decide) | (apply RB.mulL; decide) | (apply RB.mulR; decide) | (refine ⟨?_, ?_⟩ <;> decide) | (refine ⟨?_, ?_, ?_⟩ <;> decide) | (apply RB.mulL; omega) | (apply RB.mulR; omega) | (show (0 : Int) < _; omega) | (refine ⟨?_, ?_⟩ <;> omega)))
  | with_reducible refine RB.r_test ?_
  | with_reducible refine RB.r_B ?_
  | with_reducible refine RB.r_bl ?_
  | with_reducible refine RB.r_seq ?_
  | with_reducible refine RB.r_asg ?_
  | with_reducible refine RB.r_name ?_
  | with_reducible refine RB.r_ret ?_
  | with_reducible refine RB.r_drop ?_
  | with_reducible refine RB.r_next ?_
  | with_reducible refine RB.r_ifS ?_
  | with_reducible refine RB.r_and ?_
  | with_reducible refine RB.r_or ?_
  | with_reducible refine RB.r_not ?_
  | with_reducible refine RB.r_notV ?_
  | with_reducible refine RB.r_andV ?_
  | with_reducible refine RB.r_orV ?_
  | with_reducible refine RB.r_cb ?_
  | with_reducible refine RB.r_call ?_
  | with_reducible refine RB.r_nil ?_
  | with_reducible refine RB.r_cons ?_
  | with_reducible refine RB.r_lst ?_
  | with_reducible refine RB.r_tup ?_
  | with_reducible refine RB.r_lc ?_
  | with_reducible refine RB.r_for ?_
  | with_reducible refine RB.r_iList ?_
  | with_reducible refine RB.r_iTup ?_
  | with_reducible refine RB.r_iEnum ?_
  | with_reducible refine RB.r_iZip ?_
  | with_reducible refine RB.r_iZipA ?_
  | with_reducible refine RB.r_iRng1 ?_
  | with_reducible refine RB.r_iKeys ?_
  | with_reducible refine RB.r_odds ?_
  | with_reducible refine RB.r_tupG ?_
  | with_reducible refine RB.r_consG ?_
  | with_reducible refine RB.r_nilG ?_
  | with_reducible refine RB.r_yes ?_
  | with_reducible refine RB.r_bm ?_
  | with_reducible refine RB.r_bm0 ?_
  | with_reducible refine RB.r_par ?_
  | with_reducible refine RB.r_two ?_
  | with_reducible refine RB.r_retN ?_
  | with_reducible refine RB.r_callS ?_
  | with_reducible refine RB.r_ckw ?_
  | with_reducible refine RB.r_fld ?_
  | with_reducible refine RB.r_setF ?_
  | with_reducible refine RB.r_meth ?_
  | with_reducible refine RB.r_dget ?_
  | with_reducible refine RB.r_din ?_
  | with_reducible refine RB.r_dnotin ?_
  | with_reducible refine RB.r_dpop1 ?_
  | with_reducible refine RB.r_dget2 ?_
  | with_reducible refine RB.r_dput ?_
  | with_reducible refine RB.r_dnew ?_
  | with_reducible refine RB.r_chain ?_
  | with_reducible refine RB.r_par3 ?_
  | with_reducible refine RB.r_items ?_
  | with_reducible refine RB.r_sub ?_
  | with_reducible refine RB.r_three ?_
  | with_reducible refine RB.r_make ?_
  | with_reducible refine RB.r_makeS ?_
  | with_reducible refine RB.r_methX ?_
  | with_reducible refine RB.r_try ?_
  | with_reducible refine RB.r_look ?_
  | with_reducible refine RB.r_slice ?_
  | with_reducible refine RB.r_part ?_
  | with_reducible refine RB.r_nopart ?_
  | with_reducible refine RB.r_isN ?_
  | with_reducible refine RB.r_notN ?_
  | with_reducible refine RB.r_int1 ?_
  | with_reducible refine RB.if_t ?_
  | with_reducible refine RB.if_nf ?_
  | with_reducible refine RB.if_nt ?_
  | with_reducible refine RB.r_isiI ?_
  | with_reducible refine RB.r_isiIb ?_
  | with_reducible refine RB.if_f ?_)); try dsimp only)
local macro_rules | `(tactic| walk_at "ifd") => `(tactic| (with_reducible apply RB.if_d))
local macro_rules | `(tactic| walk_at "ifb") => `(tactic| (with_reducible apply RB.if_b))
local macro_rules | `(tactic| walk_at "ifn") => `(tactic| (with_reducible apply RB.if_nd))

namespace RB
open PySem PySem.Spec PyProof.Rows L2
/-! ### the text by places -/
def top (i : Nat) : Stmt := PySem.Challenge.pw_rankbounds_k09_whole_any_pouring.main.body.getD i (.Pass ⟨0, 0, 0, 0⟩)
end RB

namespace RB
open PySem PySem.Spec PyProof.Rows L2
/-- a def that can be called by its name -/
structure Cal (P : Program) (w : World) (K : PySem.W.Frag) (mg : Str → Option Value) (base : Heap) (CX : CXT) (k : Nat) (x : Str) (ps : List Str) (sp : Sp) : Prop where
  ex : ∃ (f : Addr) (fd : FuncData), FnOk P w K mg base CX k f fd ps sp ∧ mg x = some (.ref f) ∧ PySem.W.keepIn K (.ref f) = true ∧ Binds K fd ps []
/-- a def of the text as the top has left it -/
structure DefAt (K : PySem.W.Frag) (mg : Str → Option Value) (x : Str) (st : Stmt) (ps : List Str) : Prop where
  ex : ∃ (f : Addr) (fd : FuncData), Fun K x x st f fd ∧ mg x = some (.ref f) ∧ Binds K fd ps []
def sp_l_cell (K : PySem.W.Frag) : Sp := fun vs H Q _ => ∃ (a : Addr) (ns : List Int) (k : Int), vs = [.ref a, .int k] ∧ SqL K H a (ns.map V.int) ∧ 0 ≤ k ∧ Q (.int (cellM ns k)) H
def sp_l_mixed : Sp := fun vs H Q _ => ∃ c k : Int, vs = [.int c, .int k] ∧ (0 ≤ k ∧ k < 1000000) ∧ Q (.int (mixM c k)) H
def sp_l_reading : Sp := fun vs H Q _ => ∃ c : Int, vs = [.int c] ∧ RetV (.int (readM c)) H Q
end RB
namespace RB
open PySem PySem.Spec PyProof.Rows L2
structure LawAt (K : PySem.W.Frag) (mg : Str → Option Value) (st : Stmt) : Prop where
  ex : ∃ (f : Addr) (fd : FuncData), Fun K "law" "law" st f fd ∧ mg "law" = some (.ref f) ∧ ∀ (s : Shared) (v : Value), BindsTo s fd ⟨[v], []⟩ [("_law_script", v)]
theorem def_mk {K : PySem.W.Frag} {h : Heap} {mg : Str → Option Value} {x : Str} {st : Stmt} {ps : List Str} {f : Addr} {oc : Value} {od an : Option Addr} {sl : Array (Option Value)} {kV dc pm cd ct : Value} (X : K.In h) (G : h.Ns mainGlobals mg)
    (a : PySem.W.nsIn K mainGlobals x = some (some (.ref f))) (l : K.lookup f = some ⟨oc, od, .func (PySem.W.fnOf x x (defArgs st) (defBody st) (defScope st) .none kV dc pm an cd ct), sl⟩) (c : PySem.W.codeIn K cd x = true) (k : PySem.W.keepIn K (.ref f) = true)
    (hb : ∀ (kV doc pm : Value) (an : Option Addr) (cdv ct : Value) (us : List Value), us.length = ps.length → bindArgs (PySem.W.fnOf x x (defArgs st) (defBody st) (defScope st) .none kV doc pm an cdv ct) ⟨us, []⟩ = pure (ps.zip us)) : DefAt K mg x st ps :=
  ⟨f, _, fun_mk (st := st) l c k, PySem.W.mg_of X G a, (fun_mk (st := st) l c k).binds hb⟩
theorem law_mk {K : PySem.W.Frag} {h : Heap} {mg : Str → Option Value} {st : Stmt} {f : Addr} {oc : Value} {od an : Option Addr} {sl : Array (Option Value)} {kV dc pm cd ct : Value} (X : K.In h) (G : h.Ns mainGlobals mg)
    (a : PySem.W.nsIn K mainGlobals "law" = some (some (.ref f))) (l : K.lookup f = some ⟨oc, od, .func (PySem.W.fnOf "law" "law" (defArgs st) (defBody st) (defScope st) .none kV dc pm an cd ct), sl⟩) (c : PySem.W.codeIn K cd "law" = true) (k : PySem.W.keepIn K (.ref f) = true)
    (hb : ∀ (kV doc pm : Value) (an : Option Addr) (cdv ct : Value) (s : Shared) (v : Value), BindsTo s (PySem.W.fnOf "law" "law" (defArgs st) (defBody st) (defScope st) .none kV doc pm an cdv ct) ⟨[v], []⟩ [("_law_script", v)]) : LawAt K mg st :=
  ⟨f, _, fun_mk (st := st) l c k, PySem.W.mg_of X G a, hb _ _ _ _ _ _⟩
end RB

namespace RB
open PySem PySem.Spec PyProof.Rows L2
/-! ### exact, halved -/
theorem enumE_range (l : List Int) : enumE 0 l = (List.range l.length).map fun i => (l.getD i 0, (i : Int), (i : Int)) := by
  apply List.ext_getElem?
  intro i
  rw [enumE_get, List.getElem?_map]
  by_cases h : i < l.length
  · rw [List.getElem?_eq_getElem h, List.getElem?_range h]
    simp [List.getD_eq_getElem?_getD, List.getElem?_eq_getElem h]
  · rw [List.getElem?_eq_none (by omega), List.getElem?_eq_none (by simp; omega)]
    rfl
def sp_exact : Sp := fun vs H Q _ => ∃ (a : Addr) (row : List Int), vs = [.ref a] ∧ H a = some (.lst (row.map V.int)) ∧ row.length ≤ 100000 ∧ RetE (exactM row) H Q
def sp_halved : Sp := fun vs H Q _ => ∃ (a : Addr) (es : List E), vs = [.ref a] ∧ Ents H a es ∧ RetE (halvedM es) H Q
abbrev S_exact : Stmt := top 2
theorem sc_exact : FnScope ["row", "place", "reading"] ["row"] (defScope S_exact) := ⟨rfl, rfl, rfl, by decide +kernel, rfl, by decide +kernel, by decide +kernel⟩
abbrev S_halved : Stmt := top 10
theorem sc_halved : FnScope ["entries"] ["entries"] (defScope S_halved) := ⟨rfl, rfl, rfl, by decide +kernel, rfl, by decide +kernel, by decide +kernel⟩
section
variable {P : Program} {w : World} {K : PySem.W.Frag} {mg : Str → Option Value} {base : Heap}
theorem ok_exact (D : DefAt K mg "exact" S_exact ["row"]) (m_sorted : mg "sorted" = none) (m_enumerate : mg "enumerate" = none) : Cal P w K mg base CX0 1 "exact" ["row"] sp_exact := by
  obtain ⟨f, fd, F, m, b⟩ := D.ex
  refine ⟨f, fd, F.ok sc_exact (fun vs H Q E h => ?_) (fun cdv A outer s H vs Q E hr h => ?_), m, F.kp, b⟩
  · obtain ⟨a, row, rfl, _⟩ := h
    rfl
  · obtain ⟨a, row, rfl, ha, hl, q⟩ := h
    refine ⟨_, (pss_one (ps_ret (pe_lc (own := [("place", 1), ("reading", 2)]) (g := (gTup K 2 (gCons (gName 1) (gCons (gName 2) gNil)))) (tt := tYes) rfl sc_exact.nd (pi_enum rfl m_enumerate (pa_cons (pe_callB cr_sortedI rfl m_sorted (by decide +kernel) (pa_cons (pv 0) pa_nil)) pa_nil)) (blkOk_by (N := ["row", "place", "reading"]) (sc := defScope S_exact) (by decide +kernel)) (fun _ _ _ _ _ => by exact (pg_tup rfl (pgs_cons (pg_name (i := 1) sc_exact.nd rfl (Or.inl rfl)) (pgs_cons (pg_name (i := 2) sc_exact.nd rfl (Or.inl rfl)) pgs_nil)))) (fun _ _ _ _ _ => by exact pts_nil) (fun _ _ _ _ _ => by exact (pe_tup (pa_cons (pv 2) (pa_cons (pv 1) (pa_cons (pv 1) pa_nil)))))))), ?_⟩
    walk_at "rd"
    refine ⟨a, row, rfl, SqL.of ha, fun ns p hp hs hnew => ?_⟩
    obtain rfl := srt_of hp hs
    walk_at "rd"
    refine ⟨p, (srt row).map V.int, rfl, SqL.of upd_same, ?_⟩
    have hlen : ((srt row).map V.int).length = row.length := by rw [List.length_map, srt_length]
    refine lc_gen (walk_enum (xs := (srt row).map V.int)) (fun _ => true) (PTri fun i => ((srt row).getD i 0, (i : Int), (i : Int))) (by rw [hlen]; omega) (SqL.of upd_same) (fun H H' s h => s.seq h)
      PTri.same PTri.lst (fun i hi H1 s1 _ x H' y => ?_) (fun D ys H1 hD s1 h1 M => ?_)
    · obtain ⟨T, x1, x2, rfl, hT, rfl, e1, e2⟩ := y
      cases e1
      rw [hlen] at hi
      have e3 : x2 = .int ((srt row).getD i 0) := by
        dsimp only at e2
        rw [List.getElem?_map, List.getElem?_eq_getElem (by rw [srt_length]; exact hi)] at e2
        rw [List.getD_eq_getElem?_getD, List.getElem?_eq_getElem (by rw [srt_length]; exact hi)]
        exact (Option.some.inj e2).symm
      subst e3
      refine ⟨Same.new hT, fun R S hy _ => ?_⟩
      walk_at "rd"
      refine ⟨T, _, rfl, .inl (.inl upd_same), rfl, ?_⟩
      walk_at "rd"
      refine ⟨rfl, ?_⟩
      walk_at "rd"
      refine ⟨by show 3 ≤ sizeLine; decide, fun u hu => ?_⟩
      exact hy rfl _ _ (Same.new hu) ⟨u, rfl, upd_same⟩
    · refine q.go (Same.new hnew) (by exact hD) s1 ⟨ys, h1, ?_⟩
      have M' := M.tris
      rw [pickN_all, hlen] at M'
      have e : exactM row = (List.range row.length).map fun i => ((srt row).getD i 0, (i : Int), (i : Int)) := by
        unfold exactM
        rw [enumE_range, srt_length]
      rw [e]
      exact M'
theorem ok_halved (D : DefAt K mg "halved" S_halved ["entries"]) : Cal P w K mg base CX0 1 "halved" ["entries"] sp_halved := by
  obtain ⟨f, fd, F, m, b⟩ := D.ex
  refine ⟨f, fd, F.ok sc_halved (fun vs H Q E h => ?_) (fun cdv A outer s H vs Q E hr h => ?_), m, F.kp, b⟩
  · obtain ⟨a, row, rfl, _⟩ := h
    rfl
  · obtain ⟨a, es, rfl, ⟨xs, ha, hx⟩, q⟩ := h
    refine ⟨_, (pss_one (ps_ret (pe_odds (pv 0)))), ?_⟩
    walk_at "rd"
    refine ⟨a, xs, rfl, SqL.of ha, fun p hp => q p _ hp (Same.new hp) ⟨oddsV xs, upd_same, ?_, fun i e he => ?_⟩⟩
    · rw [oddsV_length, halvedM_length, hx.1]
    · rw [← oddsV_halved, oddsV_get] at he
      obtain ⟨t, h1, h2⟩ := hx.2 _ e he
      exact ⟨t, by rw [oddsV_get]; exact h1, by rw [upd_ne (ne_of_none h2 hp)]; exact h2⟩
end
end RB

namespace RB
open PySem PySem.Spec PyProof.Rows L2
/-! ### upto, below, least_of, most_of, moved, joined -/
def sp_upto : Sp := fun vs H Q _ => ∃ (a : Addr) (es : List E) (r : Int), vs = [.ref a, .int r] ∧ Ents H a es ∧ Srtd es ∧ Q (.int (upTo es r : Nat)) H
def sp_below : Sp := fun vs H Q _ => ∃ (a : Addr) (es : List E) (r : Int), vs = [.ref a, .int r] ∧ Ents H a es ∧ Srtd es ∧ Q (.int (upTo es (r - 1) : Nat)) H
def sp_least_of : Sp := fun vs H Q _ => ∃ (a : Addr) (es : List E) (c : Nat), vs = [.ref a, .int (c : Int)] ∧ Ents H a es ∧ c ≤ es.length ∧ Q (.int (leastOf es c)) H
def sp_most_of : Sp := fun vs H Q _ => ∃ (a : Addr) (es : List E) (c : Nat) (many : Int), vs = [.ref a, .int (c : Int), .int many] ∧ Ents H a es ∧ c ≤ es.length ∧ Q (.int (mostOf es c many)) H
def sp_moved : Sp := fun vs H Q _ => ∃ (a b : Addr) (es os : List E) (more : Int), vs = [.ref a, .ref b, .int more] ∧ Ents H a es ∧ Ents H b os ∧ Srtd os ∧ es.length ≤ 100000 ∧ RetE (movedM es os more) H Q
def sp_joined : Sp := fun vs H Q _ => ∃ (a b : Addr) (es os : List E) (many more : Int), vs = [.ref a, .int many, .ref b, .int more] ∧ Ents H a es ∧ Ents H b os ∧ Srtd es ∧ Srtd os ∧ es.length ≤ 100000 ∧ os.length ≤ 100000 ∧ RetE (joinM es many os more) H Q
theorem Ents.at_ {H : Hp} {a : Addr} {es : List E} {xs : List V} (ha : H a = some (.lst xs)) (h : Ents H a es) {i : Nat} (hi : i < es.length) : ∃ t, xs[i]? = some (.ref t) ∧ H t = some (tri es[i]) := by
  obtain ⟨ys, h1, h2⟩ := h
  rw [ha] at h1
  cases h1
  exact h2.2 i _ (List.getElem?_eq_getElem hi)
abbrev S_upto : Stmt := top 3
theorem sc_upto : FnScope ["entries", "reading", "low", "high", "middle"] ["entries", "reading"] (defScope S_upto) := ⟨rfl, rfl, rfl, by decide +kernel, rfl, by decide +kernel, by decide +kernel⟩
abbrev S_below : Stmt := top 4
theorem sc_below : FnScope ["entries", "reading"] ["entries", "reading"] (defScope S_below) := ⟨rfl, rfl, rfl, by decide +kernel, rfl, by decide +kernel, by decide +kernel⟩
abbrev S_least_of : Stmt := top 5
theorem sc_least_of : FnScope ["entries", "count"] ["entries", "count"] (defScope S_least_of) := ⟨rfl, rfl, rfl, by decide +kernel, rfl, by decide +kernel, by decide +kernel⟩
abbrev S_most_of : Stmt := top 6
theorem sc_most_of : FnScope ["entries", "count", "many"] ["entries", "count", "many"] (defScope S_most_of) := ⟨rfl, rfl, rfl, by decide +kernel, rfl, by decide +kernel, by decide +kernel⟩
abbrev S_moved : Stmt := top 7
theorem sc_moved : FnScope ["entries", "others", "more", "found", "reading", "least", "most"] ["entries", "others", "more"] (defScope S_moved) := ⟨rfl, rfl, rfl, by decide +kernel, rfl, by decide +kernel, by decide +kernel⟩
abbrev S_joined : Stmt := top 9
theorem sc_joined : FnScope ["ones", "many", "others", "more", "both"] ["ones", "many", "others", "more"] (defScope S_joined) := ⟨rfl, rfl, rfl, by decide +kernel, rfl, by decide +kernel, by decide +kernel⟩
abbrev S_reading_of : Stmt := top 8
theorem sc_reading_of : FnScope ["entry"] ["entry"] (defScope S_reading_of) := ⟨rfl, rfl, rfl, by decide +kernel, rfl, by decide +kernel, by decide +kernel⟩
theorem isF_reading_of : IsFirst "entry" (defBody S_reading_of) := ⟨_, _, _, _, _, rfl⟩
section
variable {P : Program} {w : World} {K : PySem.W.Frag} {mg : Str → Option Value} {base : Heap}
theorem ok_upto (D : DefAt K mg "upto" S_upto ["entries", "reading"]) (m_len : mg "len" = none) : Cal P w K mg base CX0 1 "upto" ["entries", "reading"] sp_upto := by
  obtain ⟨f, fd, F, m, b⟩ := D.ex
  refine ⟨f, fd, F.ok sc_upto (fun vs H Q E h => ?_) (fun cdv A outer s H vs Q E hr h => ?_), m, F.kp, b⟩
  · obtain ⟨a, es, r, rfl, _⟩ := h
    rfl
  · obtain ⟨a, es, r, rfl, ⟨xs, ha, hx⟩, hs, q⟩ := h
    have hE : Ents H a es := ⟨xs, ha, hx⟩
    refine ⟨_, (pss_cons (ps_par (i := 2) (j := 3) rfl sc_upto.nd rfl rfl (by decide) rfl rfl (pa_cons pe_int (pa_cons (pe_callB call_len_seq rfl m_len (by decide +kernel) (pa_cons (pv 0) pa_nil)) pa_nil)) rfl)
      (pss_cons (ps_while PassesOwn.never (pt_cmpR op_lt (pv 2) (pv 3) (nomark _)) (pss_cons (ps_set (i := 4) sc_upto.nd rfl (Or.inl rfl) (pe_op op_fdiv (pe_op op_add (pv 2) (pv 3)) pe_int))
      (pss_one (ps_if (pt_cmpR op_le (pe_ix (ixT (K := K) rfl) (pe_ix (ixL (K := K) rfl) (pv 0) (pv 4) (fun _ _ => rfl)) pe_int (fun _ _ => rfl)) (pv 1) (nomark _)) (pss_one (ps_set (i := 2) sc_upto.nd rfl (Or.inl rfl) (pe_op op_add (pv 4) pe_int))) (pss_one (ps_set (i := 3) sc_upto.nd rfl (Or.inl rfl) (pv 4)))))))
      (pss_one (ps_ret (pv 2))))), ?_⟩
    walk_at "rd"
    refine ⟨a, xs, rfl, .inl (SqL.of ha), ?_⟩
    walk_at "rd"
    have hu := upTo_le es r
    refine ⟨fun m σ H' => H' = H ∧ ∃ (lo hi : Nat) (v4 : Option V), m = hi - lo ∧ lo ≤ upTo es r ∧ upTo es r ≤ hi ∧ hi ≤ es.length ∧ σ = [some (.ref a), some (.int r), some (.int (lo : Int)), some (.int (hi : Int)), v4],
      ⟨es.length, rfl, 0, es.length, none, by omega, by omega, by omega, by omega, by rw [hx.1]; rfl⟩, fun m σ H' hw => ?_⟩
    obtain ⟨rfl, lo, hi, v4, rfl, h1, h2, h3, rfl⟩ := hw
    walk_at "rd"
    refine if_d (fun c => ?_) (fun c => ?_)
    · refine ⟨fun σ H'' => ∃ m', m' < hi - lo ∧ (H'' = H' ∧ ∃ (lo hi : Nat) (v4 : Option V), m' = hi - lo ∧ lo ≤ upTo es r ∧ upTo es r ≤ hi ∧ hi ≤ es.length ∧ σ = [some (.ref a), some (.int r), some (.int (lo : Int)), some (.int (hi : Int)), v4]), fun _ _ h => h, ?_⟩
      obtain ⟨md, emd⟩ : ∃ md : Nat, md = (lo + hi) / 2 := ⟨_, rfl⟩
      have hm : ((lo : Int) + (hi : Int)) / 2 = (md : Int) := by omega
      have hml : md < es.length := by omega
      obtain ⟨t, t1, t2⟩ := hE.at_ ha hml
      walk_at "rd"
      rw [hm]
      refine ⟨a, xs, _, _, rfl, rfl, SqL.of ha, at_of (j := md) rfl t1, ?_⟩
      walk_at "rd"
      refine ⟨t, _, _, _, rfl, rfl, SqT.of' t2, at_of (j := 0) rfl rfl, ?_⟩
      have key := upTo_at hs (r := r) (List.getElem?_eq_getElem hml)
      walk_at "rd"
      refine if_d (fun c2 => ?_) (fun c2 => ?_)
      · have := key.mp c2
        walk_at "rd"
        exact ⟨hi - (md + 1), by omega, rfl, md + 1, hi, _, rfl, by omega, h2, h3, by rw [Int.natCast_add]; rfl⟩
      · have : ¬ md < upTo es r := fun z => c2 (key.mpr z)
        walk_at "rd"
        exact ⟨md - lo, by omega, rfl, lo, md, _, rfl, h1, by omega, by omega, rfl⟩
    · have e : lo = upTo es r := by omega
      walk_at "rd"
      rw [e]
      exact q
theorem ok_below (D : DefAt K mg "below" S_below ["entries", "reading"]) (c_upto : Cal P w K mg base CX0 1 "upto" ["entries", "reading"] sp_upto) : Cal P w K mg base CX0 2 "below" ["entries", "reading"] sp_below := by
  obtain ⟨f, fd, F, m, b⟩ := D.ex
  obtain ⟨f_upto, fd_upto, G_upto, m_upto, k_upto, b_upto⟩ := c_upto
  refine ⟨f, fd, F.ok sc_below (fun vs H Q E h => ?_) (fun cdv A outer s H vs Q E hr h => ?_), m, F.kp, b⟩
  · obtain ⟨a, es, r, rfl, _⟩ := h
    rfl
  · obtain ⟨a, es, r, rfl, hE, hs, q⟩ := h
    refine ⟨_, (pss_one (ps_ret (pe_call G_upto (hr.mono (by decide)) rfl m_upto k_upto b_upto .nil pass0 (pa_cons (pv 0) (pa_cons (pe_op op_sub (pv 1) pe_int) pa_nil))))), ?_⟩
    walk_at "rd"
    exact ⟨a, es, _, rfl, hE, hs, q⟩
theorem ok_least_of (D : DefAt K mg "least_of" S_least_of ["entries", "count"]) : Cal P w K mg base CX0 1 "least_of" ["entries", "count"] sp_least_of := by
  obtain ⟨f, fd, F, m, b⟩ := D.ex
  refine ⟨f, fd, F.ok sc_least_of (fun vs H Q E h => ?_) (fun cdv A outer s H vs Q E hr h => ?_), m, F.kp, b⟩
  · obtain ⟨a, es, c, rfl, _⟩ := h
    rfl
  · obtain ⟨a, es, c, rfl, ⟨xs, ha, hx⟩, hc, q⟩ := h
    have hE : Ents H a es := ⟨xs, ha, hx⟩
    refine ⟨_, (pss_cons (ps_if (pt_cmpR op_eq (pv 1) pe_int (nomark _)) (pss_one (ps_ret pe_int)) pss_nil)
      (pss_one (ps_ret (pe_op op_add (pe_ix (ixT (K := K) rfl) (pe_ix (ixL (K := K) rfl) (pv 0) (pe_op op_sub (pv 1) pe_int) (fun _ _ => rfl)) pe_int (fun _ _ => rfl)) pe_int)))), ?_⟩
    walk_at "rd"
    refine if_d (fun c0 => ?_) (fun c0 => ?_)
    · have e : leastOf es c = 0 := if_pos (by omega)
      walk_at "rd"
      rw [e] at q
      exact q
    · have e : leastOf es c = (es.getD (c - 1) (0, 0, 0)).2.1 + 1 := if_neg (by omega)
      have hl : c - 1 < es.length := by omega
      obtain ⟨t, t1, t2⟩ := hE.at_ ha hl
      rw [e, List.getD_eq_getElem?_getD, List.getElem?_eq_getElem hl] at q
      walk_at "rd"
      refine ⟨a, xs, _, _, rfl, rfl, SqL.of ha, at_of (j := c - 1) (by omega) t1, ?_⟩
      walk_at "rd"
      refine ⟨t, _, _, _, rfl, rfl, SqT.of' t2, at_of (j := 1) rfl rfl, ?_⟩
      walk_at "rd"
      exact q
theorem ok_most_of (D : DefAt K mg "most_of" S_most_of ["entries", "count", "many"]) (m_len : mg "len" = none) : Cal P w K mg base CX0 1 "most_of" ["entries", "count", "many"] sp_most_of := by
  obtain ⟨f, fd, F, m, b⟩ := D.ex
  refine ⟨f, fd, F.ok sc_most_of (fun vs H Q E h => ?_) (fun cdv A outer s H vs Q E hr h => ?_), m, F.kp, b⟩
  · obtain ⟨a, es, c, many, rfl, _⟩ := h
    rfl
  · obtain ⟨a, es, c, many, rfl, ⟨xs, ha, hx⟩, hc, q⟩ := h
    have hE : Ents H a es := ⟨xs, ha, hx⟩
    refine ⟨_, (pss_cons (ps_if (pt_cmpR op_eq (pv 1) (pe_callB call_len_seq rfl m_len (by decide +kernel) (pa_cons (pv 0) pa_nil)) (nomark _)) (pss_one (ps_ret (pv 2))) pss_nil)
      (pss_one (ps_ret (pe_ix (ixT (K := K) rfl) (pe_ix (ixL (K := K) rfl) (pv 0) (pv 1) (fun _ _ => rfl)) pe_int (fun _ _ => rfl))))), ?_⟩
    walk_at "rd"
    refine ⟨a, xs, rfl, .inl (SqL.of ha), ?_⟩
    rw [hx.1]
    walk_at "rd"
    refine if_d (fun c0 => ?_) (fun c0 => ?_)
    · have e : mostOf es c many = many := if_pos (by omega)
      walk_at "rd"
      rw [e] at q
      exact q
    · have e : mostOf es c many = (es.getD c (0, 0, 0)).2.2 := if_neg (by omega)
      have hl : c < es.length := by omega
      obtain ⟨t, t1, t2⟩ := hE.at_ ha hl
      rw [e, List.getD_eq_getElem?_getD, List.getElem?_eq_getElem hl] at q
      walk_at "rd"
      refine ⟨a, xs, _, _, rfl, rfl, SqL.of ha, at_of (j := c) rfl t1, ?_⟩
      walk_at "rd"
      exact ⟨t, _, _, _, rfl, rfl, SqT.of' t2, at_of (j := 2) rfl rfl, q⟩
theorem ok_moved (D : DefAt K mg "moved" S_moved ["entries", "others", "more"]) (c_upto : Cal P w K mg base CX0 1 "upto" ["entries", "reading"] sp_upto) (c_below : Cal P w K mg base CX0 2 "below" ["entries", "reading"] sp_below)
    (c_least_of : Cal P w K mg base CX0 1 "least_of" ["entries", "count"] sp_least_of) (c_most_of : Cal P w K mg base CX0 1 "most_of" ["entries", "count", "many"] sp_most_of) : Cal P w K mg base CX0 3 "moved" ["entries", "others", "more"] sp_moved := by
  obtain ⟨f, fd, F, m, b⟩ := D.ex
  obtain ⟨f_upto, fd_upto, G_upto, m_upto, k_upto, b_upto⟩ := c_upto
  obtain ⟨f_below, fd_below, G_below, m_below, k_below, b_below⟩ := c_below
  obtain ⟨f_least_of, fd_least_of, G_least_of, m_least_of, k_least_of, b_least_of⟩ := c_least_of
  obtain ⟨f_most_of, fd_most_of, G_most_of, m_most_of, k_most_of, b_most_of⟩ := c_most_of
  refine ⟨f, fd, F.ok sc_moved (fun vs H Q E h => ?_) (fun cdv A outer s H vs Q E hr h => ?_), m, F.kp, b⟩
  · obtain ⟨a, c, es, os, more, rfl, _⟩ := h
    rfl
  · obtain ⟨a, c, es, os, more, rfl, ⟨xs, ha, hx⟩, hO, hs, hl, q⟩ := h
    refine ⟨_, (pss_cons (ps_set (i := 3) sc_moved.nd rfl (Or.inl rfl) (pe_lst pa_nil))
      (pss_cons (ps_for PassesOwn.never rfl (pi_list (pv 0)) (pg_tup rfl (pgs_cons (pg_name (i := 4) sc_moved.nd rfl (Or.inl rfl)) (pgs_cons (pg_name (i := 5) sc_moved.nd rfl (Or.inl rfl)) (pgs_cons (pg_name (i := 6) sc_moved.nd rfl (Or.inl rfl)) pgs_nil)))) (pss_cons (ps_set (i := 5) sc_moved.nd rfl (Or.inl rfl) (pe_op op_add (pv 5) (pe_call G_least_of (hr.mono (by decide)) rfl m_least_of k_least_of b_least_of .nil pass0 (pa_cons (pv 1) (pa_cons (pe_call G_upto (hr.mono (by decide)) rfl m_upto k_upto b_upto .nil pass0 (pa_cons (pv 1) (pa_cons (pv 4) pa_nil))) pa_nil)))))
      (pss_cons (ps_set (i := 6) sc_moved.nd rfl (Or.inl rfl) (pe_op op_add (pv 6) (pe_call G_most_of (hr.mono (by decide)) rfl m_most_of k_most_of b_most_of .nil pass0 (pa_cons (pv 1) (pa_cons (pe_call G_below (hr.mono (by decide)) rfl m_below k_below b_below .nil pass0 (pa_cons (pv 1) (pa_cons (pv 4) pa_nil))) (pa_cons (pv 2) pa_nil))))))
      (pss_one (ps_expr (pe_bm PySem.F.plainAttrs_list PySem.F.slot_list_append PySem.F.type_list_append mt_append (pv 3) (pa_cons (pe_tup (pa_cons (pv 4) (pa_cons (pv 5) (pa_cons (pv 6) pa_nil)))) pa_nil)))))))
      (pss_one (ps_ret (pv 3))))), ?_⟩
    walk_at "rd"
    refine ⟨by show 0 ≤ sizeLine; decide, fun p hp => ?_⟩
    walk_at "rd"
    refine ⟨a, rfl, ⟨_, SqL.of ((Same.new hp) _ _ ha)⟩, ?_⟩
    refine for_go (walk_list (xs := xs)) (fun i σ H' => Same H H' ∧ (∃ ys, H' p = some (.lst ys) ∧ EntsV H' ys (movedM (es.take i) os more)) ∧ ∃ v4 v5 v6, σ = [some (.ref a), some (.ref c), some (.int more), some (.ref p), v4, v5, v6])
      ⟨Same.new hp, ⟨[], upd_same, EntsV.nil⟩, none, none, none, rfl⟩ (fun i σ H' _ z => SqL.of (z.1 _ _ ha)) (fun i x σ H1 H2 hi z y => ?_) (fun σ H1 z => ?_)
    · obtain ⟨s1, ⟨ys, hy, Y⟩, v4, v5, v6, rfl⟩ := z
      obtain ⟨rfl, e⟩ := y
      rw [hx.1] at hi
      obtain ⟨t, t1, t2⟩ := hx.2 i es[i] (List.getElem?_eq_getElem hi)
      rw [e] at t1
      cases t1
      have t3 := s1 _ _ t2
      have hO1 := hO.same s1
      have htk : es.take (i + 1) = es.take i ++ [es[i]] := by rw [List.take_succ_eq_append_getElem hi]
      have hmv : movedM (es.take (i + 1)) os more = movedM (es.take i) os more ++ [moveE os more es[i]] := by
        rw [htk]
        unfold movedM
        rw [List.map_append]
        rfl
      have hyl : ys.length ≤ 100000 := by
        rw [Y.1]
        unfold movedM
        rw [List.length_map, List.length_take]
        omega
      generalize es[i] = e0 at *
      walk_at "rd"
      refine ⟨t, _, rfl, SqT.of' t3, rfl, ?_⟩
      walk_at "rd"
      refine ⟨c, os, _, rfl, hO1, hs, ?_⟩
      walk_at "rd"
      refine ⟨c, os, _, rfl, hO1, upTo_le _ _, ?_⟩
      walk_at "rd"
      refine ⟨c, os, _, rfl, hO1, hs, ?_⟩
      walk_at "rd"
      refine ⟨c, os, _, _, rfl, hO1, upTo_le _ _, ?_⟩
      walk_at "rd"
      refine ⟨ty_lst hy, ?_⟩
      walk_at "rd"
      refine ⟨by show 3 ≤ sizeLine; decide, fun u hu => ?_⟩
      have nu : p ≠ u := ne_of_none hy hu
      walk_at "rd"
      refine ⟨p, ys, _, rfl, rfl, by rw [upd_ne nu]; exact hy, by rw [sizeLine_eq]; omega, ?_⟩
      refine ⟨Same.mut (s1.trans (Same.new hu)) hp, ⟨_, upd_same, ?_⟩, _, _, _, rfl⟩
      rw [hmv]
      refine EntsV.imm (H := upd H2 u (.tup [.int e0.1, .int (e0.2.1 + leastOf os (upTo os e0.1)), .int (e0.2.2 + mostOf os (upTo os (e0.1 - 1)) more)])) ?_ fun b cs hb => ?_
      · exact EntsV.snoc (Y.same (Same.new hu)) upd_same
      · rw [upd_ne (ne_of hb (by rw [upd_ne nu]; exact hy) (by intro z; cases z))]
        exact hb
    · obtain ⟨s1, ⟨ys, hy, Y⟩, v4, v5, v6, rfl⟩ := z
      rw [hx.1, List.take_length] at Y
      walk_at "rd"
      exact q p H1 hp s1 ⟨ys, hy, Y⟩
theorem ok_joined (D : DefAt K mg "joined" S_joined ["ones", "many", "others", "more"]) (D_reading_of : DefAt K mg "reading_of" S_reading_of ["entry"]) (m_sorted : mg "sorted" = none) (c_moved : Cal P w K mg base CX0 3 "moved" ["entries", "others", "more"] sp_moved) : Cal P w K mg base CX0 4 "joined" ["ones", "many", "others", "more"] sp_joined := by
  obtain ⟨f, fd, F, m, b⟩ := D.ex
  obtain ⟨f_reading_of, fd_reading_of, F_reading_of, m_reading_of, b_reading_of⟩ := D_reading_of.ex
  obtain ⟨f_moved, fd_moved, G_moved, m_moved, k_moved, b_moved⟩ := c_moved
  refine ⟨f, fd, F.ok sc_joined (fun vs H Q E h => ?_) (fun cdv A outer s H vs Q E hr h => ?_), m, F.kp, b⟩
  · obtain ⟨a, c, es, os, many, more, rfl, _⟩ := h
    rfl
  · obtain ⟨a, c, es, os, many, more, rfl, hA, hO, sA, sO, lA, lO, q⟩ := h
    refine ⟨_, (pss_cons (ps_set (i := 4) sc_joined.nd rfl (Or.inl rfl) (pe_op op_cat (pe_call G_moved (hr.mono (by decide)) rfl m_moved k_moved b_moved .nil pass0 (pa_cons (pv 0) (pa_cons (pv 2) (pa_cons (pv 3) pa_nil)))) (pe_call G_moved (hr.mono (by decide)) rfl m_moved k_moved b_moved .nil pass0 (pa_cons (pv 2) (pa_cons (pv 0) (pa_cons (pv 1) pa_nil))))))
      (pss_one (ps_ret (pe_callBK (cr_sortedBy F_reading_of sc_reading_of isF_reading_of b_reading_of (hr.mono (by decide)) rfl rfl) rfl m_sorted (by decide +kernel) (pa_cons (pv 4) pa_nil) (pk_cons (pe_glob (v := .ref f_reading_of) rfl m_reading_of rfl) pk_nil))))), ?_⟩
    walk_at "rd"
    refine ⟨a, c, es, os, more, rfl, hA, hO, sO, lA, fun p H1 hp s1 E1 => ?_⟩
    walk_at "rd"
    refine ⟨c, a, os, es, many, rfl, hO.same s1, hA.same s1, sA, lO, fun p2 H2 hp2 s2 E2 => ?_⟩
    obtain ⟨xs, x1, x2⟩ := E1.same s2
    obtain ⟨ys, y1, y2⟩ := E2
    have lx : xs.length = es.length := by rw [x2.1]; unfold movedM; rw [List.length_map]
    have ly : ys.length = os.length := by rw [y2.1]; unfold movedM; rw [List.length_map]
    walk_at "rd"
    refine ⟨p, p2, xs, ys, rfl, rfl, x1, y1, by rw [sizeLine_eq]; omega, fun p3 hp3 => ?_⟩
    walk_at "rd"
    have EV : EntsV (upd H2 p3 (.lst (xs ++ ys))) (xs ++ ys) (movedM es os more ++ movedM os es many) := by
      have h1 := x2.same (Same.new (o := .lst (xs ++ ys)) hp3)
      have h2 := y2.same (Same.new (o := .lst (xs ++ ys)) hp3)
      refine ⟨by rw [List.length_append, List.length_append, x2.1, y2.1], fun i e he => ?_⟩
      by_cases hi : i < (movedM es os more).length
      · rw [List.getElem?_append_left hi] at he
        obtain ⟨t, t1, t2⟩ := h1.2 i e he
        exact ⟨t, by rw [List.getElem?_append_left (by rw [x2.1]; exact hi)]; exact t1, t2⟩
      · rw [List.getElem?_append_right (by omega)] at he
        obtain ⟨t, t1, t2⟩ := h2.2 _ e he
        exact ⟨t, by rw [List.getElem?_append_right (by rw [x2.1]; omega), x2.1]; exact t1, t2⟩
    refine ⟨p3, xs ++ ys, _, rfl, rfl, upd_same, EV, ?_, fun p4 zs hp4 Z => ?_⟩
    · unfold movedM
      rw [List.length_append, List.length_map, List.length_map]
      omega
    · have s3 : Same H (upd (upd H2 p3 (.lst (xs ++ ys))) p4 (.lst zs)) := ((s1.trans s2).trans (Same.new hp3)).trans (Same.new hp4)
      exact q p4 _ (((s1.trans s2).trans (Same.new hp3)).free hp4) s3 ⟨zs, upd_same, Z.same (Same.new hp4)⟩
end
end RB

namespace RB
open PySem PySem.Spec PyProof.Rows L2
/-! ### is_whole, need_reading, doubled, digits, size, lay, fill, raised -/
def OddV (K : PySem.W.Frag) (H : Hp) (x : V) : Prop := ∃ a : String, TyX K H x (.type a) ∧ (a = "bool" ∨ a = "NoneType" ∨ a = "str" ∨ a = "list" ∨ a = "tuple")
def sp_is_whole (K : PySem.W.Frag) : Sp := fun vs H Q _ => ∃ (x : V) (lo hi : Int), vs = [x, .int lo, .int hi] ∧ ((∃ n, x = .int n ∧ Q (.bl (decide (lo ≤ n ∧ n ≤ hi))) H) ∨ (OddV K H x ∧ Q (.bl false) H))
def sp_need_reading (K : PySem.W.Frag) (CB : Addr) : Sp := fun vs H Q E => ∃ x : V, vs = [x] ∧ ((∃ n, x = .int n ∧ (-1000000000000000000 ≤ n ∧ n ≤ 1000000000000000000) ∧ Q .non H) ∨
  (((∃ n, x = .int n ∧ ¬ (-1000000000000000000 ≤ n ∧ n ≤ 1000000000000000000)) ∨ OddV K H x) ∧ E (.ref CB) none H))
def sp_doubled : Sp := fun vs H Q _ => ∃ (n : Int) (t : Nat), vs = [.int n, .int (t : Int)] ∧ t ≤ 1000000 ∧ Q (.int (n * ((2 ^ t : Nat) : Int))) H
def sp_digits : Sp := fun vs H Q _ => ∃ n : Nat, vs = [.int (n : Int)] ∧ n < 2 ^ 200 ∧ RetI ((digitsM n).map fun (k : Nat) => (k : Int)) H Q
def sp_Cup_size (C : Addr) : Sp := fun vs H Q _ => ∃ (p dx l d : Addr) (k pl : Nat), vs = [.ref p, .int (pl : Int)] ∧ H p = some (.ins C dx (cf (k : Int) l d)) ∧ pl ≤ 1000000 ∧ Q (.int ((size k pl : Nat) : Int)) H
def sp_Cup_lay (C : Addr) : Sp := fun vs H Q _ => ∃ (p d a : Addr) (pl : Nat) (es : List E) (s : CupM), vs = [.ref p, .int (pl : Int), .ref a] ∧ CupAt C H p d s ∧ Ents H a es ∧ WB s.keep s.blocks ∧ Srtd es ∧ es.length = s.keep ∧ s.keep ≤ 64 ∧ pl + s.blocks.length ≤ 1000 ∧
  ∀ H', CupAt C H' p d (s.lay pl es) → Fr H H' p d → Ow (fun b => b = a) H H' p d → Q .non H'
def sp_Cup_fill (C : Addr) : Sp := fun vs H Q _ => ∃ (p d : Addr) (r : Int) (t : Nat) (s : CupM), vs = [.ref p, .int r, .int (t : Int)] ∧ CupAt C H p d s ∧ WB s.keep s.blocks ∧ s.keep ≤ 64 ∧ s.loose.length + t ≤ s.keep ∧ s.blocks.length ≤ 900 ∧
  ∀ H', CupAt C H' p d (s.fill r t) → Fr H H' p d → Ow No H H' p d → Q .non H'
def sp_Cup_raised (C : Addr) : Sp := fun vs H Q _ => ∃ (p d a : Addr) (pl : Nat) (es : List E) (s : CupM), vs = [.ref p, .ref a, .int (pl : Int)] ∧ CupAt C H p d s ∧ Ents H a es ∧ Srtd es ∧ es.length = s.keep ∧ s.keep ≤ 64 ∧ pl ≤ 1000 ∧
  ∀ a' H', Same H H' → (a' = a ∨ H a' = none) → Ents H' a' (raisedM s.keep es pl) → Q (.ref a') H'
abbrev S_is_whole : Stmt := top 22
theorem sc_is_whole : FnScope ["thing", "least", "most"] ["thing", "least", "most"] (defScope S_is_whole) := ⟨rfl, rfl, rfl, by decide +kernel, rfl, by decide +kernel, by decide +kernel⟩
abbrev S_need_reading : Stmt := top 23
theorem sc_need_reading : FnScope ["thing"] ["thing"] (defScope S_need_reading) := ⟨rfl, rfl, rfl, by decide +kernel, rfl, by decide +kernel, by decide +kernel⟩
abbrev S_doubled : Stmt := top 24
theorem sc_doubled : FnScope ["number", "times", "turn"] ["number", "times"] (defScope S_doubled) := ⟨rfl, rfl, rfl, by decide +kernel, rfl, by decide +kernel, by decide +kernel⟩
abbrev S_digits : Stmt := top 25
theorem sc_digits : FnScope ["number", "found", "place"] ["number"] (defScope S_digits) := ⟨rfl, rfl, rfl, by decide +kernel, rfl, by decide +kernel, by decide +kernel⟩
abbrev S_Cup_size : Stmt := inClass (top 26) 1
theorem sc_Cup_size : FnScope ["self", "place"] ["self", "place"] (defScope S_Cup_size) := ⟨rfl, rfl, rfl, by decide +kernel, rfl, by decide +kernel, by decide +kernel⟩
abbrev S_Cup_lay : Stmt := inClass (top 26) 2
theorem sc_Cup_lay : FnScope ["self", "place", "entries", "size"] ["self", "place", "entries"] (defScope S_Cup_lay) := ⟨rfl, rfl, rfl, by decide +kernel, rfl, by decide +kernel, by decide +kernel⟩
abbrev S_Cup_fill : Stmt := inClass (top 26) 3
theorem sc_Cup_fill : FnScope ["self", "reading", "times"] ["self", "reading", "times"] (defScope S_Cup_fill) := ⟨rfl, rfl, rfl, by decide +kernel, rfl, by decide +kernel, by decide +kernel⟩
abbrev S_Cup_raised : Stmt := inClass (top 26) 5
theorem sc_Cup_raised : FnScope ["self", "block", "place", "turn", "size"] ["self", "block", "place"] (defScope S_Cup_raised) := ⟨rfl, rfl, rfl, by decide +kernel, rfl, by decide +kernel, by decide +kernel⟩
section
variable {P : Program} {w : World} {K : PySem.W.Frag} {mg : Str → Option Value} {base : Heap} {C C_BadReading : Addr}
theorem ok_is_whole (D : DefAt K mg "is_whole" S_is_whole ["thing", "least", "most"]) (m_isinstance : mg "isinstance" = none) (m_int : mg "int" = none) (m_bool : mg "bool" = none) : Cal P w K mg base CX0 1 "is_whole" ["thing", "least", "most"] (sp_is_whole K) := by
  obtain ⟨f, fd, F, m, b⟩ := D.ex
  refine ⟨f, fd, F.ok sc_is_whole (fun vs H Q E h => ?_) (fun cdv A outer s H vs Q E hr h => ?_), m, F.kp, b⟩
  · obtain ⟨x, lo, hi, rfl, _⟩ := h
    rfl
  · obtain ⟨x, lo, hi, rfl, q⟩ := h
    refine ⟨_, (pss_one (ps_ret (pe_and (pe_callB call_isi rfl m_isinstance (by decide +kernel) (pa_cons (pv 0) (pa_cons (pe_bltn (v := .ty "int") rfl m_int (by decide +kernel) rfl) pa_nil))) (pe_and (pe_not (pe_callB call_isi rfl m_isinstance (by decide +kernel) (pa_cons (pv 0) (pa_cons (pe_bltn (v := .ty "bool") rfl m_bool (by decide +kernel) rfl) pa_nil)))) (pe_one (pe_chain op_le op_le (pv 1) (pv 0) (pv 2))))))), ?_⟩
    rcases q with ⟨n, rfl, q⟩ | ⟨⟨a, ty, ha⟩, q⟩
    · walk_at "rd"
      refine if_d (fun c => ?_) (fun c => ?_)
      · walk_at "rd"
        rw [show decide (lo ≤ n ∧ n ≤ hi) = decide (n ≤ hi) from decide_eq_decide.mpr ⟨fun z => z.2, fun z => ⟨c, z⟩⟩] at q
        exact q
      · rw [show decide (lo ≤ n ∧ n ≤ hi) = false from decide_eq_false fun z => c z.1] at q
        exact q
    · walk_at "rd"
      rcases ha with rfl | rfl | rfl | rfl | rfl
      · refine r_isi ty kit_bool_int ?_
        walk_at "rd"
        refine r_isi ty kit_bool_bool ?_
        walk_at "rd"
        exact q
      · refine r_isi ty kit_none_int ?_
        walk_at "rd"
        exact q
      · refine r_isi ty kit_str_int ?_
        walk_at "rd"
        exact q
      · refine r_isi ty kit_list_int ?_
        walk_at "rd"
        exact q
      · refine r_isi ty kit_tuple_int ?_
        walk_at "rd"
        exact q
theorem ok_need_reading (D : DefAt K mg "need_reading" S_need_reading ["thing"]) (h_MOST_READING : GlobI mg "MOST_READING" 1000000000000000000) (x_BadReading : ExcC K mg "BadReading" C_BadReading)
    (c_is_whole : Cal P w K mg base CX0 1 "is_whole" ["thing", "least", "most"] (sp_is_whole K)) : Cal P w K mg base (L2.CX P w) 2 "need_reading" ["thing"] (sp_need_reading K C_BadReading) := by
  obtain ⟨f, fd, F, m, b⟩ := D.ex
  obtain ⟨t_MR, g_MOST_READING⟩ := h_MOST_READING.ex
  obtain ⟨f_is_whole, fd_is_whole, G_is_whole, m_is_whole, k_is_whole, b_is_whole⟩ := c_is_whole
  refine ⟨f, fd, F.okX sc_need_reading (fun vs H Q E h => ?_) (fun cdv A outer s H vs Q E hr h => ?_), m, F.kp, b⟩
  · obtain ⟨x, rfl, _⟩ := h
    rfl
  · obtain ⟨x, rfl, q⟩ := h
    refine ⟨_, (pss_one (ps_if (pt_not (pt_val (pe_call G_is_whole (hr.mono (by decide)) rfl m_is_whole k_is_whole b_is_whole .nil pass0 (pa_cons (pv 0) (pa_cons (pe_un un_neg (pe_glob (v := .int 1000000000000000000) rfl g_MOST_READING ⟨_, rfl⟩)) (pa_cons (pe_glob (v := .int 1000000000000000000) rfl g_MOST_READING ⟨_, rfl⟩) pa_nil)))))) (pss_one (ps_raise rfl (takes_of rfl rfl rfl rfl) (pmk_own PySem.F.excBase_ValueError x_BadReading.x x_BadReading.g x_BadReading.k (raises_own x_BadReading.b x_BadReading.t) rfl))) pss_nil)), ?_⟩
    walk_at "rd"
    refine ⟨x, _, _, rfl, ?_⟩
    rcases q with ⟨n, rfl, hn, q⟩ | ⟨⟨n, rfl, hn⟩ | ho, q⟩
    · refine .inl ⟨n, rfl, ?_⟩
      rw [decide_eq_true hn]
      walk_at "rd"
      exact q
    · refine .inl ⟨n, rfl, ?_⟩
      rw [decide_eq_false hn]
      walk_at "rd"
      exact q
    · refine .inr ⟨ho, ?_⟩
      walk_at "rd"
      exact q
theorem ok_doubled (D : DefAt K mg "doubled" S_doubled ["number", "times"]) (m_range : mg "range" = none) : Cal P w K mg base CX0 1 "doubled" ["number", "times"] sp_doubled := by
  obtain ⟨f, fd, F, m, b⟩ := D.ex
  refine ⟨f, fd, F.ok sc_doubled (fun vs H Q E h => ?_) (fun cdv A outer s H vs Q E hr h => ?_), m, F.kp, b⟩
  · obtain ⟨n, t, rfl, _⟩ := h
    rfl
  · obtain ⟨n, t, rfl, ht, q⟩ := h
    refine ⟨_, (pss_cons (ps_for PassesOwn.never rfl (pi_range1 rfl m_range (pa_cons (pv 1) pa_nil)) (pg_name (i := 2) sc_doubled.nd rfl (Or.inl rfl)) (pss_one (ps_set (i := 0) sc_doubled.nd rfl (Or.inl rfl) (pe_op op_mul pe_int (pv 0)))))
      (pss_one (ps_ret (pv 0)))), ?_⟩
    walk_at "rd"
    refine ⟨(t : Int), rfl, by omega, by omega, ?_⟩
    rw [Int.toNat_natCast]
    refine for_go (walk_range0 (n := t)) (fun i σ H' => H' = H ∧ ∃ v2, σ = [some (.int (n * ((2 ^ i : Nat) : Int))), some (.int (t : Int)), v2]) ⟨rfl, none, by simp; rfl⟩ (fun _ _ _ _ _ => trivial) (fun i x σ H1 H2 hi z y => ?_) (fun σ H1 z => ?_)
    · obtain ⟨rfl, v2, rfl⟩ := z
      obtain ⟨rfl, rfl⟩ := y
      walk_at "rd"
      refine ⟨rfl, some (.int (i : Int)), ?_⟩
      have e : 2 * (n * ((2 ^ i : Nat) : Int)) = n * ((2 ^ (i + 1) : Nat) : Int) := by rw [pow_cast, Int.mul_left_comm]
      rw [e]
      rfl
    · obtain ⟨rfl, v2, rfl⟩ := z
      walk_at "rd"
      exact q
theorem ok_digits (D : DefAt K mg "digits" S_digits ["number"]) : Cal P w K mg base CX0 1 "digits" ["number"] sp_digits := by
  obtain ⟨f, fd, F, m, b⟩ := D.ex
  refine ⟨f, fd, F.ok sc_digits (fun vs H Q E h => ?_) (fun cdv A outer s H vs Q E hr h => ?_), m, F.kp, b⟩
  · obtain ⟨n, rfl, _⟩ := h
    rfl
  · obtain ⟨n, rfl, hn, q⟩ := h
    refine ⟨_, (pss_cons (ps_set (i := 1) sc_digits.nd rfl (Or.inl rfl) (pe_lst pa_nil))
      (pss_cons (ps_set (i := 2) sc_digits.nd rfl (Or.inl rfl) pe_int)
      (pss_cons (ps_while PassesOwn.never (pt_cmpR op_gt (pv 0) pe_int (nomark _)) (pss_cons (ps_if (pt_cmpR op_eq (pe_op op_mod (pv 0) pe_int) pe_int (nomark _)) (pss_one (ps_expr (pe_bm PySem.F.plainAttrs_list PySem.F.slot_list_append PySem.F.type_list_append mt_append (pv 1) (pa_cons (pv 2) pa_nil)))) pss_nil)
      (pss_cons (ps_set (i := 0) sc_digits.nd rfl (Or.inl rfl) (pe_op op_fdiv (pv 0) pe_int))
      (pss_one (ps_set (i := 2) sc_digits.nd rfl (Or.inl rfl) (pe_op op_add (pv 2) pe_int))))))
      (pss_one (ps_ret (pv 1)))))), ?_⟩
    walk_at "rd"
    refine ⟨by show 0 ≤ sizeLine; decide, fun p hp => ?_⟩
    walk_at "rd"
    refine ⟨fun m σ H' => Same H H' ∧ ∃ (acc : List Nat) (pl : Nat), H' p = some (.lst ((acc.map fun (k : Nat) => (k : Int)).map V.int)) ∧ acc ++ digitsF m pl m = digitsM n ∧ acc.length ≤ pl ∧ m * 2 ^ pl ≤ n ∧ σ = [some (.int (m : Int)), some (.ref p), some (.int (pl : Int))],
      ⟨n, Same.new hp, [], 0, upd_same, rfl, Nat.le_refl _, by simp, rfl⟩, fun m σ H' hw => ?_⟩
    obtain ⟨s1, acc, pl, h1, h2, h3, h4, rfl⟩ := hw
    walk_at "rd"
    refine if_d (fun c => ?_) (fun c => ?_)
    · have hm : 0 < m := by omega
      have hpl : pl < 200 := by
        have h5 : 2 ^ pl ≤ m * 2 ^ pl := Nat.le_mul_of_pos_left _ hm
        exact (Nat.pow_lt_pow_iff_right (by decide : 1 < 2)).mp (Nat.lt_of_le_of_lt (Nat.le_trans h5 h4) hn)
      have hstep : m / 2 * 2 ^ (pl + 1) ≤ n := by
        have h5 : m / 2 * 2 ^ (pl + 1) = (m / 2 * 2) * 2 ^ pl := by rw [Nat.pow_succ, Nat.mul_assoc, Nat.mul_comm 2]
        rw [h5]
        exact Nat.le_trans (Nat.mul_le_mul_right _ (Nat.div_mul_le_self m 2)) h4
      have hd : digitsF m pl m = if m % 2 = 1 then pl :: digitsF (m / 2) (pl + 1) (m / 2) else digitsF (m / 2) (pl + 1) (m / 2) := by
        obtain ⟨m', rfl⟩ : ∃ m', m = m' + 1 := ⟨m - 1, by omega⟩
        simp only [digitsF]
        rw [if_neg (by omega), digitsF_fuel m' ((m' + 1) / 2) (pl + 1) ((m' + 1) / 2) (by omega) (Nat.le_refl _)]
      refine ⟨fun σ H' => ∃ m', m' < m ∧ (Same H H' ∧ ∃ (acc : List Nat) (pl : Nat), H' p = some (.lst ((acc.map fun (k : Nat) => (k : Int)).map V.int)) ∧ acc ++ digitsF m' pl m' = digitsM n ∧ acc.length ≤ pl ∧ m' * 2 ^ pl ≤ n ∧ σ = [some (.int (m' : Int)), some (.ref p), some (.int (pl : Int))]), fun _ _ h => h, ?_⟩
      walk_at "rd"
      refine if_d (fun c2 => ?_) (fun c2 => ?_)
      · rw [if_pos (by omega)] at hd
        walk_at "rd"
        refine ⟨ty_lst h1, ?_⟩
        walk_at "rd"
        refine ⟨p, _, _, rfl, rfl, h1, by rw [List.length_map, List.length_map, sizeLine_eq]; omega, ?_⟩
        walk_at "rd"
        refine ⟨m / 2, by omega, Same.mut s1 hp, acc ++ [pl], pl + 1, ?_, ?_, by simp; omega, hstep, ?_⟩
        · rw [upd_same]
          simp
        · rw [← h2, hd, List.append_assoc]
          rfl
        · rw [Int.natCast_add, Int.natCast_ediv]
          rfl
      · rw [if_neg (by omega)] at hd
        walk_at "rd"
        refine ⟨m / 2, by omega, s1, acc, pl + 1, h1, ?_, by omega, hstep, ?_⟩
        · rw [← h2, hd]
        · rw [Int.natCast_add, Int.natCast_ediv]
          rfl
    · have hm : m = 0 := by omega
      subst hm
      have e : acc = digitsM n := by simpa [digitsF] using h2
      subst e
      walk_at "rd"
      exact q p H' hp s1 h1
theorem ok_Cup_size (D : MethAt K C "size" "Cup.size" S_Cup_size ["self", "place"]) (U : CupC K mg C) (c_doubled : Cal P w K mg base CX0 1 "doubled" ["number", "times"] sp_doubled) : CalM P w K mg base CX0 2 C "size" ["self", "place"] (sp_Cup_size C) := by
  obtain ⟨f, fd, F, hM, b⟩ := D.ex
  obtain ⟨f_doubled, fd_doubled, G_doubled, m_doubled, k_doubled, b_doubled⟩ := c_doubled
  refine ⟨f, fd, F.ok sc_Cup_size (fun vs H Q E h => ?_) (fun cdv A outer s H vs Q E hr h => ?_), hM, b⟩
  · obtain ⟨p, dx, l, d, k, pl, rfl, _⟩ := h
    rfl
  · obtain ⟨p, dx, l, d, k, pl, rfl, hp, hl, q⟩ := h
    refine ⟨_, (pss_one (ps_ret (pe_call G_doubled (hr.mono (by decide)) rfl m_doubled k_doubled b_doubled .nil pass0 (pa_cons (pe_fldK (K := K) rfl (pv 0) rfl) (pa_cons (pv 1) pa_nil))))), ?_⟩
    walk_at "rd"
    refine fld_keep U hp ?_
    walk_at "rd"
    refine ⟨(k : Int), pl, rfl, hl, ?_⟩
    unfold size at q
    rw [Int.natCast_mul] at q
    exact q
theorem ok_Cup_lay (D : MethAt K C "lay" "Cup.lay" S_Cup_lay ["self", "place", "entries"]) (U : CupC K mg C) (c_Cup_size : CalM P w K mg base CX0 2 C "size" ["self", "place"] (sp_Cup_size C)) (c_joined : Cal P w K mg base CX0 4 "joined" ["ones", "many", "others", "more"] sp_joined)
    (c_halved : Cal P w K mg base CX0 1 "halved" ["entries"] sp_halved) : CalM P w K mg base CX0 5 C "lay" ["self", "place", "entries"] (sp_Cup_lay C) := by
  obtain ⟨f, fd, F, hM, b⟩ := D.ex
  obtain ⟨f_Cup_size, fd_Cup_size, G_Cup_size, h_Cup_size, b_Cup_size⟩ := c_Cup_size
  obtain ⟨f_joined, fd_joined, G_joined, m_joined, k_joined, b_joined⟩ := c_joined
  obtain ⟨f_halved, fd_halved, G_halved, m_halved, k_halved, b_halved⟩ := c_halved
  refine ⟨f, fd, F.ok sc_Cup_lay (fun vs H Q E h => ?_) (fun cdv A outer s H vs Q E hr h => ?_), hM, b⟩
  · obtain ⟨p, d, a, pl, es, s, rfl, _⟩ := h
    rfl
  · obtain ⟨p, d, a, pl, es, s, rfl, ⟨dx, l, hp, hl, b3, hd, eb, hE⟩, ha, hwb, hs, hlen, h64, hpl, q⟩ := h
    refine ⟨_, (pss_cons (ps_while PassesOwn.never (pt_cmp (pc_din (hu_of hr) (pv 1) (pe_fldK (K := K) rfl (pv 0) rfl))) (pss_cons (ps_set (i := 3) sc_Cup_lay.nd rfl (Or.inl rfl) (pe_meth (pv 0) U.cl h_Cup_size G_Cup_size (hr.mono (by decide)) b_Cup_size .nil pass0 (pa_cons (pv 1) pa_nil)))
      (pss_cons (ps_set (i := 2) sc_Cup_lay.nd rfl (Or.inl rfl) (pe_call G_halved (hr.mono (by decide)) rfl m_halved k_halved b_halved .nil pass0 (pa_cons (pe_call G_joined (hr.mono (by decide)) rfl m_joined k_joined b_joined .nil pass0 (pa_cons (pe_dpop1 (pe_fldK (K := K) rfl (pv 0) rfl) (pv 1) ⟨rfl, rfl, rfl, rfl⟩) (pa_cons (pv 3) (pa_cons (pv 2) (pa_cons (pv 3) pa_nil))))) pa_nil)))
      (pss_one (ps_set (i := 1) sc_Cup_lay.nd rfl (Or.inl rfl) (pe_op op_add (pv 1) pe_int))))))
      (pss_one (ps_dput (hu_of hr) (pe_fldK (K := K) rfl (pv 0) rfl) (pv 1) (pv 2) rfl))), ?_⟩
    have npd : p ≠ d := ne_of hp hd (by intro z; cases z)
    have nld : l ≠ d := ne_of hl hd (by intro z; cases z)
    walk_at "rd"
    refine ⟨fun m σ H' => ∃ (pl' : Nat) (a' : Addr) (es' : List RB.E) (c3 : List B3) (v3 : Option V), m = c3.length ∧ H' d = some (.dK (c3.map kvB)) ∧ (∀ x ∈ c3, Ents H' x.2.1 x.2.2) ∧ Ents H' a' es' ∧ ((∀ b o, H b = some o → b ≠ d → H' b = some o) ∧ (∀ x ∈ c3, Own H p d x.2.1 ∨ H x.2.1 = none ∨ x.2.1 = a) ∧ (H a' = none ∨ a' = a) ∧ ∀ b, H' b = none → H b = none) ∧ WB s.keep (c3.map toB) ∧ Srtd es' ∧ es'.length = s.keep ∧
      pl' + c3.length ≤ 1000 ∧ (∃ f, c3.length ≤ f ∧ layM s.keep f pl' es' (c3.map toB) = layM s.keep s.blocks.length pl es s.blocks) ∧ σ = [some (.ref p), some (.int (pl' : Int)), some (.ref a'), v3],
      ⟨b3.length, pl, a, es, b3, none, rfl, hd, hE, ha, ⟨fun _ _ h _ => h, fun x hx => .inl (.inr ⟨_, _, hd, List.mem_map.mpr ⟨x, hx, rfl⟩⟩), .inr rfl, fun _ h => h⟩, by rw [eb]; exact hwb, hs, hlen, by rw [← eb, List.length_map] at hpl; exact hpl, ⟨s.blocks.length, by rw [← eb, List.length_map]; exact Nat.le_refl _, by rw [eb]⟩, rfl⟩, fun m σ H' hw => ?_⟩
    obtain ⟨pl', a', es', c3, v3, rfl, hd', hE', ha', ⟨hk, ho3, hoa, hal⟩, hwb', hs', hlen', hpl', ⟨fu, hfu, efu⟩, rfl⟩ := hw
    have hp' := hk _ _ hp npd
    walk_at "rd"
    refine fld_blocks U hp' ?_
    refine ⟨d, _, rfl, DGet.k (k := Sum.inl (pl' : Int)) hd', ?_⟩
    walk_at "rd"
    rw [find_kv]
    cases hf : c3.find? (fun x => decide (x.1 = pl')) with
    | none =>
      have hfB : findB (c3.map toB) pl' = none := by rw [find_toB, hf]; rfl
      have efin : layM s.keep s.blocks.length pl es s.blocks = c3.map toB ++ [(pl', es')] := by
        rw [← efu]
        cases fu with
        | zero => rfl
        | succ fu => simp only [layM]; rw [hfB]
      refine if_f ?_
      walk_at "rd"
      refine fld_blocks U hp' ?_
      walk_at "rd"
      refine ⟨d, _, rfl, DPut.k (k := Sum.inl (pl' : Int)) hd' (by rw [List.length_map, sizeLine_eq]; omega), ?_⟩
      rw [put_kv hf a' es']
      refine q _ ⟨dx, l, by rw [upd_ne npd]; exact hp', by rw [upd_ne nld]; exact hk _ _ hl nld, c3 ++ [(pl', a', es')], upd_same, ?_, fun x hx => ?_⟩ (fun b o hb n1 n2 => by rw [upd_ne n2]; exact hk b o hb n2) ⟨fun b hb => hal b (upd_none hb), fun b hb => ?_⟩
      · show _ = layM s.keep s.blocks.length pl es s.blocks
        rw [efin, List.map_append]
        rfl
      · have i : Imm H' (upd H' d (.dK ((c3 ++ [(pl', a', es')]).map kvB))) := ⟨fun b xs hb => by rw [upd_ne (ne_of hb hd' (by intro z; cases z))]; exact hb, fun b xs hb => by rw [upd_ne (ne_of hb hd' (by intro z; cases z))]; exact hb⟩
        rcases List.mem_append.mp hx with e | e
        · exact (hE' x e).imm i
        · rw [List.mem_singleton.mp e]; exact ha'.imm i
      · rcases own_of (by rw [upd_ne npd]; exact hp') upd_same hb with e | ⟨x, hx, e⟩
        · rw [e]; exact .inl (.inl ⟨_, _, _, hp⟩)
        · rw [← e]
          rcases List.mem_append.mp hx with g | g
          · exact ho3 x g
          · rw [List.mem_singleton.mp g]; exact .inr hoa
    | some x =>
      have hfB : findB (c3.map toB) pl' = some (toB x) := by rw [find_toB, hf]; rfl
      have hxm := List.mem_of_find?_eq_some hf
      have hxB := hwb' (toB x) (List.mem_map.mpr ⟨x, hxm, rfl⟩)
      have hltf : (c3.filter fun y => decide (y.1 ≠ pl')).length < c3.length := by
        have h1 := dropB_lt hfB
        rw [drop_toB, List.length_map, List.length_map] at h1
        exact h1
      refine if_t ?_
      refine ⟨fun σ H'' => ∃ m', m' < c3.length ∧ ∃ (pl' : Nat) (a' : Addr) (es' : List RB.E) (c3 : List B3) (v3 : Option V), m' = c3.length ∧ H'' d = some (.dK (c3.map kvB)) ∧ (∀ x ∈ c3, Ents H'' x.2.1 x.2.2) ∧ Ents H'' a' es' ∧ ((∀ b o, H b = some o → b ≠ d → H'' b = some o) ∧ (∀ x ∈ c3, Own H p d x.2.1 ∨ H x.2.1 = none ∨ x.2.1 = a) ∧ (H a' = none ∨ a' = a) ∧ ∀ b, H'' b = none → H b = none) ∧ WB s.keep (c3.map toB) ∧ Srtd es' ∧ es'.length = s.keep ∧
        pl' + c3.length ≤ 1000 ∧ (∃ f, c3.length ≤ f ∧ layM s.keep f pl' es' (c3.map toB) = layM s.keep s.blocks.length pl es s.blocks) ∧ σ = [some (.ref p), some (.int (pl' : Int)), some (.ref a'), v3], fun _ _ h => h, ?_⟩
      walk_at "rd"
      refine meth_at hp' (by decide +kernel) (by decide +kernel) (by decide +kernel) ?_
      walk_at "rd"
      refine ⟨p, dx, l, d, s.keep, pl', rfl, hp', by omega, ?_⟩
      walk_at "rd"
      refine fld_blocks U hp' ?_
      refine ⟨d, rfl, .inl ⟨_, .inl hd'⟩, ?_⟩
      walk_at "rd"
      refine ⟨_, Sum.inl (pl' : Int), _, hd', rfl, by rw [find_kv, hf]; rfl, ?_⟩
      rw [drop_kv]
      have i : Imm H' (upd H' d (.dK ((c3.filter fun y => decide (y.1 ≠ pl')).map kvB))) := ⟨fun b xs hb => by rw [upd_ne (ne_of hb hd' (by intro z; cases z))]; exact hb, fun b xs hb => by rw [upd_ne (ne_of hb hd' (by intro z; cases z))]; exact hb⟩
      have hdn : (upd H' d (.dK ((c3.filter fun y => decide (y.1 ≠ pl')).map kvB))) d = some (.dK ((c3.filter fun y => decide (y.1 ≠ pl')).map kvB)) := upd_same
      have hkn : ∀ b o, H b = some o → b ≠ d → (upd H' d (.dK ((c3.filter fun y => decide (y.1 ≠ pl')).map kvB))) b = some o := fun b o hb n => by rw [upd_ne n]; exact hk b o hb n
      have hal1 : ∀ b, (upd H' d (.dK ((c3.filter fun y => decide (y.1 ≠ pl')).map kvB))) b = none → H b = none := fun b hb => hal b (upd_none hb)
      generalize upd H' d (.dK ((c3.filter fun y => decide (y.1 ≠ pl')).map kvB)) = H1 at *
      walk_at "rd"
      refine ⟨x.2.1, a', x.2.2, es', _, _, rfl, (hE' x hxm).imm i, ha'.imm i, hxB.1, hs', by have := hxB.2; show (toB x).2.length ≤ _; omega, by omega, fun q1 H2 hq1 s2 E2 => ?_⟩
      walk_at "rd"
      refine ⟨q1, _, rfl, E2, fun q2 H3 hq2 s3 E3 => ?_⟩
      have s23 := s2.trans s3
      walk_at "rd"
      have hw := mergeB_wb (pl := pl') (a := x.2.2) (b := es') hxB.2 hlen'
      refine ⟨_, hltf, pl' + 1, q2, mergeB s.keep pl' x.2.2 es', c3.filter (fun y => decide (y.1 ≠ pl')), _, rfl, s23 _ _ hdn, fun y hy => ((hE' y (List.mem_filter.mp hy).1).imm i).same s23, E3, ⟨fun b o hb n => s23 _ _ (hkn b o hb n), fun y hy => ho3 y (List.mem_filter.mp hy).1, .inl (hal1 _ (s2.free hq2)), fun b hb => hal1 b (s23.free hb)⟩, ?_, hw.1, hw.2, by omega, ?_, by rw [Int.natCast_add]; rfl⟩
      · intro y hy
        obtain ⟨z, hz, rfl⟩ := List.mem_map.mp hy
        exact hwb' _ (List.mem_map.mpr ⟨z, (List.mem_filter.mp hz).1, rfl⟩)
      · cases fu with
        | zero => omega
        | succ fu =>
          refine ⟨fu, by omega, ?_⟩
          rw [← efu]
          simp only [layM]
          rw [hfB, drop_toB]
          rfl
end
end RB

namespace RB
open PySem PySem.Spec PyProof.Rows L2
/-! ### fill, raised, __init__, add, pour -/
def BadR (K : PySem.W.Frag) (H : Hp) (x : V) : Prop := (∃ n, x = .int n ∧ ¬ (-1000000000000000000 ≤ n ∧ n ≤ 1000000000000000000)) ∨ OddV K H x
def BadT (K : PySem.W.Frag) (H : Hp) (x : V) : Prop := (∃ n, x = .int n ∧ ¬ (1 ≤ n ∧ n ≤ 1000000000)) ∨ OddV K H x
def BadK (K : PySem.W.Frag) (H : Hp) (x : V) : Prop := (∃ n, x = .int n ∧ ¬ (1 ≤ n ∧ n ≤ 64)) ∨ OddV K H x
def InR (r : Int) : Prop := -1000000000000000000 ≤ r ∧ r ≤ 1000000000000000000
def sp_Cup_init (K : PySem.W.Frag) (C CK : Addr) : Sp := fun vs H Q E => ∃ (p dx : Addr) (x : V), vs = [.ref p, x] ∧ H p = some (.ins C dx []) ∧
  ((∃ k : Nat, x = .int (k : Int) ∧ 1 ≤ k ∧ k ≤ 64 ∧ ∀ d H', CupAt C H' p d (CupM.new k) → H d = none → (∀ b o, H b = some o → b ≠ p → H' b = some o) → (∀ b, Own H' p d b → H b = none) → Q .non H') ∨ (BadK K H x ∧ E (.ref CK) none H))
def sp_Cup_add (K : PySem.W.Frag) (C CB CT : Addr) : Sp := fun vs H Q E => ∃ (p d : Addr) (x y : V) (s : CupM), vs = [.ref p, x, y] ∧ CupAt C H p d s ∧ Wf s ∧
  ((∃ (r : Int) (t : Nat), x = .int r ∧ y = .int (t : Int) ∧ InR r ∧ 1 ≤ t ∧ t ≤ 1000000000 ∧ ∀ H', CupAt C H' p d (s.add r t) → Fr H H' p d → Ow No H H' p d → Q .non H') ∨
   (BadR K H x ∧ E (.ref CB) none H) ∨ (∃ r, x = .int r ∧ InR r ∧ BadT K H y ∧ E (.ref CT) none H))
def sp_Cup_pour (C CU : Addr) : Sp := fun vs H Q E => ∃ (p d q e : Addr) (s o : CupM), vs = [.ref p, .ref q] ∧ CupAt C H p d s ∧ CupAt C H q e o ∧ Wf s ∧ Wf o ∧
  ((s.keep = o.keep ∧ ∀ H', CupAt C H' p d (s.pour o) → Fr H H' p d → Ow (Own H q e) H H' p d → Q .non H') ∨ (s.keep ≠ o.keep ∧ E (.ref CU) none H))
abbrev S_Cup___init__ : Stmt := inClass (top 26) 0
theorem sc_Cup___init__ : FnScope ["self", "keep"] ["self", "keep"] (defScope S_Cup___init__) := ⟨rfl, rfl, rfl, by decide +kernel, rfl, by decide +kernel, by decide +kernel⟩
abbrev S_Cup_add : Stmt := inClass (top 26) 4
theorem sc_Cup_add : FnScope ["self", "reading", "times", "first", "block", "place"] ["self", "reading", "times"] (defScope S_Cup_add) := ⟨rfl, rfl, rfl, by decide +kernel, rfl, by decide +kernel, by decide +kernel⟩
abbrev S_Cup_pour : Stmt := inClass (top 26) 6
theorem sc_Cup_pour : FnScope ["self", "other", "loose", "blocks", "place", "reading", "entries"] ["self", "other"] (defScope S_Cup_pour) := ⟨rfl, rfl, rfl, by decide +kernel, rfl, by decide +kernel, by decide +kernel⟩
section
variable {P : Program} {w : World} {K : PySem.W.Frag} {mg : Str → Option Value} {base : Heap} {C C_BadKeep C_BadReading C_BadTimes C_UnlikeCups : Addr}
theorem ok_Cup_fill (D : MethAt K C "fill" "Cup.fill" S_Cup_fill ["self", "reading", "times"]) (U : CupC K mg C) (m_len : mg "len" = none) (c_Cup_lay : CalM P w K mg base CX0 5 C "lay" ["self", "place", "entries"] (sp_Cup_lay C)) (c_exact : Cal P w K mg base CX0 1 "exact" ["row"] sp_exact) : CalM P w K mg base CX0 6 C "fill" ["self", "reading", "times"] (sp_Cup_fill C) := by
  obtain ⟨f, fd, F, hM, b⟩ := D.ex
  obtain ⟨f_Cup_lay, fd_Cup_lay, G_Cup_lay, h_Cup_lay, b_Cup_lay⟩ := c_Cup_lay
  obtain ⟨f_exact, fd_exact, G_exact, m_exact, k_exact, b_exact⟩ := c_exact
  refine ⟨f, fd, F.ok sc_Cup_fill (fun vs H Q E h => ?_) (fun cdv A outer s H vs Q E hr h => ?_), hM, b⟩
  · obtain ⟨p, d, r, t, s, rfl, _⟩ := h
    rfl
  · obtain ⟨p, d, r, t, s, rfl, ⟨dx, l, hp, hl, hD⟩, hwb, h64, ht, hbl, q⟩ := h
    refine ⟨_, (pss_cons (ps_fld (pv 0) (pe_op op_cat (pe_fldK (K := K) rfl (pv 0) rfl) (pe_op op_rep (pe_lst (pa_cons (pv 1) pa_nil)) (pv 2))) rfl)
      (pss_one (ps_if (pt_cmpR op_eq (pe_callB call_len_seq rfl m_len (by decide +kernel) (pa_cons (pe_fldK (K := K) rfl (pv 0) rfl) pa_nil)) (pe_fldK (K := K) rfl (pv 0) rfl) (nomark _)) (pss_cons (ps_expr (pe_meth (pv 0) U.cl h_Cup_lay G_Cup_lay (hr.mono (by decide)) b_Cup_lay .nil pass0 (pa_cons pe_int (pa_cons (pe_call G_exact (hr.mono (by decide)) rfl m_exact k_exact b_exact .nil pass0 (pa_cons (pe_fldK (K := K) rfl (pv 0) rfl) pa_nil)) pa_nil))))
      (pss_one (ps_fld (pv 0) (pe_lst pa_nil) rfl))) pss_nil))), ?_⟩
    walk_at "rd"
    refine fld_loose U hp ?_
    walk_at "rd"
    refine ⟨by show 1 ≤ sizeLine; decide, fun p1 hp1 => ?_⟩
    walk_at "rd"
    refine ⟨p1, (t : Int), [.int r], rfl, rfl, upd_same, by omega, by omega, by rw [sizeLine_eq]; simp; omega, fun p2 hp2 => ?_⟩
    have sa : Same H (upd (upd H p1 (.lst [.int r])) p2 (.lst (List.replicate (t : Int).toNat [V.int r]).flatten)) := (Same.new hp1).trans (Same.new hp2)
    refine ⟨l, p2, _, _, rfl, rfl, sa _ _ hl, upd_same, ?_, fun p3 hp3 => ?_⟩
    · rw [Int.toNat_natCast, rep_flat, List.length_map, List.length_map, List.length_replicate, sizeLine_eq]
      omega
    have sb := sa.trans (Same.new (o := .lst (s.loose.map V.int ++ (List.replicate (t : Int).toNat [V.int r]).flatten)) hp3)
    have hl3 : (upd (upd (upd H p1 (.lst [.int r])) p2 (.lst (List.replicate (t : Int).toNat [V.int r]).flatten)) p3 (.lst (s.loose.map V.int ++ (List.replicate (t : Int).toNat [V.int r]).flatten))) p3 = some (.lst ((s.loose ++ List.replicate t r).map V.int)) := by
      rw [upd_same, Int.toNat_natCast, rep_flat, List.map_append]
    generalize upd (upd (upd H p1 (.lst [.int r])) p2 (.lst (List.replicate (t : Int).toNat [V.int r]).flatten)) p3 (.lst (s.loose.map V.int ++ (List.replicate (t : Int).toNat [V.int r]).flatten)) = H1 at *
    have hp' := sb _ _ hp
    walk_at "rd"
    refine ⟨p, C, dx, _, rfl, hp', U.cl, U.nl, by show 3 < 1000; decide, ?_⟩
    rw [cf_setL]
    have f1 : Fr H (upd H1 p (.ins C dx (cf (s.keep : Int) p3 d))) p d := fun b o hb n1 _ => by rw [upd_ne n1]; exact sb b o hb
    have hp3n : H p3 = none := sa.free hp3
    obtain ⟨b30, hd0, _, _⟩ := id hD
    have ndp : d ≠ p := (ne_of hp hd0 (by intro z; cases z)).symm
    have o1 : Ow No H (upd H1 p (.ins C dx (cf (s.keep : Int) p3 d))) p d := by
      refine ⟨fun b hb => sb.free (upd_none hb), fun b hb => ?_⟩
      rcases own_of upd_same (by rw [upd_ne ndp]; exact sb _ _ hd0) hb with e | ⟨x, hx, e⟩
      · rw [e]; exact .inr (.inl hp3n)
      · rw [← e]; exact .inl (.inr ⟨_, _, hd0, List.mem_map.mpr ⟨x, hx, rfl⟩⟩)
    have n3p : p3 ≠ p := ne_of hl3 hp' (by intro z; cases z)
    have hl4 : (upd H1 p (.ins C dx (cf (s.keep : Int) p3 d))) p3 = some (.lst ((s.loose ++ List.replicate t r).map V.int)) := by rw [upd_ne n3p]; exact hl3
    have hp4 : (upd H1 p (.ins C dx (cf (s.keep : Int) p3 d))) p = some (.ins C dx (cf (s.keep : Int) p3 d)) := upd_same
    have hD4 : DictAt (upd H1 p (.ins C dx (cf (s.keep : Int) p3 d))) d s.blocks := by
      have hD1 := hD.imm (Imm.of sb) fun o => sb d o
      obtain ⟨b3, g1, g2, g3⟩ := id hD1
      refine hD1.imm ⟨fun a xs ha => by rw [upd_ne (ne_of ha hp' (by intro z; cases z))]; exact ha, fun a xs ha => by rw [upd_ne (ne_of ha hp' (by intro z; cases z))]; exact ha⟩ fun o ho => ?_
      rw [upd_ne (ne_of g1 hp' (by intro z; cases z))]
      exact ho
    generalize upd H1 p (.ins C dx (cf (s.keep : Int) p3 d)) = H2 at *
    walk_at "rd"
    refine fld_loose U hp4 ?_
    refine ⟨p3, _, rfl, .inl (SqL.of hl4), ?_⟩
    walk_at "rd"
    refine fld_keep U hp4 ?_
    walk_at "rd"
    rw [List.length_map, List.length_append, List.length_replicate]
    refine if_d (fun c => ?_) (fun c => ?_)
    · have hk : s.loose.length + t = s.keep := by omega
      walk_at "rd"
      refine meth_at hp4 (by decide +kernel) (by decide +kernel) (by decide +kernel) ?_
      walk_at "rd"
      refine fld_loose U hp4 ?_
      refine ⟨p3, s.loose ++ List.replicate t r, rfl, hl4, by simp; omega, fun p5 H3 hp5 s3 E3 => ?_⟩
      walk_at "rd"
      refine ⟨p, d, p5, 0, exactM (s.loose ++ List.replicate t r), { keep := s.keep, loose := s.loose ++ List.replicate t r, blocks := s.blocks }, rfl, ⟨dx, p3, s3 _ _ hp4, s3 _ _ hl4, hD4.imm (Imm.of s3) fun o => s3 d o⟩, E3, hwb, exactM_sorted _, by rw [exactM_length]; simp; exact hk, h64, by show 0 + s.blocks.length ≤ 1000; omega, fun H4 c4 f4 o4 => ?_⟩
      have o5 : Ow No H H4 p d := ((o1.trans (Ow.same (s := { keep := s.keep, loose := s.loose ++ List.replicate t r, blocks := s.blocks }) ⟨dx, p3, hp4, hl4, hD4⟩ s3)).trans o4).weak fun b hb => by
        rcases hb with (h | h) | h
        · exact h.elim
        · exact h.elim
        · rw [h]; exact .inr (.inl (o1.1 _ hp5))
      obtain ⟨dx4, l4, hp6, hl6, hD6⟩ := c4
      walk_at "rd"
      refine ⟨by show 0 ≤ sizeLine; decide, fun p7 hp7 => ?_⟩
      walk_at "rd"
      have hp8 : (upd H4 p7 (.lst [])) p = some (.ins C dx4 (cf (s.keep : Int) l4 d)) := (Same.new hp7) _ _ hp6
      refine ⟨p, C, dx4, _, rfl, hp8, U.cl, U.nl, by show 3 < 1000; decide, ?_⟩
      rw [cf_setL]
      have n7 : p7 ≠ p := (ne_of_none hp6 hp7).symm
      have efill : s.fill r t = { keep := s.keep, loose := [], blocks := layM s.keep s.blocks.length 0 (exactM (s.loose ++ List.replicate t r)) s.blocks } := by
        unfold CupM.fill
        rw [if_pos hk]
      refine q _ ?_ ?_ ?_
      · rw [efill]
        refine ⟨dx4, p7, upd_same, by rw [upd_ne n7, upd_same]; rfl, ?_⟩
        have hD7 := hD6.imm (Imm.of (Same.new (o := .lst []) hp7)) fun o ho => (Same.new hp7) d o ho
        obtain ⟨b3, g1, g2, g3⟩ := id hD7
        refine hD7.imm ⟨fun a xs ha => by rw [upd_ne (ne_of ha hp8 (by intro z; cases z))]; exact ha, fun a xs ha => by rw [upd_ne (ne_of ha hp8 (by intro z; cases z))]; exact ha⟩ fun o ho => ?_
        rw [upd_ne (ne_of g1 hp8 (by intro z; cases z))]
        exact ho
      · intro b o hb n1 n2
        rw [upd_ne n1]
        exact (Same.new hp7) _ _ (f4 _ _ (s3 _ _ (f1 b o hb n1 n2)) n1 n2)
      · refine ⟨fun b hb => o5.1 b (upd_none (upd_none hb)), fun b hb => ?_⟩
        obtain ⟨b36, hd6, _, _⟩ := id hD6
        rcases own_of upd_same (by rw [upd_ne ndp, upd_ne (ne_of_none hd6 hp7)]; exact hd6) hb with e | ⟨x, hx, e⟩
        · rw [e]; exact .inr (.inl (o5.1 _ hp7))
        · rw [← e]; exact o5.2 _ (.inr ⟨_, _, hd6, List.mem_map.mpr ⟨x, hx, rfl⟩⟩)
    · have hk : s.loose.length + t ≠ s.keep := by omega
      walk_at "rd"
      have efill : s.fill r t = { s with loose := s.loose ++ List.replicate t r } := by
        unfold CupM.fill
        rw [if_neg hk]
      refine q _ ?_ f1 o1
      rw [efill]
      exact ⟨dx, p3, hp4, hl4, hD4⟩
theorem ok_Cup_raised (D : MethAt K C "raised" "Cup.raised" S_Cup_raised ["self", "block", "place"]) (U : CupC K mg C) (m_range : mg "range" = none) (c_Cup_size : CalM P w K mg base CX0 2 C "size" ["self", "place"] (sp_Cup_size C)) (c_joined : Cal P w K mg base CX0 4 "joined" ["ones", "many", "others", "more"] sp_joined)
    (c_halved : Cal P w K mg base CX0 1 "halved" ["entries"] sp_halved) : CalM P w K mg base CX0 5 C "raised" ["self", "block", "place"] (sp_Cup_raised C) := by
  obtain ⟨f, fd, F, hM, b⟩ := D.ex
  obtain ⟨f_Cup_size, fd_Cup_size, G_Cup_size, h_Cup_size, b_Cup_size⟩ := c_Cup_size
  obtain ⟨f_joined, fd_joined, G_joined, m_joined, k_joined, b_joined⟩ := c_joined
  obtain ⟨f_halved, fd_halved, G_halved, m_halved, k_halved, b_halved⟩ := c_halved
  refine ⟨f, fd, F.ok sc_Cup_raised (fun vs H Q E h => ?_) (fun cdv A outer s H vs Q E hr h => ?_), hM, b⟩
  · obtain ⟨p, d, a, pl, es, s, rfl, _⟩ := h
    rfl
  · obtain ⟨p, d, a, pl, es, s, rfl, ⟨dx, l, hp, _⟩, ha, hs, hlen, h64, hpl, q⟩ := h
    refine ⟨_, (pss_cons (ps_for PassesOwn.never rfl (pi_range1 rfl m_range (pa_cons (pv 2) pa_nil)) (pg_name (i := 3) sc_Cup_raised.nd rfl (Or.inl rfl)) (pss_cons (ps_set (i := 4) sc_Cup_raised.nd rfl (Or.inl rfl) (pe_meth (pv 0) U.cl h_Cup_size G_Cup_size (hr.mono (by decide)) b_Cup_size .nil pass0 (pa_cons (pv 3) pa_nil)))
      (pss_one (ps_set (i := 1) sc_Cup_raised.nd rfl (Or.inl rfl) (pe_call G_halved (hr.mono (by decide)) rfl m_halved k_halved b_halved .nil pass0 (pa_cons (pe_call G_joined (hr.mono (by decide)) rfl m_joined k_joined b_joined .nil pass0 (pa_cons (pv 1) (pa_cons (pv 4) (pa_cons (pv 1) (pa_cons (pv 4) pa_nil))))) pa_nil))))))
      (pss_one (ps_ret (pv 1)))), ?_⟩
    walk_at "rd"
    refine ⟨(pl : Int), rfl, by omega, by omega, ?_⟩
    rw [Int.toNat_natCast]
    refine for_go (walk_range0 (n := pl)) (fun i σ H' => Same H H' ∧ ∃ (a' : Addr) (v3 v4 : Option V), (a' = a ∨ H a' = none) ∧ Ents H' a' (raisedM s.keep es i) ∧ σ = [some (.ref p), some (.ref a'), some (.int (pl : Int)), v3, v4]) ⟨Same.refl _, a, none, none, .inl rfl, ha, rfl⟩ (fun _ _ _ _ _ => trivial) (fun i x σ H1 H2 hi z y => ?_) (fun σ H1 z => ?_)
    · obtain ⟨s1, a', v3, v4, hfa, ha', rfl⟩ := z
      obtain ⟨rfl, rfl⟩ := y
      have hw := raised_wb hs hlen i
      walk_at "rd"
      refine meth_at (s1 _ _ hp) (by decide +kernel) (by decide +kernel) (by decide +kernel) ?_
      walk_at "rd"
      refine ⟨p, dx, l, d, s.keep, i, rfl, s1 _ _ hp, by omega, ?_⟩
      walk_at "rd"
      refine ⟨a', a', _, _, _, _, rfl, ha', ha', hw.1, hw.1, by omega, by omega, fun q1 H3 _ s3 E3 => ?_⟩
      walk_at "rd"
      refine ⟨q1, _, rfl, E3, fun q2 H4 hq2 s4 E4 => ?_⟩
      walk_at "rd"
      exact ⟨(s1.trans s3).trans s4, q2, _, _, .inr ((s1.trans s3).free hq2), E4, rfl⟩
    · obtain ⟨s1, a', v3, v4, hfa, ha', rfl⟩ := z
      walk_at "rd"
      exact q a' H1 s1 hfa ha'
theorem ok_Cup___init__ (D : MethAt K C "__init__" "Cup.__init__" S_Cup___init__ ["self", "keep"]) (U : CupC K mg C) (h_MOST_KEEP : GlobI mg "MOST_KEEP" 64) (x_BadKeep : ExcC K mg "BadKeep" C_BadKeep) (c_is_whole : Cal P w K mg base CX0 1 "is_whole" ["thing", "least", "most"] (sp_is_whole K)) :
    CalM P w K mg base (L2.CX P w) 2 C "__init__" ["self", "keep"] (sp_Cup_init K C C_BadKeep) := by
  obtain ⟨f, fd, F, hM, b⟩ := D.ex
  obtain ⟨t_MK, g_MOST_KEEP⟩ := h_MOST_KEEP.ex
  obtain ⟨f_is_whole, fd_is_whole, G_is_whole, m_is_whole, k_is_whole, b_is_whole⟩ := c_is_whole
  refine ⟨f, fd, F.okX sc_Cup___init__ (fun vs H Q E h => ?_) (fun cdv A outer s H vs Q E hr h => ?_), hM, b⟩
  · obtain ⟨p, dx, x, rfl, _⟩ := h
    rfl
  · obtain ⟨p, dx, x, rfl, hp, q⟩ := h
    refine ⟨_, (pss_cons (ps_if (pt_not (pt_val (pe_call G_is_whole (hr.mono (by decide)) rfl m_is_whole k_is_whole b_is_whole .nil pass0 (pa_cons (pv 1) (pa_cons pe_int (pa_cons (pe_glob (v := .int 64) rfl g_MOST_KEEP ⟨_, rfl⟩) pa_nil)))))) (pss_one (ps_raise rfl (takes_of rfl rfl rfl rfl) (pmk_own PySem.F.excBase_ValueError x_BadKeep.x x_BadKeep.g x_BadKeep.k (raises_own x_BadKeep.b x_BadKeep.t) rfl))) pss_nil)
      (PSs.nox (pss_cons (ps_fld (pv 0) (pv 1) rfl)
      (pss_cons (ps_fld (pv 0) (pe_lst pa_nil) rfl)
      (pss_one (ps_fld (pv 0) pe_dnewK rfl)))))), ?_⟩
    walk_at "rd"
    refine ⟨x, _, _, rfl, ?_⟩
    rcases q with ⟨k, rfl, h1, h2, q⟩ | ⟨⟨n, rfl, hn⟩ | ho, q⟩
    · refine .inl ⟨_, rfl, ?_⟩
      rw [decide_eq_true (show (1 : Int) ≤ (k : Int) ∧ (k : Int) ≤ 64 by omega)]
      walk_at "rd"
      refine ⟨p, C, dx, [], rfl, hp, U.cl, U.nk, by show 0 < 1000; decide, ?_⟩
      walk_at "rd"
      refine ⟨by show 0 ≤ sizeLine; decide, fun l hl => ?_⟩
      have npl : p ≠ l := fun e => by subst e; rw [upd_same] at hl; cases hl
      walk_at "rd"
      refine ⟨p, C, dx, _, rfl, by rw [upd_ne npl, upd_same], U.cl, U.nl, by show 1 < 1000; decide, ?_⟩
      walk_at "rd"
      intro d hd
      have npd : p ≠ d := fun e => by subst e; rw [upd_same] at hd; cases hd
      have nld : l ≠ d := fun e => by subst e; rw [upd_ne npl.symm, upd_same] at hd; cases hd
      walk_at "rd"
      refine ⟨p, C, dx, _, rfl, by rw [upd_ne npd, upd_same], U.cl, U.nb, by show 2 < 1000; decide, ?_⟩
      rw [cf_made]
      have hl0 : H l = none := by rw [upd_ne npl.symm] at hl; exact hl
      have hd0 : H d = none := by rw [upd_ne npd.symm, upd_ne nld.symm, upd_ne npd.symm] at hd; exact hd
      refine q d _ ⟨dx, l, upd_same, ?_, [], ?_, rfl, by simp⟩ hd0 (fun b o hb n1 => ?_) fun b hb => ?_
      · rw [upd_ne npl.symm, upd_ne nld, upd_ne npl.symm, upd_same]
        rfl
      · rw [upd_ne npd.symm, upd_same]
        rfl
      · rw [upd_ne n1, upd_ne (ne_of_none hb hd0), upd_ne n1, upd_ne (ne_of_none hb hl0), upd_ne n1]
        exact hb
      · rcases own_of (b3 := []) upd_same (by rw [upd_ne npd.symm, upd_same]; rfl) hb with e | ⟨x, hx, _⟩
        · rw [e]; exact hl0
        · cases hx
    · refine .inl ⟨n, rfl, ?_⟩
      rw [decide_eq_false hn]
      walk_at "rd"
      exact q
    · refine .inr ⟨ho, ?_⟩
      walk_at "rd"
      exact q
theorem ok_Cup_add (D : MethAt K C "add" "Cup.add" S_Cup_add ["self", "reading", "times"]) (U : CupC K mg C) (m_len : mg "len" = none) (m_min : mg "min" = none) (h_MOST_TIMES : GlobI mg "MOST_TIMES" 1000000000) (x_BadTimes : ExcC K mg "BadTimes" C_BadTimes)
    (c_is_whole : Cal P w K mg base CX0 1 "is_whole" ["thing", "least", "most"] (sp_is_whole K)) (c_need_reading : Cal P w K mg base (L2.CX P w) 2 "need_reading" ["thing"] (sp_need_reading K C_BadReading)) (c_exact : Cal P w K mg base CX0 1 "exact" ["row"] sp_exact)
    (c_digits : Cal P w K mg base CX0 1 "digits" ["number"] sp_digits) (c_Cup_fill : CalM P w K mg base CX0 6 C "fill" ["self", "reading", "times"] (sp_Cup_fill C)) (c_Cup_lay : CalM P w K mg base CX0 5 C "lay" ["self", "place", "entries"] (sp_Cup_lay C))
    (c_Cup_raised : CalM P w K mg base CX0 5 C "raised" ["self", "block", "place"] (sp_Cup_raised C)) : CalM P w K mg base (L2.CX P w) 7 C "add" ["self", "reading", "times"] (sp_Cup_add K C C_BadReading C_BadTimes) := by
  obtain ⟨f, fd, F, hM, b⟩ := D.ex
  obtain ⟨t_MT, g_MOST_TIMES⟩ := h_MOST_TIMES.ex
  obtain ⟨f_is_whole, fd_is_whole, G_is_whole, m_is_whole, k_is_whole, b_is_whole⟩ := c_is_whole
  obtain ⟨f_need_reading, fd_need_reading, G_need_reading, m_need_reading, k_need_reading, b_need_reading⟩ := c_need_reading
  obtain ⟨f_exact, fd_exact, G_exact, m_exact, k_exact, b_exact⟩ := c_exact
  obtain ⟨f_digits, fd_digits, G_digits, m_digits, k_digits, b_digits⟩ := c_digits
  obtain ⟨f_Cup_fill, fd_Cup_fill, G_Cup_fill, h_Cup_fill, b_Cup_fill⟩ := c_Cup_fill
  obtain ⟨f_Cup_lay, fd_Cup_lay, G_Cup_lay, h_Cup_lay, b_Cup_lay⟩ := c_Cup_lay
  obtain ⟨f_Cup_raised, fd_Cup_raised, G_Cup_raised, h_Cup_raised, b_Cup_raised⟩ := c_Cup_raised
  refine ⟨f, fd, F.okX sc_Cup_add (fun vs H Q E h => ?_) (fun cdv A outer s H vs Q E hr h => ?_), hM, b⟩
  · obtain ⟨p, d, x, y, s, rfl, _⟩ := h
    rfl
  · obtain ⟨p, d, x, y, s, rfl, hC, wf, q⟩ := h
    refine ⟨_, (pss_cons (ps_expr (pe_callS G_need_reading (hr.mono (by decide)) rfl m_need_reading k_need_reading b_need_reading (fun σ => passAt (takes_of rfl rfl rfl rfl) σ) (pa_cons (pv 1) pa_nil)))
      (pss_cons (ps_if (pt_not (pt_val (pe_call G_is_whole (hr.mono (by decide)) rfl m_is_whole k_is_whole b_is_whole .nil pass0 (pa_cons (pv 2) (pa_cons pe_int (pa_cons (pe_glob (v := .int 1000000000) rfl g_MOST_TIMES ⟨_, rfl⟩) pa_nil)))))) (pss_one (ps_raise rfl (takes_of rfl rfl rfl rfl) (pmk_own PySem.F.excBase_ValueError x_BadTimes.x x_BadTimes.g x_BadTimes.k (raises_own x_BadTimes.b x_BadTimes.t) rfl))) pss_nil)
      (PSs.nox (pss_cons (ps_set (i := 3) sc_Cup_add.nd rfl (Or.inl rfl) (pe_callB (call_min2 rfl) rfl m_min (by decide +kernel) (pa_cons (pv 2) (pa_cons (pe_op op_sub (pe_fldK (K := K) rfl (pv 0) rfl) (pe_callB call_len_seq rfl m_len (by decide +kernel) (pa_cons (pe_fldK (K := K) rfl (pv 0) rfl) pa_nil))) pa_nil))))
      (pss_cons (ps_expr (pe_meth (pv 0) U.cl h_Cup_fill G_Cup_fill (hr.mono (by decide)) b_Cup_fill .nil pass0 (pa_cons (pv 1) (pa_cons (pv 3) pa_nil))))
      (pss_cons (ps_set (i := 2) sc_Cup_add.nd rfl (Or.inl rfl) (pe_op op_sub (pv 2) (pv 3)))
      (pss_cons (ps_set (i := 4) sc_Cup_add.nd rfl (Or.inl rfl) (pe_call G_exact (hr.mono (by decide)) rfl m_exact k_exact b_exact .nil pass0 (pa_cons (pe_op op_rep (pe_lst (pa_cons (pv 1) pa_nil)) (pe_fldK (K := K) rfl (pv 0) rfl)) pa_nil)))
      (pss_cons (ps_for PassesOwn.never rfl (pi_list (pe_call G_digits (hr.mono (by decide)) rfl m_digits k_digits b_digits .nil pass0 (pa_cons (pe_op op_fdiv (pv 2) (pe_fldK (K := K) rfl (pv 0) rfl)) pa_nil))) (pg_name (i := 5) sc_Cup_add.nd rfl (Or.inl rfl)) (pss_one (ps_expr (pe_meth (pv 0) U.cl h_Cup_lay G_Cup_lay (hr.mono (by decide)) b_Cup_lay .nil pass0 (pa_cons (pv 5) (pa_cons (pe_meth (pv 0) U.cl h_Cup_raised G_Cup_raised (hr.mono (by decide)) b_Cup_raised .nil pass0 (pa_cons (pv 4) (pa_cons (pv 5) pa_nil))) pa_nil))))))
      (pss_one (ps_expr (pe_meth (pv 0) U.cl h_Cup_fill G_Cup_fill (hr.mono (by decide)) b_Cup_fill .nil pass0 (pa_cons (pv 1) (pa_cons (pe_op op_mod (pv 2) (pe_fldK (K := K) rfl (pv 0) rfl)) pa_nil))))))))))))), ?_⟩
    walk_at "rd"
    refine ⟨x, rfl, ?_⟩
    rcases q with ⟨r, t, rfl, rfl, hr', t1, t2, q⟩ | ⟨hb, q⟩ | ⟨r, rfl, hr', hb, q⟩
    · refine .inl ⟨r, rfl, hr', ?_⟩
      walk_at "rd"
      refine ⟨_, _, _, rfl, .inl ⟨_, rfl, ?_⟩⟩
      rw [decide_eq_true (show (1 : Int) ≤ (t : Int) ∧ (t : Int) ≤ 1000000000 by omega)]
      obtain ⟨dx, l, hp, hl, hD⟩ := id hC
      have k1 := wf.k1
      have k64 := wf.k64
      have ll := wf.ll
      walk_at "rd"
      refine fld_keep U hp ?_
      walk_at "rd"
      refine fld_loose U hp ?_
      refine ⟨l, _, rfl, .inl (SqL.of hl), ?_⟩
      rw [List.length_map]
      walk_at "rd"
      refine ⟨_, _, rfl, ?_⟩
      have efi : (if (s.keep : Int) - (s.loose.length : Int) < (t : Int) then (s.keep : Int) - (s.loose.length : Int) else (t : Int)) = ((min t (s.keep - s.loose.length) : Nat) : Int) := by
        split <;> omega
      rw [efi]
      obtain ⟨fi, hfi⟩ : ∃ fi, min t (s.keep - s.loose.length) = fi := ⟨_, rfl⟩
      rw [hfi]
      have hfit : fi ≤ t := by omega
      walk_at "rd"
      refine meth_at hp (by decide +kernel) (by decide +kernel) (by decide +kernel) ?_
      walk_at "rd"
      refine ⟨p, d, r, fi, s, rfl, hC, wf.wb, k64, by omega, by have := wf.bl; omega, fun H1 c1 f1 o1 => ?_⟩
      have kf := fill_keep s r fi
      obtain ⟨wb1, bl1, ll1⟩ := fill_wb (r := r) (t := fi) wf.wb (by omega)
      have lf : fi = s.keep - s.loose.length → (s.fill r fi).loose = [] := fun e => fill_empty s r fi (by omega)
      have eadd : s.add r t = ((digitsM ((t - fi) / s.keep)).foldl (layR r) (s.fill r fi)).fill r ((t - fi) % s.keep) := by
        unfold CupM.add
        simp only
        rw [hfi]
        rfl
      rw [eadd] at q
      have bl0 := wf.bl
      generalize hs1 : s.fill r fi = s1 at *
      rw [← kf] at k1 k64 q
      obtain ⟨dx1, l1, hp1, hl1, hD1⟩ := id c1
      walk_at "rd"
      refine ⟨by show 1 ≤ sizeLine; decide, fun a1 ha1 => ?_⟩
      walk_at "rd"
      have hpA := (Same.new (o := .lst [.int r]) ha1) _ _ hp1
      refine fld_keep U hpA ?_
      refine ⟨a1, (s1.keep : Int), [.int r], rfl, rfl, upd_same, by omega, by omega, by rw [sizeLine_eq]; simp; omega, fun a2 ha2 => ?_⟩
      have s2 : Same H1 (upd (upd H1 a1 (.lst [.int r])) a2 (.lst (List.replicate (s1.keep : Int).toNat [V.int r]).flatten)) := (Same.new ha1).trans (Same.new ha2)
      have h2 : (upd (upd H1 a1 (.lst [.int r])) a2 (.lst (List.replicate (s1.keep : Int).toNat [V.int r]).flatten)) a2 = some (.lst ((List.replicate s1.keep r).map V.int)) := by rw [upd_same, Int.toNat_natCast, rep_flat]
      generalize upd (upd H1 a1 (.lst [.int r])) a2 (.lst (List.replicate (s1.keep : Int).toNat [V.int r]).flatten) = H2 at *
      walk_at "rd"
      refine ⟨a2, List.replicate s1.keep r, rfl, h2, by rw [List.length_replicate]; omega, fun a3 H3 ha3 s3 E3 => ?_⟩
      have hp3 := s3 _ _ (s2 _ _ hp1)
      walk_at "rd"
      refine fld_keep U hp3 ?_
      walk_at "rd"
      have eq0 : ((t : Int) - (fi : Int)) / (s1.keep : Int) = (((t - fi) / s1.keep : Nat) : Int) := by rw [Int.natCast_ediv, Int.natCast_sub hfit]
      rw [eq0]
      have hql : (t - fi) / s1.keep ≤ 1000000000 := Nat.le_trans (Nat.div_le_self _ _) (by omega)
      refine ⟨_, rfl, Nat.lt_of_le_of_lt hql (by decide), fun a4 H4 ha4 s4 h4 => ?_⟩
      have ds_le : ∀ k ∈ digitsM ((t - fi) / s1.keep), k < 30 := fun k hk => by
        have h5 := digitsM_le hk
        have h6 : 2 ^ k < 2 ^ 30 := Nat.lt_of_le_of_lt (Nat.le_trans h5 hql) (by decide)
        exact (Nat.pow_lt_pow_iff_right (by decide)).mp h6
      have ds_ln : (digitsM ((t - fi) / s1.keep)).length ≤ 30 := up_len 30 _ 0 (digitsM_up _) fun x hx => ⟨Nat.zero_le x, by have := ds_le x hx; omega⟩
      generalize hds : digitsM ((t - fi) / s1.keep) = ds at *
      have s14 : Same H1 H4 := (s2.trans s3).trans s4
      have f4 : Fr H H4 p d := f1.trans (Fr.same s14 p d)
      have o4 : Ow No H H4 p d := o1.tr0 (Ow.same c1 s14)
      have ha3n : H a3 = none := o1.1 _ (s2.free ha3)
      have c4 := c1.same s14
      have E4 := E3.same s4
      walk_at "rd"
      refine ⟨a4, rfl, ⟨_, SqL.of h4⟩, ?_⟩
      refine for_go (walk_list (xs := (ds.map fun (k : Nat) => (k : Int)).map V.int)) (fun i σ H' => (Fr H4 H' p d ∧ Ow No H H' p d) ∧ CupAt C H' p d ((ds.take i).foldl (layR r) s1) ∧ ∃ v5 : Option V, σ = [some (.ref p), some (.int r), some (.int ((t : Int) - (fi : Int))), some (.int (fi : Int)), some (.ref a3), v5])
        ⟨⟨Fr.refl _ _ _, o4⟩, c4, none, rfl⟩ (fun i σ H' _ z => SqL.of ((c4.immF z.1.1).1 _ _ h4)) (fun i x σ H5 H6 hi z y => ?_) (fun σ H5 z => ?_)
      · obtain ⟨⟨f5, o5⟩, c5, v5, rfl⟩ := z
        obtain ⟨rfl, ex⟩ := y
        rw [List.length_map, List.length_map] at hi
        rw [List.getElem?_map, List.getElem?_map, List.getElem?_eq_getElem hi] at ex
        have ex' : x = .int ((ds[i] : Nat) : Int) := (Option.some.inj ex).symm
        subst ex'
        have hdi := ds_le ds[i] (List.getElem_mem hi)
        have E5 := E4.imm (c4.immF f5)
        obtain ⟨wbi, bli⟩ := layR_wb (r := r) (ds.take i) s1 wb1
        obtain ⟨ki, _⟩ := layR_keep r (ds.take i) s1
        have ltk : (ds.take i).length ≤ 30 := by rw [List.length_take]; omega
        have hfold : (ds.take (i + 1)).foldl (layR r) s1 = layR r ((ds.take i).foldl (layR r) s1) ds[i] := by rw [List.take_succ_eq_append_getElem hi, List.foldl_append]; rfl
        rw [hfold]
        generalize hT : (ds.take i).foldl (layR r) s1 = T at *
        rw [← ki] at k64
        have hx0 : Srtd (exactM (List.replicate s1.keep r)) := exactM_sorted _
        have hx1 : (exactM (List.replicate s1.keep r)).length = T.keep := by rw [exactM_length, List.length_replicate, ki]
        generalize ds[i] = pl at *
        obtain ⟨dx5, l5, hp5, _⟩ := id c5
        walk_at "rd"
        refine meth_at hp5 (by decide +kernel) (by decide +kernel) (by decide +kernel) ?_
        walk_at "rd"
        refine meth_at hp5 (by decide +kernel) (by decide +kernel) (by decide +kernel) ?_
        walk_at "rd"
        refine ⟨p, d, a3, pl, _, T, rfl, c5, E5, hx0, hx1, k64, by omega, fun a6 H6 s6 fa6 E6 => ?_⟩
        have hw := raised_wb hx0 hx1 pl
        walk_at "rd"
        refine ⟨p, d, a6, pl, _, T, rfl, c5.same s6, E6, wbi, hw.1, hw.2, k64, by omega, fun H7 c7 f7 o7 => ?_⟩
        walk_at "rd"
        have o8 : Ow No H H7 p d := ((o5.trans (Ow.same c5 s6)).trans o7).weak fun b hb => by
          rcases hb with (h | h) | h
          · exact h.elim
          · exact h.elim
          · rw [h]
            rcases fa6 with g | g
            · rw [g]; exact .inr (.inl ha3n)
            · exact .inr (.inl (o5.1 _ g))
        refine ⟨⟨f5.trans ((Fr.same s6 p d).trans f7), o8⟩, ?_, _, rfl⟩
        rw [← ki] at c7
        exact c7
      · obtain ⟨⟨f5, o5⟩, c5, v5, rfl⟩ := z
        rw [List.length_map, List.length_map, List.take_length] at c5
        obtain ⟨wbi, bli⟩ := layR_wb (r := r) ds s1 wb1
        obtain ⟨ki, li⟩ := layR_keep r ds s1
        generalize ds.foldl (layR r) s1 = T at *
        obtain ⟨dx5, l5, hp5, _⟩ := id c5
        walk_at "rd"
        refine meth_at hp5 (by decide +kernel) (by decide +kernel) (by decide +kernel) ?_
        walk_at "rd"
        refine fld_keep U hp5 ?_
        walk_at "rd"
        have er : ((t : Int) - (fi : Int)) % (T.keep : Int) = (((t - fi) % T.keep : Nat) : Int) := by rw [Int.natCast_emod, Int.natCast_sub hfit]
        rw [er]
        have hlt : (t - fi) % T.keep < T.keep := Nat.mod_lt _ (by omega)
        have hroom : T.loose.length + (t - fi) % T.keep ≤ T.keep := by
          by_cases c : fi = t
          · rw [c, Nat.sub_self, Nat.zero_mod, li]
            have := ll1 (by omega)
            omega
          · rw [li, lf (by omega)]
            simp
            omega
        refine ⟨p, d, r, (t - fi) % T.keep, T, rfl, c5, wbi, by omega, hroom, by omega, fun H7 c7 f7 o7 => ?_⟩
        walk_at "rd"
        rw [ki] at c7
        exact q H7 c7 ((f4.trans f5).trans f7) (o5.tr0 o7)
    · refine .inr ⟨hb, ?_⟩
      exact q
    · refine .inl ⟨r, rfl, hr', ?_⟩
      walk_at "rd"
      refine ⟨_, _, _, rfl, ?_⟩
      rcases hb with ⟨n, rfl, hn⟩ | ho
      · refine .inl ⟨n, rfl, ?_⟩
        rw [decide_eq_false hn]
        walk_at "rd"
        exact q
      · refine .inr ⟨ho, ?_⟩
        walk_at "rd"
        exact q
end
end RB

namespace RB
open PySem PySem.Spec PyProof.Rows L2
/-! ### pour, count, off, bound, kept -/
def OddV.same {K : PySem.W.Frag} {H H' : Hp} (e : Same H H') {x : V} (h : OddV K H x) : OddV K H' x := by
  obtain ⟨a, ty, ha⟩ := h
  exact ⟨a, TyX.same e ty, ha⟩
def sp_Cup_count (C : Addr) : Sp := fun vs H Q _ => ∃ (p d : Addr) (s : CupM), vs = [.ref p] ∧ CupAt C H p d s ∧ Wf s ∧ RetV (.int (s.count : Int)) H Q
def sp_Cup_off (C : Addr) : Sp := fun vs H Q _ => ∃ (p d : Addr) (s : CupM), vs = [.ref p] ∧ CupAt C H p d s ∧ Wf s ∧ RetV (.int ((offM (s.count / s.keep) : Nat) : Int)) H Q
def sp_Cup_bound (C : Addr) : Sp := fun vs H Q _ => ∃ (p d : Addr) (s : CupM), vs = [.ref p] ∧ CupAt C H p d s ∧ Wf s ∧ RetV (.int ((s.keep * (digitsM (s.count / s.keep)).length + s.count % s.keep : Nat) : Int)) H Q
def sp_Cup_kept (C : Addr) : Sp := fun vs H Q _ => ∃ (p d : Addr) (s : CupM), vs = [.ref p] ∧ CupAt C H p d s ∧ Wf s ∧ RetE s.kept H Q
abbrev S_Cup_count : Stmt := inClass (top 26) 7
theorem sc_Cup_count : FnScope ["self", "place"] ["self"] (defScope S_Cup_count) := ⟨rfl, rfl, rfl, by decide +kernel, rfl, by decide +kernel, by decide +kernel⟩
abbrev S_Cup_off : Stmt := inClass (top 26) 8
theorem sc_Cup_off : FnScope ["self", "place"] ["self"] (defScope S_Cup_off) := ⟨rfl, rfl, rfl, by decide +kernel, rfl, by decide +kernel, by decide +kernel⟩
abbrev S_Cup_bound : Stmt := inClass (top 26) 9
theorem sc_Cup_bound : FnScope ["self"] ["self"] (defScope S_Cup_bound) := ⟨rfl, rfl, rfl, by decide +kernel, rfl, by decide +kernel, by decide +kernel⟩
abbrev S_Cup_kept : Stmt := inClass (top 26) 10
theorem sc_Cup_kept : FnScope ["self", "found", "many", "place"] ["self"] (defScope S_Cup_kept) := ⟨rfl, rfl, rfl, by decide +kernel, rfl, by decide +kernel, by decide +kernel⟩
section
variable {P : Program} {w : World} {K : PySem.W.Frag} {mg : Str → Option Value} {base : Heap} {C C_UnlikeCups : Addr}
theorem ok_Cup_pour (D : MethAt K C "pour" "Cup.pour" S_Cup_pour ["self", "other"]) (U : CupC K mg C) (m_list : mg "list" = none) (m_sorted : mg "sorted" = none) (x_UnlikeCups : ExcC K mg "UnlikeCups" C_UnlikeCups)
    (c_Cup_fill : CalM P w K mg base CX0 6 C "fill" ["self", "reading", "times"] (sp_Cup_fill C)) (c_Cup_lay : CalM P w K mg base CX0 5 C "lay" ["self", "place", "entries"] (sp_Cup_lay C)) : CalM P w K mg base (L2.CX P w) 7 C "pour" ["self", "other"] (sp_Cup_pour C C_UnlikeCups) := by
  obtain ⟨f, fd, F, hM, b⟩ := D.ex
  obtain ⟨f_Cup_fill, fd_Cup_fill, G_Cup_fill, h_Cup_fill, b_Cup_fill⟩ := c_Cup_fill
  obtain ⟨f_Cup_lay, fd_Cup_lay, G_Cup_lay, h_Cup_lay, b_Cup_lay⟩ := c_Cup_lay
  refine ⟨f, fd, F.okX sc_Cup_pour (fun vs H Q E h => ?_) (fun cdv A outer s H vs Q E hr h => ?_), hM, b⟩
  · obtain ⟨p, d, q, e, s, o, rfl, _⟩ := h
    rfl
  · obtain ⟨p, d, q, e, s, o, rfl, cs, co, ws, wo, k⟩ := h
    obtain ⟨dx, l, hp, hl, hD⟩ := id cs
    obtain ⟨dq, lq, hq, hlq, b3, he, eb, hE⟩ := id co
    refine ⟨_, (pss_cons (ps_if (pt_cmpR op_ne (pe_fldK (K := K) rfl (pv 0) rfl) (pe_fldK (K := K) rfl (pv 1) rfl) (nomark _)) (pss_one (ps_raise rfl (takes_of rfl rfl rfl rfl) (pmk_own PySem.F.excBase_ValueError x_UnlikeCups.x x_UnlikeCups.g x_UnlikeCups.k (raises_own x_UnlikeCups.b x_UnlikeCups.t) rfl))) pss_nil)
      (PSs.nox (pss_cons (ps_set (i := 2) sc_Cup_pour.nd rfl (Or.inl rfl) (pe_callTy call_list_of rfl m_list (by decide +kernel) (pa_cons (pe_fldK (K := K) rfl (pv 1) rfl) pa_nil)))
      (pss_cons (ps_setLc (i := 3) (own := [("place", 4)]) (g := (gName 4)) (tt := tYes) rfl sc_Cup_pour.nd rfl rfl (sw_true rfl rfl rfl (by decide +kernel)) (pi_list (pe_callB (call_sortedDI rfl) rfl m_sorted (by decide +kernel) (pa_cons (pe_fldK (K := K) rfl (pv 1) rfl) pa_nil))) (blkOk_by (N := ["self", "other", "loose", "blocks", "place", "reading", "entries"]) (sc := defScope S_Cup_pour) (by decide +kernel)) (fun _ _ _ _ _ => by exact (pg_name (i := 4) sc_Cup_pour.nd rfl (Or.inl rfl))) (fun _ _ _ _ _ => by exact pts_nil) (fun _ _ _ _ _ => by exact (pe_tup (pa_cons (pv 4) (pa_cons (pe_dget (hu_of hr) (pe_fldK (K := K) rfl (pv 1) rfl) (pv 4) (fun _ _ => rfl)) pa_nil)))))
      (pss_cons (ps_for PassesOwn.never rfl (pi_list (pv 2)) (pg_name (i := 5) sc_Cup_pour.nd rfl (Or.inl rfl)) (pss_one (ps_expr (pe_meth (pv 0) U.cl h_Cup_fill G_Cup_fill (hr.mono (by decide)) b_Cup_fill .nil pass0 (pa_cons (pv 5) (pa_cons pe_int pa_nil))))))
      (pss_one (ps_for PassesOwn.never rfl (pi_list (pv 3)) (pg_tup rfl (pgs_cons (pg_name (i := 4) sc_Cup_pour.nd rfl (Or.inl rfl)) (pgs_cons (pg_name (i := 6) sc_Cup_pour.nd rfl (Or.inl rfl)) pgs_nil))) (pss_one (ps_expr (pe_meth (pv 0) U.cl h_Cup_lay G_Cup_lay (hr.mono (by decide)) b_Cup_lay .nil pass0 (pa_cons (pv 4) (pa_cons (pv 6) pa_nil)))))))))))), ?_⟩
    walk_at "rd"
    refine fld_keep U hp ?_
    walk_at "rd"
    refine fld_keep U hq ?_
    walk_at "rd"
    rcases k with ⟨hk, k⟩ | ⟨hk, k⟩
    · refine if_nd (fun z => absurd (by rw [hk]) z) (fun _ => ?_)
      walk_at "rd"
      refine fld_loose U hq ?_
      refine ⟨lq, _, rfl, .inl (SqL.of hlq), fun p1 hp1 => ?_⟩
      have s1 : Same H (upd H p1 (.lst (o.loose.map V.int))) := Same.new hp1
      have h1 : (upd H p1 (.lst (o.loose.map V.int))) p1 = some (.lst (o.loose.map V.int)) := upd_same
      generalize upd H p1 (.lst (o.loose.map V.int)) = H1 at *
      walk_at "rd"
      refine fld_blocks U (s1 _ _ hq) ?_
      have hkeys : (b3.map kvB).map (·.1) = (b3.map fun x => (x.1 : Int)).map Sum.inl := by rw [List.map_map, List.map_map]; rfl
      have bl : b3.length ≤ 63 := by have := wo.bl; rw [← eb, List.length_map] at this; exact this
      refine ⟨e, _, _, rfl, .inl (s1 _ _ he), hkeys, by rw [List.length_map]; omega, fun ys p2 hy1 hy2 hp2 => ?_⟩
      have ey : ys = (sort3 b3).map fun x => (x.1 : Int) := by rw [sort3_keys]; exact srt_of hy1 hy2
      subst ey
      have s2 : Same H (upd H1 p2 (.lst (((sort3 b3).map fun x => (x.1 : Int)).map V.int))) := s1.trans (Same.new hp2)
      have h2 : (upd H1 p2 (.lst (((sort3 b3).map fun x => (x.1 : Int)).map V.int))) p2 = some (.lst (((sort3 b3).map fun x => (x.1 : Int)).map V.int)) := upd_same
      have h12 := (Same.new (o := .lst (((sort3 b3).map fun x => (x.1 : Int)).map V.int)) hp2) _ _ h1
      generalize upd H1 p2 (.lst (((sort3 b3).map fun x => (x.1 : Int)).map V.int)) = H2 at *
      walk_at "rd"
      refine ⟨p2, rfl, ⟨_, SqL.of h2⟩, ?_⟩
      have sl : (sort3 b3).length = b3.length := List.length_mergeSort ..
      have nd3 : (b3.map fun x => x.1).Nodup := by
        have := wo.nd
        rw [← eb, List.map_map] at this
        exact this
      refine lc_gen (walk_list (xs := ((sort3 b3).map fun x => (x.1 : Int)).map V.int)) (fun _ => true) (fun i v H' => ∀ x, (sort3 b3)[i]? = some x → ∃ t, v = .ref t ∧ H' t = some (.tup [.int (x.1 : Int), .ref x.2.1])) (by rw [List.length_map, List.length_map, sl]; omega) (SqL.of h2) (fun _ _ s h => s.seq h)
        (fun i v H H' s h x hx => by obtain ⟨t, t1, t2⟩ := h x hx; exact ⟨t, t1, s _ _ t2⟩) (fun i v H D xs ys hD h x hx => by obtain ⟨t, t1, t2⟩ := h x hx; exact ⟨t, t1, by rw [upd_ne (ne_of t2 hD (by intro z; cases z))]; exact t2⟩) (fun i hi H3 s3 _ x H' y => ?_) (fun p3 zs H3 hp3 s3 h3 M => ?_)
      · obtain ⟨rfl, ex⟩ := y
        rw [List.length_map, List.length_map] at hi
        rw [List.getElem?_map, List.getElem?_map, List.getElem?_eq_getElem hi] at ex
        have ex' : x = .int (((sort3 b3)[i].1 : Nat) : Int) := (Option.some.inj ex).symm
        subst ex'
        have hm : (sort3 b3)[i] ∈ b3 := sort3_mem.mp (List.getElem_mem hi)
        have hf := find3 nd3 hm
        refine ⟨Same.refl _, fun R S hy _ => ?_⟩
        have he3 := s3 _ _ (s2 _ _ he)
        have hq3 := s3 _ _ (s2 _ _ hq)
        have hget : ∀ x, (sort3 b3)[i]? = some x → x = (sort3 b3)[i] := fun x hx => by rw [List.getElem?_eq_getElem hi] at hx; exact (Option.some.inj hx).symm
        generalize (sort3 b3)[i] = x0 at *
        walk_at "rd"
        refine ⟨rfl, ?_⟩
        walk_at "rd"
        refine fld_blocks U hq3 ?_
        walk_at "rd"
        refine ⟨e, .ref x0.2.1, rfl, ?_, ?_⟩
        · have g := DGet.k (k := Sum.inl (x0.1 : Int)) he3
          rw [find_kv, hf] at g
          exact g
        walk_at "rd"
        refine ⟨by show 2 ≤ sizeLine; decide, fun t ht => hy rfl _ _ (Same.new ht) fun x hx => ⟨t, rfl, ?_⟩⟩
        rw [upd_same, hget x hx]
      have hzl : zs.length = b3.length := by rw [M.len, pickN_all, List.length_range, List.length_map, List.length_map, sl]
      have hz : ∀ (i : Nat) (x : B3), (sort3 b3)[i]? = some x → ∃ t, zs[i]? = some (.ref t) ∧ H3 t = some (.tup [.int (x.1 : Int), .ref x.2.1]) := by
        intro i x hx
        have hi : i < b3.length := by rw [← sl]; exact (List.getElem?_eq_some_iff.mp hx).1
        obtain ⟨t, t1, t2⟩ := M.get i i zs[i] (by rw [pickN_all, List.getElem?_range (by rw [List.length_map, List.length_map, sl]; exact hi)]) (List.getElem?_eq_getElem (by omega)) x hx
        exact ⟨t, by rw [List.getElem?_eq_getElem (by omega), t1], t2⟩
      have s4 := s2.trans s3
      have h13 := s3 _ _ h12
      have c3 := cs.same s4
      have E3 : ∀ x ∈ b3, Ents H3 x.2.1 x.2.2 := fun x hx => (hE x hx).same s4
      have wbo : WB s.keep (sortB o.blocks) := by rw [hk]; exact wo.wb.sort
      have olen : o.loose.length ≤ 64 := by have := wo.ll; have := wo.k64; omega
      walk_at "rd"
      refine ⟨p1, rfl, ⟨_, SqL.of h13⟩, ?_⟩
      refine for_go (walk_list (xs := o.loose.map V.int)) (fun i σ H' => (Fr H3 H' p d ∧ Ow No H H' p d) ∧ CupAt C H' p d ((o.loose.take i).foldl (fun s r => s.fill r 1) s) ∧ ∃ v5 v6 v7, σ = [some (.ref p), some (.ref q), some (.ref p1), some (.ref p3), v5, v6, v7])
        ⟨⟨Fr.refl _ _ _, Ow.same cs s4⟩, c3, _, _, _, rfl⟩ (fun i σ H' _ z => SqL.of ((c3.immF z.1.1).1 _ _ h13)) (fun i x σ H5 H6 hi z y => ?_) (fun σ H5 z => ?_)
      · obtain ⟨⟨f5, o5⟩, c5, v5, v6, v7, rfl⟩ := z
        obtain ⟨rfl, ex⟩ := y
        rw [List.length_map] at hi
        rw [List.getElem?_map, List.getElem?_eq_getElem hi] at ex
        have ex' : x = .int o.loose[i] := (Option.some.inj ex).symm
        subst ex'
        obtain ⟨w1, w2, w3⟩ := fills_wb (o.loose.take i) s ws.wb ws.k1 ws.ll
        have k5 := pour_keep (o.loose.take i) s
        have ltk : (o.loose.take i).length ≤ 64 := by rw [List.length_take]; omega
        have hfold : (o.loose.take (i + 1)).foldl (fun s r => s.fill r 1) s = ((o.loose.take i).foldl (fun s r => s.fill r 1) s).fill o.loose[i] 1 := by rw [List.take_succ_eq_append_getElem hi, List.foldl_append]; rfl
        rw [hfold]
        generalize (o.loose.take i).foldl (fun s r => s.fill r 1) s = T at *
        generalize o.loose[i] = r at *
        obtain ⟨dx5, l5, hp5, _⟩ := id c5
        walk_at "rd"
        refine meth_at hp5 (by decide +kernel) (by decide +kernel) (by decide +kernel) ?_
        walk_at "rd"
        refine ⟨p, d, r, 1, T, rfl, c5, w1, by rw [k5]; exact ws.k64, by rw [k5]; omega, by have := ws.bl; omega, fun H7 c7 f7 o7 => ?_⟩
        walk_at "rd"
        exact ⟨⟨f5.trans f7, o5.tr0 o7⟩, c7, _, _, _, rfl⟩
      · obtain ⟨⟨f5, o5⟩, c5, v5, v6, v7, rfl⟩ := z
        rw [List.length_map, List.take_length] at c5
        obtain ⟨w1, w2, w3⟩ := fills_wb o.loose s ws.wb ws.k1 ws.ll
        have k5 := pour_keep o.loose s
        have i5 := c3.immF f5
        have epour : s.pour o = (sortB o.blocks).foldl (fun s b => s.lay b.1 b.2) (o.loose.foldl (fun s r => s.fill r 1) s) := rfl
        rw [epour] at k
        generalize o.loose.foldl (fun s r => s.fill r 1) s = T at *
        have h33 := i5.1 _ _ h3
        walk_at "rd"
        refine ⟨p3, rfl, ⟨_, SqL.of h33⟩, ?_⟩
        refine for_go (walk_list (xs := zs)) (fun i σ H' => (Fr H5 H' p d ∧ Ow (Own H q e) H H' p d) ∧ CupAt C H' p d (((sort3 b3).take i).foldl (fun s x => s.lay x.1 x.2.2) T) ∧ ∃ v5 v6 v7, σ = [some (.ref p), some (.ref q), some (.ref p1), some (.ref p3), v5, v6, v7])
          ⟨⟨Fr.refl _ _ _, o5.weak fun _ h => h.elim⟩, c5, _, _, _, rfl⟩ (fun i σ H' _ z => SqL.of ((c5.immF z.1.1).1 _ _ h33)) (fun i x σ H6 H7 hi z y => ?_) (fun σ H6 z => ?_)
        · obtain ⟨⟨f6, o6⟩, c6, u5, u6, u7, rfl⟩ := z
          obtain ⟨rfl, ex⟩ := y
          rw [hzl, ← sl] at hi
          obtain ⟨t, t1, t2⟩ := hz i (sort3 b3)[i] (List.getElem?_eq_getElem hi)
          rw [ex] at t1
          cases t1
          have hm : (sort3 b3)[i] ∈ b3 := sort3_mem.mp (List.getElem_mem hi)
          have i6 := i5.trans (c5.immF f6)
          have t3 := i6.2 _ _ t2
          have E6 := (E3 _ hm).imm i6
          have tkB : ((sort3 b3).take i).foldl (fun s x => s.lay x.1 x.2.2) T = (((sort3 b3).take i).map toB).foldl (fun s b => s.lay b.1 b.2) T := by rw [List.foldl_map]; rfl
          have wtk : WB s.keep (((sort3 b3).take i).map toB) := fun b hb => by
            obtain ⟨x, hx, rfl⟩ := List.mem_map.mp hb
            refine wbo _ ?_
            rw [← eb, ← sort3_toB]
            exact List.mem_map.mpr ⟨x, List.mem_of_mem_take hx, rfl⟩
          obtain ⟨v1, v2, v3⟩ := lays_wb (((sort3 b3).take i).map toB) T k5 (by rw [k5] at w1; exact w1) wtk
          have hfold : ((sort3 b3).take (i + 1)).foldl (fun s x => s.lay x.1 x.2.2) T = (((sort3 b3).take i).foldl (fun s x => s.lay x.1 x.2.2) T).lay (sort3 b3)[i].1 (sort3 b3)[i].2.2 := by rw [List.take_succ_eq_append_getElem hi, List.foldl_append]; rfl
          have hwx := wbo (toB (sort3 b3)[i]) (by rw [← eb, ← sort3_toB]; exact List.mem_map.mpr ⟨_, List.getElem_mem hi, rfl⟩)
          have hpl := wo.pl (toB (sort3 b3)[i]) (by rw [← eb]; exact List.mem_map.mpr ⟨_, hm, rfl⟩)
          have ltk : (((sort3 b3).take i).map toB).length ≤ 63 := by rw [List.length_map, List.length_take]; omega
          rw [hfold, tkB]
          rw [tkB] at c6
          generalize (((sort3 b3).take i).map toB).foldl (fun s b => s.lay b.1 b.2) T = T6 at *
          generalize (sort3 b3)[i] = x0 at *
          obtain ⟨dx6, l6, hp6, _⟩ := id c6
          have bls := ws.bl
          walk_at "rd"
          refine ⟨t, _, rfl, SqT.of' t3, rfl, ?_⟩
          walk_at "rd"
          refine meth_at hp6 (by decide +kernel) (by decide +kernel) (by decide +kernel) ?_
          walk_at "rd"
          refine ⟨p, d, x0.2.1, x0.1, x0.2.2, T6, rfl, c6, E6, by rw [v3]; exact v1, hwx.1, by rw [v3]; exact hwx.2, by rw [v3]; exact ws.k64, by have : (toB x0).1 ≤ 63 := hpl; show x0.1 + _ ≤ 1000; have e0 : (toB x0).1 = x0.1 := rfl; omega, fun H8 c8 f8 o8 => ?_⟩
          walk_at "rd"
          refine ⟨⟨f6.trans f8, (o6.trans o8).weak fun b hb => ?_⟩, c8, _, _, _, rfl⟩
          rcases hb with h | h
          · exact .inr (.inr h)
          · rw [h]; exact .inr (.inr (.inr ⟨_, _, he, List.mem_map.mpr ⟨x0, hm, rfl⟩⟩))
        · obtain ⟨⟨f6, o6⟩, c6, u5, u6, u7, rfl⟩ := z
          rw [hzl, ← sl, List.take_length] at c6
          have tkB : (sort3 b3).foldl (fun s x => s.lay x.1 x.2.2) T = (sortB o.blocks).foldl (fun s b => s.lay b.1 b.2) T := by rw [← eb, ← sort3_toB, List.foldl_map]; rfl
          rw [tkB] at c6
          walk_at "rd"
          exact k H6 c6 (((Fr.same s4 p d).trans f5).trans f6) o6
    · refine if_nd (fun _ => ?_) (fun z => absurd (by omega) hk)
      walk_at "rd"
      exact k
theorem ok_Cup_count (D : MethAt K C "count" "Cup.count" S_Cup_count ["self"]) (U : CupC K mg C) (m_len : mg "len" = none) (m_sum : mg "sum" = none) (c_Cup_size : CalM P w K mg base CX0 2 C "size" ["self", "place"] (sp_Cup_size C)) : CalM P w K mg base CX0 3 C "count" ["self"] (sp_Cup_count C) := by
  obtain ⟨f, fd, F, hM, b⟩ := D.ex
  obtain ⟨f_Cup_size, fd_Cup_size, G_Cup_size, h_Cup_size, b_Cup_size⟩ := c_Cup_size
  refine ⟨f, fd, F.ok sc_Cup_count (fun vs H Q E h => ?_) (fun cdv A outer s H vs Q E hr h => ?_), hM, b⟩
  · obtain ⟨p, d, s, rfl, _⟩ := h
    rfl
  · obtain ⟨p, d, s, rfl, cs, wf, q⟩ := h
    obtain ⟨dx, l, hp, hl, b3, hd, eb, hE⟩ := id cs
    refine ⟨_, (pss_one (ps_ret (pe_op op_add (pe_callB call_len_seq rfl m_len (by decide +kernel) (pa_cons (pe_fldK (K := K) rfl (pv 0) rfl) pa_nil)) (pe_callB (cr_sum rfl) rfl m_sum (by decide +kernel) (pa_cons (pe_lock (pe_lc (own := [("place", 1)]) (g := (gName 1)) (tt := tYes) rfl sc_Cup_count.nd (pi_keys (pe_fldK (K := K) rfl (pv 0) rfl)) (blkOk_by (N := ["self", "place"]) (sc := defScope S_Cup_count) (by decide +kernel)) (fun _ _ _ _ _ => by exact (pg_name (i := 1) sc_Cup_count.nd rfl (Or.inl rfl))) (fun _ _ _ _ _ => by exact pts_nil) (fun _ _ _ _ _ => by exact (pe_meth (pv 0) U.cl h_Cup_size G_Cup_size (hr.mono (by decide)) b_Cup_size .nil pass0 (pa_cons (pv 1) pa_nil))))) pa_nil))))), ?_⟩
    have npd : p ≠ d := cs.ne
    walk_at "rd"
    refine fld_loose U hp ?_
    refine ⟨l, _, rfl, .inl (SqL.of hl), ?_⟩
    rw [List.length_map]
    walk_at "rd"
    refine r_lockE ?_
    refine ⟨d, _, hd, trivial, fun od => ?_⟩
    have hpF : (upd H d (.frz od (.dK (b3.map kvB)))) p = some (.ins C dx (cf (s.keep : Int) l d)) := by rw [upd_ne npd]; exact hp
    have hdF : (upd H d (.frz od (.dK (b3.map kvB)))) d = some (.frz od (.dK (b3.map kvB))) := upd_same
    walk_at "rd"
    refine fld_blocks U hpF ?_
    refine ⟨d, od, rfl, .inl ⟨_, hdF, ?_⟩⟩
    have hpl : ∀ x ∈ b3, x.1 ≤ 63 := fun x hx => wf.pl (toB x) (by rw [← eb]; exact List.mem_map.mpr ⟨x, hx, rfl⟩)
    have bl : b3.length ≤ 63 := by have := wf.bl; rw [← eb, List.length_map] at this; exact this
    refine lc_gen (walk_keys (d := d) (o := od) (kvs := b3.map kvB)) (fun _ => true) (fun i v _ => v = .int ((size s.keep (b3.getD i (0, 0, [])).1 : Nat) : Int)) (by rw [List.length_map]; omega) hdF (fun H H' s h => s _ _ h)
      (fun _ _ _ _ _ h => h) (fun _ _ _ _ _ _ _ h => h) (fun i hi H1 s1 _ x H' y => ?_) (fun p1 ys H1 hp1 s1 h1 M => ?_)
    · obtain ⟨rfl, kk, vv, ex, rfl⟩ := y
      rw [List.length_map] at hi
      rw [List.getElem?_map, List.getElem?_eq_getElem hi] at ex
      have ex' : kk = Sum.inl ((b3[i].1 : Nat) : Int) := by
        have := Option.some.inj ex
        exact (congrArg Prod.fst this).symm
      subst ex'
      refine ⟨Same.refl _, fun R S hy _ => ?_⟩
      have e0 : b3.getD i (0, 0, []) = b3[i] := by rw [List.getD_eq_getElem?_getD, List.getElem?_eq_getElem hi]; rfl
      rw [e0] at hy
      have hpx := hpl b3[i] (List.getElem_mem hi)
      generalize b3[i] = x0 at *
      walk_at "rd"
      refine ⟨rfl, ?_⟩
      walk_at "rd"
      refine meth_at (s1 _ _ hpF) (by decide +kernel) (by decide +kernel) (by decide +kernel) ?_
      walk_at "rd"
      exact ⟨p, dx, l, d, s.keep, x0.1, rfl, s1 _ _ hpF, by omega, hy rfl _ _ (Same.refl _) rfl⟩
    · have em := M.ints
      rw [pickN_all, List.length_map] at em
      have sL := lock_same hd s1
      have npd1 : p1 ≠ d := fun e => by subst e; rw [hdF] at hp1; cases hp1
      refine ⟨s1 _ _ hdF, ?_⟩
      walk_at "rd"
      refine ⟨p1, _, rfl, SqL.of (by rw [upd_ne npd1, h1, em]), ?_⟩
      walk_at "rd"
      have es : (((List.range b3.length).map fun i => ((size s.keep (b3.getD i (0, 0, [])).1 : Nat) : Int)).sum) = (((s.blocks.map fun b => size s.keep b.1).sum : Nat) : Int) := by
        rw [← eb, List.map_map]
        have e1 : (List.range b3.length).map (fun i => ((size s.keep (b3.getD i (0, 0, [])).1 : Nat) : Int)) = b3.map fun x => ((size s.keep x.1 : Nat) : Int) := by
          apply List.ext_getElem?
          intro i
          rw [List.getElem?_map, List.getElem?_map]
          by_cases hi : i < b3.length
          · rw [List.getElem?_range hi, List.getElem?_eq_getElem hi]
            simp only [Option.map_some]
            rw [List.getD_eq_getElem?_getD, List.getElem?_eq_getElem hi]
            rfl
          · rw [List.getElem?_eq_none (by simp; omega), List.getElem?_eq_none (by omega)]
            rfl
        rw [e1]
        clear em e1 M h1 hE hpl bl hd hdF hpF s1 sL hp1 eb
        induction b3 with
        | nil => rfl
        | cons x t ih =>
          rw [List.map_cons, List.sum_cons, ih, List.map_cons, List.sum_cons, Int.natCast_add]
          rfl
      rw [es]
      have ec : (s.loose.length : Int) + (((s.blocks.map fun b => size s.keep b.1).sum : Nat) : Int) = (s.count : Int) := by
        unfold CupM.count
        rw [Int.natCast_add]
      rw [ec]
      exact q.go sL
theorem ok_Cup_off (D : MethAt K C "off" "Cup.off" S_Cup_off ["self"]) (U : CupC K mg C) (m_sum : mg "sum" = none) (c_Cup_count : CalM P w K mg base CX0 3 C "count" ["self"] (sp_Cup_count C)) (c_digits : Cal P w K mg base CX0 1 "digits" ["number"] sp_digits)
    (c_doubled : Cal P w K mg base CX0 1 "doubled" ["number", "times"] sp_doubled) : CalM P w K mg base CX0 4 C "off" ["self"] (sp_Cup_off C) := by
  obtain ⟨f, fd, F, hM, b⟩ := D.ex
  obtain ⟨f_Cup_count, fd_Cup_count, G_Cup_count, h_Cup_count, b_Cup_count⟩ := c_Cup_count
  obtain ⟨f_digits, fd_digits, G_digits, m_digits, k_digits, b_digits⟩ := c_digits
  obtain ⟨f_doubled, fd_doubled, G_doubled, m_doubled, k_doubled, b_doubled⟩ := c_doubled
  refine ⟨f, fd, F.ok sc_Cup_off (fun vs H Q E h => ?_) (fun cdv A outer s H vs Q E hr h => ?_), hM, b⟩
  · obtain ⟨p, d, s, rfl, _⟩ := h
    rfl
  · obtain ⟨p, d, s, rfl, cs, wf, q⟩ := h
    obtain ⟨dx, l, hp, hl, hD⟩ := id cs
    have k1 := wf.k1
    have k64 := wf.k64
    refine ⟨_, (pss_one (ps_ret (pe_callB (cr_sum rfl) rfl m_sum (by decide +kernel) (pa_cons (pe_lc (own := [("place", 1)]) (g := (gName 1)) (tt := tYes) rfl sc_Cup_off.nd (pi_list (pe_call G_digits (hr.mono (by decide)) rfl m_digits k_digits b_digits .nil pass0 (pa_cons (pe_op op_fdiv (pe_meth0 (pv 0) U.cl h_Cup_count G_Cup_count (hr.mono (by decide)) b_Cup_count .nil pass0) (pe_fldK (K := K) rfl (pv 0) rfl)) pa_nil))) (blkOk_by (N := ["self", "place"]) (sc := defScope S_Cup_off) (by decide +kernel)) (fun _ _ _ _ _ => by exact (pg_name (i := 1) sc_Cup_off.nd rfl (Or.inl rfl))) (fun _ _ _ _ _ => by exact pts_nil) (fun _ _ _ _ _ => by exact (pe_op op_fdiv (pe_op op_mul (pv 1) (pe_call G_doubled (hr.mono (by decide)) rfl m_doubled k_doubled b_doubled .nil pass0 (pa_cons pe_int (pa_cons (pv 1) pa_nil)))) pe_int))) pa_nil)))), ?_⟩
    walk_at "rd"
    refine meth_at hp (by decide +kernel) (by decide +kernel) (by decide +kernel) ?_
    walk_at "rd"
    refine ⟨p, d, s, rfl, cs, wf, fun H1 s1 => ?_⟩
    walk_at "rd"
    refine fld_keep U (s1 _ _ hp) ?_
    walk_at "rd"
    rw [← Int.natCast_ediv]
    have hq := wf.quot_lt
    refine ⟨_, rfl, hq, fun p1 H2 hp1 s2 h2 => ?_⟩
    unfold offM at q
    have dsl : ∀ k ∈ digitsM (s.count / s.keep), k < 200 := fun k hk => (Nat.pow_lt_pow_iff_right (by decide : 1 < 2)).mp (Nat.lt_of_le_of_lt (digitsM_le hk) hq)
    have dln : (digitsM (s.count / s.keep)).length ≤ 200 := up_len 200 _ 0 (digitsM_up _) fun x hx => ⟨Nat.zero_le x, by have := dsl x hx; omega⟩
    generalize digitsM (s.count / s.keep) = ds at *
    walk_at "rd"
    refine ⟨p1, rfl, ⟨_, SqL.of h2⟩, ?_⟩
    refine lc_gen (walk_list (xs := (ds.map fun (k : Nat) => (k : Int)).map V.int)) (fun _ => true) (fun i v _ => v = .int ((err (ds.getD i 0) : Nat) : Int)) (by rw [List.length_map, List.length_map]; omega) (SqL.of h2) (fun _ _ s h => s.seq h)
      (fun _ _ _ _ _ h => h) (fun _ _ _ _ _ _ _ h => h) (fun i hi H3 s3 _ x H' y => ?_) (fun p2 ys H3 hp2 s3 h3 M => ?_)
    · obtain ⟨rfl, ex⟩ := y
      rw [List.length_map, List.length_map] at hi
      rw [List.getElem?_map, List.getElem?_map, List.getElem?_eq_getElem hi] at ex
      have ex' : x = .int ((ds[i] : Nat) : Int) := (Option.some.inj ex).symm
      subst ex'
      have hdi := dsl ds[i] (List.getElem_mem hi)
      refine ⟨Same.refl _, fun R S hy _ => ?_⟩
      have e0 : ds.getD i 0 = ds[i] := by rw [List.getD_eq_getElem?_getD, List.getElem?_eq_getElem hi]; rfl
      rw [e0] at hy
      generalize ds[i] = pl at *
      walk_at "rd"
      refine ⟨rfl, ?_⟩
      walk_at "rd"
      refine ⟨1, pl, rfl, by omega, ?_⟩
      walk_at "rd"
      refine hy rfl _ _ (Same.refl _) ?_
      rw [Int.one_mul]
      show V.int ((pl : Int) * ((2 ^ pl : Nat) : Int) / 2) = _
      rw [← Int.natCast_mul]
      rfl
    · have em := M.ints
      rw [pickN_all, List.length_map, List.length_map] at em
      walk_at "rd"
      refine ⟨p2, _, rfl, SqL.of (by rw [h3, em]), ?_⟩
      have es : ((List.range ds.length).map fun i => ((err (ds.getD i 0) : Nat) : Int)).sum = (((ds.map err).sum : Nat) : Int) := by
        have e1 : (List.range ds.length).map (fun i => ((err (ds.getD i 0) : Nat) : Int)) = ds.map fun x => ((err x : Nat) : Int) := by
          apply List.ext_getElem?
          intro i
          rw [List.getElem?_map, List.getElem?_map]
          by_cases hi : i < ds.length
          · rw [List.getElem?_range hi, List.getElem?_eq_getElem hi]
            simp only [Option.map_some]
            rw [List.getD_eq_getElem?_getD, List.getElem?_eq_getElem hi]
            rfl
          · rw [List.getElem?_eq_none (by simp; omega), List.getElem?_eq_none (by omega)]
            rfl
        rw [e1]
        clear em e1 M h2 h3 dsl dln q s3 hp2
        induction ds with
        | nil => rfl
        | cons x t ih => rw [List.map_cons, List.sum_cons, ih, List.map_cons, List.sum_cons, Int.natCast_add]
      rw [es]
      exact q.go ((s1.trans s2).trans s3)
theorem ok_Cup_bound (D : MethAt K C "bound" "Cup.bound" S_Cup_bound ["self"]) (U : CupC K mg C) (m_len : mg "len" = none) (c_Cup_count : CalM P w K mg base CX0 3 C "count" ["self"] (sp_Cup_count C)) (c_digits : Cal P w K mg base CX0 1 "digits" ["number"] sp_digits) :
    CalM P w K mg base CX0 4 C "bound" ["self"] (sp_Cup_bound C) := by
  obtain ⟨f, fd, F, hM, b⟩ := D.ex
  obtain ⟨f_Cup_count, fd_Cup_count, G_Cup_count, h_Cup_count, b_Cup_count⟩ := c_Cup_count
  obtain ⟨f_digits, fd_digits, G_digits, m_digits, k_digits, b_digits⟩ := c_digits
  refine ⟨f, fd, F.ok sc_Cup_bound (fun vs H Q E h => ?_) (fun cdv A outer s H vs Q E hr h => ?_), hM, b⟩
  · obtain ⟨p, d, s, rfl, _⟩ := h
    rfl
  · obtain ⟨p, d, s, rfl, cs, wf, q⟩ := h
    obtain ⟨dx, l, hp, hl, hD⟩ := id cs
    have k1 := wf.k1
    have k64 := wf.k64
    refine ⟨_, (pss_one (ps_ret (pe_op op_add (pe_op op_mul (pe_fldK (K := K) rfl (pv 0) rfl) (pe_callB call_len_seq rfl m_len (by decide +kernel) (pa_cons (pe_call G_digits (hr.mono (by decide)) rfl m_digits k_digits b_digits .nil pass0 (pa_cons (pe_op op_fdiv (pe_meth0 (pv 0) U.cl h_Cup_count G_Cup_count (hr.mono (by decide)) b_Cup_count .nil pass0) (pe_fldK (K := K) rfl (pv 0) rfl)) pa_nil)) pa_nil))) (pe_op op_mod (pe_meth0 (pv 0) U.cl h_Cup_count G_Cup_count (hr.mono (by decide)) b_Cup_count .nil pass0) (pe_fldK (K := K) rfl (pv 0) rfl))))), ?_⟩
    walk_at "rd"
    refine fld_keep U hp ?_
    walk_at "rd"
    refine meth_at hp (by decide +kernel) (by decide +kernel) (by decide +kernel) ?_
    walk_at "rd"
    refine ⟨p, d, s, rfl, cs, wf, fun H1 s1 => ?_⟩
    walk_at "rd"
    refine fld_keep U (s1 _ _ hp) ?_
    walk_at "rd"
    rw [← Int.natCast_ediv]
    refine ⟨_, rfl, wf.quot_lt, fun p1 H2 hp1 s2 h2 => ?_⟩
    refine ⟨p1, _, rfl, .inl (SqL.of h2), ?_⟩
    rw [List.length_map, List.length_map]
    walk_at "rd"
    refine meth_at (s2 _ _ (s1 _ _ hp)) (by decide +kernel) (by decide +kernel) (by decide +kernel) ?_
    walk_at "rd"
    refine ⟨p, d, s, rfl, cs.same (s1.trans s2), wf, fun H3 s3 => ?_⟩
    walk_at "rd"
    refine fld_keep U (s3 _ _ (s2 _ _ (s1 _ _ hp))) ?_
    walk_at "rd"
    rw [← Int.natCast_emod, ← Int.natCast_mul, ← Int.natCast_add]
    exact q.go ((s1.trans s2).trans s3)
theorem ok_Cup_kept (D : MethAt K C "kept" "Cup.kept" S_Cup_kept ["self"]) (U : CupC K mg C) (m_len : mg "len" = none) (m_sorted : mg "sorted" = none) (c_Cup_size : CalM P w K mg base CX0 2 C "size" ["self", "place"] (sp_Cup_size C)) (c_exact : Cal P w K mg base CX0 1 "exact" ["row"] sp_exact)
    (c_joined : Cal P w K mg base CX0 4 "joined" ["ones", "many", "others", "more"] sp_joined) : CalM P w K mg base CX0 5 C "kept" ["self"] (sp_Cup_kept C) := by
  obtain ⟨f, fd, F, hM, b⟩ := D.ex
  obtain ⟨f_Cup_size, fd_Cup_size, G_Cup_size, h_Cup_size, b_Cup_size⟩ := c_Cup_size
  obtain ⟨f_exact, fd_exact, G_exact, m_exact, k_exact, b_exact⟩ := c_exact
  obtain ⟨f_joined, fd_joined, G_joined, m_joined, k_joined, b_joined⟩ := c_joined
  refine ⟨f, fd, F.ok sc_Cup_kept (fun vs H Q E h => ?_) (fun cdv A outer s H vs Q E hr h => ?_), hM, b⟩
  · obtain ⟨p, d, s, rfl, _⟩ := h
    rfl
  · obtain ⟨p, d, s, rfl, cs, wf, q⟩ := h
    obtain ⟨dx, l, hp, hl, b3, hd, eb, hE⟩ := id cs
    have k1 := wf.k1
    have k64 := wf.k64
    have ll := wf.ll
    refine ⟨_, (pss_cons (ps_set (i := 1) sc_Cup_kept.nd rfl (Or.inl rfl) (pe_lst pa_nil))
      (pss_cons (ps_set (i := 2) sc_Cup_kept.nd rfl (Or.inl rfl) pe_int)
      (pss_cons (ps_for PassesOwn.never rfl (pi_list (pe_callB (call_sortedDI rfl) rfl m_sorted (by decide +kernel) (pa_cons (pe_fldK (K := K) rfl (pv 0) rfl) pa_nil))) (pg_name (i := 3) sc_Cup_kept.nd rfl (Or.inl rfl)) (pss_cons (ps_set (i := 1) sc_Cup_kept.nd rfl (Or.inl rfl) (pe_call G_joined (hr.mono (by decide)) rfl m_joined k_joined b_joined .nil pass0 (pa_cons (pv 1) (pa_cons (pv 2) (pa_cons (pe_dget (hu_of hr) (pe_fldK (K := K) rfl (pv 0) rfl) (pv 3) (fun _ _ => rfl)) (pa_cons (pe_meth (pv 0) U.cl h_Cup_size G_Cup_size (hr.mono (by decide)) b_Cup_size .nil pass0 (pa_cons (pv 3) pa_nil)) pa_nil))))))
      (pss_one (ps_set (i := 2) sc_Cup_kept.nd rfl (Or.inl rfl) (pe_op op_add (pv 2) (pe_meth (pv 0) U.cl h_Cup_size G_Cup_size (hr.mono (by decide)) b_Cup_size .nil pass0 (pa_cons (pv 3) pa_nil)))))))
      (pss_one (ps_ret (pe_call G_joined (hr.mono (by decide)) rfl m_joined k_joined b_joined .nil pass0 (pa_cons (pv 1) (pa_cons (pv 2) (pa_cons (pe_call G_exact (hr.mono (by decide)) rfl m_exact k_exact b_exact .nil pass0 (pa_cons (pe_fldK (K := K) rfl (pv 0) rfl) pa_nil)) (pa_cons (pe_callB call_len_seq rfl m_len (by decide +kernel) (pa_cons (pe_fldK (K := K) rfl (pv 0) rfl) pa_nil)) pa_nil)))))))))), ?_⟩
    have bl : b3.length ≤ 63 := by have := wf.bl; rw [← eb, List.length_map] at this; exact this
    have sl : (sort3 b3).length = b3.length := List.length_mergeSort ..
    have nd3 : (b3.map fun x => x.1).Nodup := by
      have := wf.nd
      rw [← eb, List.map_map] at this
      exact this
    walk_at "rd"
    refine ⟨by show 0 ≤ sizeLine; decide, fun p0 hp0 => ?_⟩
    have s0 : Same H (upd H p0 (.lst [])) := Same.new hp0
    have h0 : Ents (upd H p0 (.lst [])) p0 [] := ⟨[], upd_same, EntsV.nil⟩
    generalize upd H p0 (.lst []) = H0 at *
    walk_at "rd"
    refine fld_blocks U (s0 _ _ hp) ?_
    have hkeys : (b3.map kvB).map (·.1) = (b3.map fun x => (x.1 : Int)).map Sum.inl := by rw [List.map_map, List.map_map]; rfl
    refine ⟨d, _, _, rfl, .inl (s0 _ _ hd), hkeys, by rw [List.length_map]; omega, fun ys p2 hy1 hy2 hp2 => ?_⟩
    have ey : ys = (sort3 b3).map fun x => (x.1 : Int) := by rw [sort3_keys]; exact srt_of hy1 hy2
    subst ey
    have s2 : Same H0 (upd H0 p2 (.lst (((sort3 b3).map fun x => (x.1 : Int)).map V.int))) := Same.new hp2
    have h2 : (upd H0 p2 (.lst (((sort3 b3).map fun x => (x.1 : Int)).map V.int))) p2 = some (.lst (((sort3 b3).map fun x => (x.1 : Int)).map V.int)) := upd_same
    generalize upd H0 p2 (.lst (((sort3 b3).map fun x => (x.1 : Int)).map V.int)) = H2 at *
    have s02 := s0.trans s2
    walk_at "rd"
    refine ⟨p2, rfl, ⟨_, SqL.of h2⟩, ?_⟩
    have ekept : s.kept = joinM ((sort3 b3).map toB |>.foldl (keptF s.keep) ([], 0)).1 (((sort3 b3).map toB |>.foldl (keptF s.keep) ([], 0)).2 : Int) (exactM s.loose) (s.loose.length : Int) := by
      unfold CupM.kept
      rw [sort3_toB, eb]
    have wb3 : WB s.keep ((sort3 b3).map toB) := by rw [sort3_toB, eb]; exact wf.wb.sort
    have key : ∀ i, i ≤ b3.length → Srtd ((((sort3 b3).take i).map toB).foldl (keptF s.keep) ([], 0)).1 ∧ ((((sort3 b3).take i).map toB).foldl (keptF s.keep) ([], 0)).1.length = s.keep * i := by
      intro i
      induction i with
      | zero => intro _; exact ⟨List.Pairwise.nil, rfl⟩
      | succ i ih =>
        intro hi
        have hi' : i < (sort3 b3).length := by omega
        obtain ⟨g1, g2⟩ := ih (by omega)
        rw [List.take_succ_eq_append_getElem hi', List.map_append, List.foldl_append]
        refine ⟨joinM_sorted _ _ _ _, ?_⟩
        show (joinM _ _ _ _).length = _
        rw [joinM_length, g2, (wb3 (toB (sort3 b3)[i]) (List.mem_map.mpr ⟨_, List.getElem_mem hi', rfl⟩)).2, Nat.mul_succ]
    refine for_go (walk_list (xs := ((sort3 b3).map fun x => (x.1 : Int)).map V.int)) (fun i σ H' => Same H2 H' ∧ ∃ (a : Addr) (v3 : Option V), Ents H' a ((((sort3 b3).take i).map toB).foldl (keptF s.keep) ([], 0)).1 ∧ σ = [some (.ref p), some (.ref a), some (.int ((((((sort3 b3).take i).map toB).foldl (keptF s.keep) ([], 0)).2 : Nat) : Int)), v3])
      ⟨Same.refl _, p0, none, h0.same s2, rfl⟩ (fun i σ H' _ z => SqL.of (z.1 _ _ h2)) (fun i x σ H5 H6 hi z y => ?_) (fun σ H5 z => ?_)
    · obtain ⟨s5, a, v3, Ea, rfl⟩ := z
      obtain ⟨rfl, ex⟩ := y
      rw [List.length_map, List.length_map] at hi
      rw [List.getElem?_map, List.getElem?_map, List.getElem?_eq_getElem hi] at ex
      have ex' : x = .int (((sort3 b3)[i].1 : Nat) : Int) := (Option.some.inj ex).symm
      subst ex'
      have hm : (sort3 b3)[i] ∈ b3 := sort3_mem.mp (List.getElem_mem hi)
      have hf := find3 nd3 hm
      have hw := wb3 (toB (sort3 b3)[i]) (List.mem_map.mpr ⟨_, List.getElem_mem hi, rfl⟩)
      have hpl := wf.pl (toB (sort3 b3)[i]) (by rw [← eb]; exact List.mem_map.mpr ⟨_, hm, rfl⟩)
      obtain ⟨g1, g2⟩ := key i (by omega)
      have hfold : (((sort3 b3).take (i + 1)).map toB).foldl (keptF s.keep) ([], 0) = keptF s.keep ((((sort3 b3).take i).map toB).foldl (keptF s.keep) ([], 0)) (toB (sort3 b3)[i]) := by rw [List.take_succ_eq_append_getElem hi, List.map_append, List.foldl_append]; rfl
      rw [hfold]
      have hEx := (hE _ hm).same (s02.trans s5)
      have hgl : s.keep * i ≤ 64 * 63 := Nat.mul_le_mul k64 (by omega)
      generalize ((((sort3 b3).take i).map toB).foldl (keptF s.keep) ([], 0)) = X at *
      generalize (sort3 b3)[i] = x0 at *
      have hp5 := s5 _ _ (s02 _ _ hp)
      have hd5 := s5 _ _ (s02 _ _ hd)
      have hpl' : x0.1 ≤ 63 := hpl
      have hw1 : Srtd x0.2.2 := hw.1
      have hw2 : x0.2.2.length = s.keep := hw.2
      walk_at "rd"
      refine fld_blocks U hp5 ?_
      walk_at "rd"
      refine ⟨d, .ref x0.2.1, rfl, ?_, ?_⟩
      · have g := DGet.k (k := Sum.inl (x0.1 : Int)) hd5
        rw [find_kv, hf] at g
        exact g
      walk_at "rd"
      refine meth_at hp5 (by decide +kernel) (by decide +kernel) (by decide +kernel) ?_
      walk_at "rd"
      refine ⟨p, dx, l, d, s.keep, x0.1, rfl, hp5, by omega, ?_⟩
      refine ⟨a, x0.2.1, X.1, x0.2.2, _, _, rfl, Ea, hEx, g1, hw1, by omega, by omega, fun q1 H7 _ s7 E7 => ?_⟩
      walk_at "rd"
      refine meth_at (s7 _ _ hp5) (by decide +kernel) (by decide +kernel) (by decide +kernel) ?_
      walk_at "rd"
      refine ⟨p, dx, l, d, s.keep, x0.1, rfl, s7 _ _ hp5, by omega, ?_⟩
      walk_at "rd"
      refine ⟨s5.trans s7, q1, some (V.int ((x0.1 : Nat) : Int)), E7, ?_⟩
      show _ = [some (V.ref p), some (V.ref q1), some (V.int ((X.2 + size s.keep x0.1 : Nat) : Int)), some (V.int ((x0.1 : Nat) : Int))]
      rw [Int.natCast_add]
      rfl
    · obtain ⟨s5, a, v3, Ea, rfl⟩ := z
      rw [List.length_map, List.length_map, List.take_length] at Ea ⊢
      have e0 : (sort3 b3).length = b3.length := sl
      obtain ⟨g1, g2⟩ := key b3.length (Nat.le_refl _)
      rw [← sl, List.take_length] at g1 g2
      have hgl : s.keep * (sort3 b3).length ≤ 64 * 63 := Nat.mul_le_mul k64 (by omega)
      rw [ekept] at q
      generalize (((sort3 b3).map toB).foldl (keptF s.keep) ([], 0)) = X at *
      have s25 := s02.trans s5
      have hp5 := s25 _ _ hp
      walk_at "rd"
      refine fld_loose U hp5 ?_
      refine ⟨l, s.loose, rfl, s25 _ _ hl, by omega, fun p6 H6 hp6 s6 E6 => ?_⟩
      walk_at "rd"
      refine fld_loose U (s6 _ _ hp5) ?_
      refine ⟨l, _, rfl, .inl (SqL.of (s6 _ _ (s25 _ _ hl))), ?_⟩
      rw [List.length_map]
      refine ⟨a, p6, X.1, exactM s.loose, _, _, rfl, Ea.same s6, E6, g1, exactM_sorted _, by omega, by rw [exactM_length]; omega, fun p7 H7 hp7 s7 E7 => ?_⟩
      exact q.go (s25.trans s6) hp7 s7 E7
end
end RB

namespace RB
open PySem PySem.Spec PyProof.Rows L2
/-- what a new cup's making asks -/
theorem mk_cup {K : PySem.W.Frag} {C CK x dx : Addr} {H : Hp} {Q : Hp → Prop} {E : XK} {k : Nat} (hx : H x = none) (hdx : H dx = none) (ne : dx ≠ x) (k1 : 1 ≤ k) (k2 : k ≤ 64)
    (q : ∀ d H', CupAt C H' x d (CupM.new k) → H d = none → Same H H' → (∀ b, Own H' x d b → H b = none) → Q H') : sp_Cup_init K C CK (V.ref x :: ([.int (k : Int)] ++ [])) (upd (upd H dx (.own x)) x (.ins C dx [])) (fun v H2 => v = .non ∧ Q H2) E := by
  refine ⟨x, dx, _, rfl, upd_same, .inl ⟨k, rfl, k1, k2, fun d H' c hd hk ho => ⟨rfl, q d H' c (upd_none (upd_none hd)) (fun b o hb => ?_) fun b hb => upd_none (upd_none (ho b hb))⟩⟩⟩
  have n1 : b ≠ x := ne_of_none hb hx
  exact hk b o (by rw [upd_ne n1, upd_ne (ne_of_none hb hdx)]; exact hb) n1
end RB
namespace RB
open PySem PySem.Spec PyProof.Rows L2
/-- the class can be made, whatever its __init__ -/
structure MkC (K : PySem.W.Frag) (C : Addr) : Prop where
  makes : PySem.W.makesIn K C = true
  kp : PySem.W.keepIn K (.ref C) = true
theorem MkC.by_ {K : PySem.W.Frag} {C f : Addr} (h : MkC K C) (m : Meth K C "__init__" f) : Mk K C f := ⟨h.makes, m.at_, m.fn, h.kp⟩
end RB
namespace RB
open PySem PySem.Spec PyProof.Rows L2
theorem meth_mk {K : PySem.W.Frag} {C : Addr} {m qual : Str} {st : Stmt} {ps : List Str} {f : Addr} {oc : Value} {od an : Option Addr} {sl : Array (Option Value)} {kV dc pm cd ct : Value} (a : PySem.W.findIn K (.ref C) m = some (some (.ref f))) (i : PySem.W.isFn K (.ref f) = true)
    (l : K.lookup f = some ⟨oc, od, .func (PySem.W.fnOf m qual (defArgs st) (defBody st) (defScope st) .none kV dc pm an cd ct), sl⟩) (c : PySem.W.codeIn K cd qual = true) (k : PySem.W.keepIn K (.ref f) = true)
    (hb : ∀ (kV doc pm : Value) (an : Option Addr) (cdv ct : Value) (us : List Value), us.length = ps.length → bindArgs (PySem.W.fnOf m qual (defArgs st) (defBody st) (defScope st) .none kV doc pm an cdv ct) ⟨us, []⟩ = pure (ps.zip us)) : MethAt K C m qual st ps :=
  ⟨f, _, fun_mk (st := st) l c k, ⟨a, i, k⟩, (fun_mk (st := st) l c k).binds hb⟩
theorem cup_mk {K : PySem.W.Frag} {h : Heap} {mg : Str → Option Value} {C : Addr} (X : K.In h) (G : h.Ns mainGlobals mg) (a : PySem.W.nsIn K mainGlobals "Cup" = some (some (.ref C))) (pg : PySem.W.plainGet K C Str.empty = true) (hd : PySem.W.hasDictIn K C = true) (po : PySem.W.plainOver K C = true)
    (sa : PySem.W.findIn K (.ref C) "__setattr__" = some (some (.builtin "object.__setattr__"))) (nk : PySem.W.findIn K (.ref C) "keep" = some none) (nl : PySem.W.findIn K (.ref C) "loose" = some none) (nb : PySem.W.findIn K (.ref C) "blocks" = some none) : CupC K mg C :=
  ⟨⟨pg, hd, po, sa⟩, nk, nl, nb, PySem.W.mg_of X G a⟩
theorem exc_mk {K : PySem.W.Frag} {h : Heap} {mg : Str → Option Value} {x : Str} {C : Addr} (X : K.In h) (G : h.Ns mainGlobals mg) (a : PySem.W.nsIn K mainGlobals x = some (some (.ref C))) (e : PySem.W.excIn K C [.type "ValueError", .type "Exception", .type "BaseException", .type "object"] "ValueError.__new__" = true)
    (k : PySem.W.keepIn K (.ref C) = true) (b : PySem.W.subIn K (.ref C) (.type "BaseException") = some true) (t : PySem.W.typeIn K (.ref C) = some (.type "type")) : ExcC K mg x C := ⟨PySem.W.mg_of X G a, e, k, b, t⟩
theorem glob_ns {K : PySem.W.Frag} {h : Heap} {mg : Str → Option Value} {x : Str} {n : Int} {t : Tok} (X : K.In h) (G : h.Ns mainGlobals mg) (a : PySem.W.nsIn K mainGlobals x = some (some (.int n t))) : GlobI mg x n := ⟨t, PySem.W.mg_of X G a⟩
end RB

namespace RB
open PySem PySem.Spec PyProof.Rows L2
/-! ### nearest, ahead_in, answer, ahead -/
theorem max_if (i j : Int) : (if i < j then j else i) = max i j := by
  split <;> omega
def RetP (x y : Int) (H : Hp) (Q : VK) : Prop := ∀ t H', H t = none → Same H H' → H' t = some (.tup [.int x, .int y]) → Q (.ref t) H'
def sp_nearest : Sp := fun vs H Q _ => ∃ (a : Addr) (es : List E) (p : Int), vs = [.ref a, .int p] ∧ Ents H a es ∧ es ≠ [] ∧ Q (.int (nearestE es p).1) H
def sp_ahead_in : Sp := fun vs H Q _ => ∃ (a : Addr) (es : List E) (many r : Int), vs = [.ref a, .int many, .int r] ∧ Ents H a es ∧ Srtd es ∧ RetP (leastOf es (upTo es (r - 1))) (mostOf es (upTo es (r - 1)) many) H Q
def sp_Cup_answer (K : PySem.W.Frag) (C CP : Addr) : Sp := fun vs H Q E => ∃ (p d : Addr) (x : V) (s : CupM) (R : Row), vs = [.ref p, x] ∧ CupAt C H p d s ∧ Good s R ∧ s.count < 2 ^ 63 ∧
  ((∃ n : Nat, x = .int (n : Int) ∧ n < s.count ∧ RetV (.int (nearestE s.kept (n : Int)).1) H Q) ∨
   (((∃ n : Int, x = .int n ∧ ¬ (0 ≤ n ∧ n ≤ (s.count : Int) - 1)) ∨ OddV K H x) ∧ ∀ H', Same H H' → E (.ref CP) none H'))
def sp_Cup_ahead (K : PySem.W.Frag) (C CB : Addr) : Sp := fun vs H Q E => ∃ (p d : Addr) (x : V) (s : CupM) (R : Row), vs = [.ref p, x] ∧ CupAt C H p d s ∧ Good s R ∧ s.count < 2 ^ 63 ∧
  ((∃ r : Int, x = .int r ∧ InR r ∧ RetP (leastOf s.kept (upTo s.kept (r - 1))) (mostOf s.kept (upTo s.kept (r - 1)) (s.count : Int)) H Q) ∨ (BadR K H x ∧ E (.ref CB) none H))
theorem Good.kept_ne {s : CupM} {R : Row} (g : Good s R) (h : 0 < s.count) : s.kept ≠ [] := by
  obtain ⟨ws, _, hl⟩ := g.kept
  intro e
  rw [e] at hl
  have hl' : s.keep * (digitsM (s.count / s.keep)).length + s.count % s.keep = 0 := hl.symm
  obtain ⟨h1, h2⟩ := Nat.add_eq_zero_iff.mp hl'
  have k1 := g.k1
  rcases Nat.mul_eq_zero.mp h1 with h1 | h1
  · omega
  · have h3 := digitsM_sum (s.count / s.keep)
    rw [List.length_eq_zero_iff.mp h1] at h3
    have h4 : s.count / s.keep = 0 := h3.symm
    have h5 := Nat.div_add_mod s.count s.keep
    rw [h4, h2] at h5
    omega
theorem Good.kept_srt {s : CupM} {R : Row} (g : Good s R) : Srtd s.kept := by
  obtain ⟨ws, h, _⟩ := g.kept
  exact h.srt
abbrev S_nearest : Stmt := top 27
theorem sc_nearest : FnScope ["entries", "place", "best", "entry"] ["entries", "place"] (defScope S_nearest) := ⟨rfl, rfl, rfl, by decide +kernel, rfl, by decide +kernel, by decide +kernel⟩
abbrev S_Cup_answer : Stmt := inClass (top 26) 11
theorem sc_Cup_answer : FnScope ["self", "place"] ["self", "place"] (defScope S_Cup_answer) := ⟨rfl, rfl, rfl, by decide +kernel, rfl, by decide +kernel, by decide +kernel⟩
section
variable {P : Program} {w : World} {K : PySem.W.Frag} {mg : Str → Option Value} {base : Heap} {C C_NoPlace C_BadReading : Addr}
theorem ok_nearest (D : DefAt K mg "nearest" S_nearest ["entries", "place"]) (m_max : mg "max" = none) : Cal P w K mg base CX0 1 "nearest" ["entries", "place"] sp_nearest := by
  obtain ⟨f, fd, F, m, b⟩ := D.ex
  refine ⟨f, fd, F.ok sc_nearest (fun vs H Q E h => ?_) (fun cdv A outer s H vs Q E hr h => ?_), m, F.kp, b⟩
  · obtain ⟨a, es, p, rfl, _⟩ := h
    rfl
  · obtain ⟨a, es, p, rfl, hE, hne, q⟩ := h
    obtain ⟨xs, hx, hv⟩ := id hE
    refine ⟨_, (pss_cons (ps_set (i := 2) sc_nearest.nd rfl (Or.inl rfl) (pe_ix (ixL (K := K) rfl) (pv 0) pe_int (fun _ _ => rfl)))
      (pss_cons (ps_for PassesOwn.never rfl (pi_list (pv 0)) (pg_name (i := 3) sc_nearest.nd rfl (Or.inl rfl)) (pss_one (ps_if (pt_cmpR op_lt (pe_callB (call_max2 rfl) rfl m_max (by decide +kernel) (pa_cons (pe_op op_sub (pv 1) (pe_ix (ixT (K := K) rfl) (pv 3) pe_int (fun _ _ => rfl))) (pa_cons (pe_op op_sub (pe_ix (ixT (K := K) rfl) (pv 3) pe_int (fun _ _ => rfl)) (pv 1)) pa_nil))) (pe_callB (call_max2 rfl) rfl m_max (by decide +kernel) (pa_cons (pe_op op_sub (pv 1) (pe_ix (ixT (K := K) rfl) (pv 2) pe_int (fun _ _ => rfl))) (pa_cons (pe_op op_sub (pe_ix (ixT (K := K) rfl) (pv 2) pe_int (fun _ _ => rfl)) (pv 1)) pa_nil))) (nomark _)) (pss_one (ps_set (i := 2) sc_nearest.nd rfl (Or.inl rfl) (pv 3))) pss_nil)))
      (pss_one (ps_ret (pe_ix (ixT (K := K) rfl) (pv 2) pe_int (fun _ _ => rfl)))))), ?_⟩
    walk_at "rd"
    have h0 : es[0]? = some (es.headD (0, 0, 0)) := by
      cases es with
      | nil => exact absurd rfl hne
      | cons e t => rfl
    obtain ⟨t0, e0, ht0⟩ := hv.2 0 _ h0
    refine lst_at (j := 0) hx e0 ?_
    walk_at "rd"
    refine ⟨a, rfl, ⟨_, SqL.of hx⟩, ?_⟩
    refine for_go (walk_list (xs := xs)) (fun i σ H' => H' = H ∧ ∃ (t : Addr) (v3 : Option V), H t = some (tri ((es.take i).foldl (nearF p) (es.headD (0, 0, 0)))) ∧ σ = [some (.ref a), some (.int p), some (.ref t), v3])
      ⟨rfl, t0, none, ht0, rfl⟩ (fun i σ H' _ z => by rw [z.1]; exact SqL.of hx) (fun i x σ H1 H2 hi z y => ?_) (fun σ H1 z => ?_)
    · obtain ⟨rfl, t, v3, ht, rfl⟩ := z
      obtain ⟨rfl, ex⟩ := y
      have hi' : i < es.length := by rw [← hv.1]; exact hi
      obtain ⟨t1, e1, ht1⟩ := hv.2 i es[i] (List.getElem?_eq_getElem hi')
      rw [ex] at e1
      cases e1
      have hfold : (es.take (i + 1)).foldl (nearF p) (es.headD (0, 0, 0)) = nearF p ((es.take i).foldl (nearF p) (es.headD (0, 0, 0))) es[i] := by rw [List.take_succ_eq_append_getElem hi', List.foldl_append]; rfl
      rw [hfold]
      generalize (es.take i).foldl (nearF p) (es.headD (0, 0, 0)) = B at *
      generalize es[i] = e at *
      walk_at "rd"
      refine tup_at (j := 1) ht1 rfl ?_
      walk_at "rd"
      refine tup_at (j := 2) ht1 rfl ?_
      walk_at "rd"
      refine ⟨_, _, rfl, ?_⟩
      walk_at "rd"
      refine tup_at (j := 1) ht rfl ?_
      walk_at "rd"
      refine tup_at (j := 2) ht rfl ?_
      walk_at "rd"
      refine ⟨_, _, rfl, ?_⟩
      rw [max_if, max_if]
      walk_at "rd"
      refine if_d (fun c => ?_) (fun c => ?_)
      · walk_at "rd"
        refine ⟨rfl, t1, _, ?_, rfl⟩
        have : nearF p B e = e := if_pos c
        rw [this]
        exact ht1
      · walk_at "rd"
        refine ⟨rfl, t, _, ?_, rfl⟩
        have : nearF p B e = B := if_neg c
        rw [this]
        exact ht
    · obtain ⟨rfl, t, v3, ht, rfl⟩ := z
      rw [hv.1, List.take_length] at ht
      walk_at "rd"
      exact tup_at (j := 0) ht rfl q
theorem ok_Cup_answer (D : MethAt K C "answer" "Cup.answer" S_Cup_answer ["self", "place"]) (x_NoPlace : ExcC K mg "NoPlace" C_NoPlace) (U : CupC K mg C) (c_is_whole : Cal P w K mg base CX0 1 "is_whole" ["thing", "least", "most"] (sp_is_whole K))
    (c_Cup_count : CalM P w K mg base CX0 3 C "count" ["self"] (sp_Cup_count C)) (c_Cup_kept : CalM P w K mg base CX0 5 C "kept" ["self"] (sp_Cup_kept C)) (c_nearest : Cal P w K mg base CX0 1 "nearest" ["entries", "place"] sp_nearest) :
    CalM P w K mg base (L2.CX P w) 6 C "answer" ["self", "place"] (sp_Cup_answer K C C_NoPlace) := by
  obtain ⟨f, fd, F, hM, b⟩ := D.ex
  obtain ⟨f_is_whole, fd_is_whole, G_is_whole, m_is_whole, k_is_whole, b_is_whole⟩ := c_is_whole
  obtain ⟨f_Cup_count, fd_Cup_count, G_Cup_count, h_Cup_count, b_Cup_count⟩ := c_Cup_count
  obtain ⟨f_Cup_kept, fd_Cup_kept, G_Cup_kept, h_Cup_kept, b_Cup_kept⟩ := c_Cup_kept
  obtain ⟨f_nearest, fd_nearest, G_nearest, m_nearest, k_nearest, b_nearest⟩ := c_nearest
  refine ⟨f, fd, F.okX sc_Cup_answer (fun vs H Q E h => ?_) (fun cdv A outer s H vs Q E hr h => ?_), hM, b⟩
  · obtain ⟨p, d, x, s, R, rfl, _⟩ := h
    rfl
  · obtain ⟨p, d, x, s, R, rfl, cs, g, hc, q⟩ := h
    obtain ⟨dx, l, hp, _⟩ := id cs
    have wf := g.wf hc
    refine ⟨_, (pss_cons (ps_if (pt_not (pt_val (pe_call G_is_whole (hr.mono (by decide)) rfl m_is_whole k_is_whole b_is_whole .nil pass0 (pa_cons (pv 1) (pa_cons pe_int (pa_cons (pe_op op_sub (pe_meth0 (pv 0) U.cl h_Cup_count G_Cup_count (hr.mono (by decide)) b_Cup_count .nil pass0) pe_int) pa_nil)))))) (pss_one (ps_raise rfl (takes_of rfl rfl rfl rfl) (pmk_own PySem.F.excBase_ValueError x_NoPlace.x x_NoPlace.g x_NoPlace.k (raises_own x_NoPlace.b x_NoPlace.t) rfl))) pss_nil)
      (PSs.nox (pss_one (ps_ret (pe_call G_nearest (hr.mono (by decide)) rfl m_nearest k_nearest b_nearest .nil pass0 (pa_cons (pe_meth0 (pv 0) U.cl h_Cup_kept G_Cup_kept (hr.mono (by decide)) b_Cup_kept .nil pass0) (pa_cons (pv 1) pa_nil))))))), ?_⟩
    walk_at "rd"
    refine meth_at hp (by decide +kernel) (by decide +kernel) (by decide +kernel) ?_
    walk_at "rd"
    refine ⟨p, d, s, rfl, cs, wf, fun H1 s1 => ?_⟩
    walk_at "rd"
    refine ⟨x, _, _, rfl, ?_⟩
    rcases q with ⟨n, rfl, hn, q⟩ | ⟨⟨n, rfl, hn⟩ | ho, q⟩
    · refine .inl ⟨_, rfl, ?_⟩
      rw [decide_eq_true (show (0 : Int) ≤ (n : Int) ∧ (n : Int) ≤ (s.count : Int) - 1 by omega)]
      walk_at "rd"
      refine meth_at (s1 _ _ hp) (by decide +kernel) (by decide +kernel) (by decide +kernel) ?_
      walk_at "rd"
      refine ⟨p, d, s, rfl, cs.same s1, wf, fun pk H3 hpk s3 E3 => ?_⟩
      walk_at "rd"
      exact ⟨pk, s.kept, n, rfl, E3, g.kept_ne (by omega), q.go (s1.trans s3)⟩
    · refine .inl ⟨n, rfl, ?_⟩
      rw [decide_eq_false hn]
      walk_at "rd"
      exact q _ s1
    · refine .inr ⟨ho.same s1, ?_⟩
      walk_at "rd"
      exact q _ s1
end
end RB

namespace RB
open PySem PySem.Spec PyProof.Rows L2
abbrev S_l_cell : Stmt := top 29
theorem sc_l_cell : FnScope ["_law_script", "_law_k"] ["_law_script", "_law_k"] (defScope S_l_cell) := ⟨rfl, rfl, rfl, by decide +kernel, rfl, by decide +kernel, by decide +kernel⟩
abbrev S_l_mixed : Stmt := top 30
theorem sc_l_mixed : FnScope ["_law_cell_here", "_law_k", "_law_number"] ["_law_cell_here", "_law_k"] (defScope S_l_mixed) := ⟨rfl, rfl, rfl, by decide +kernel, rfl, by decide +kernel, by decide +kernel⟩
abbrev S_l_reading : Stmt := top 31
theorem sc_l_reading : FnScope ["_law_cell_here", "_law_number"] ["_law_cell_here"] (defScope S_l_reading) := ⟨rfl, rfl, rfl, by decide +kernel, rfl, by decide +kernel, by decide +kernel⟩
section
variable {P : Program} {w : World} {K : PySem.W.Frag} {mg : Str → Option Value} {base : Heap}
theorem ok_l_cell (D : DefAt K mg "_law_cell" S_l_cell ["_law_script", "_law_k"]) (m_len : mg "len" = none) : Cal P w K mg base CX0 1 "_law_cell" ["_law_script", "_law_k"] (sp_l_cell K) := by
  obtain ⟨f, fd, F, m, b⟩ := D.ex
  refine ⟨f, fd, F.ok sc_l_cell (fun vs H Q E h => ?_) (fun cdv A outer s H vs Q E hr h => ?_), m, F.kp, b⟩
  · obtain ⟨a, ns, k, rfl, _⟩ := h
    rfl
  · obtain ⟨a, ns, k, rfl, hs, hk, q⟩ := h
    refine ⟨_, (pss_cons (ps_if (pt_cmpR op_lt (pv 1) (pe_callB call_len_seq rfl m_len (by decide +kernel) (pa_cons (pv 0) pa_nil)) (nomark _)) (pss_one (ps_ret (pe_ix (ixL (K := K) rfl) (pv 0) (pv 1) (fun _ _ => rfl)))) pss_nil)
      (pss_one (ps_ret pe_int))), ?_⟩
    walk_at "rd"
    refine ⟨_, _, rfl, Or.inl hs, ?_⟩
    walk_at "rd"
    refine if_d (fun hl => ?_) (fun hl => ?_)
    · walk_at "rd"
      rw [List.length_map] at hl
      refine ⟨a, _, _, _, rfl, rfl, hs, at_of (j := k.toNat) (v := V.int (cellM ns k)) (by omega) ?_, q⟩
      rw [List.getElem?_map, List.getElem?_eq_getElem (by omega : k.toNat < ns.length)]
      unfold cellM
      rw [List.getD_eq_getElem?_getD, List.getElem?_eq_getElem (by omega : k.toNat < ns.length)]
      rfl
    · walk_at "rd"
      rw [List.length_map] at hl
      have e : cellM ns k = 0 := by
        unfold cellM
        rw [List.getD_eq_getElem?_getD, List.getElem?_eq_none (by omega : ns.length ≤ k.toNat)]
        rfl
      rw [e] at q
      exact q
theorem ok_l_mixed (D : DefAt K mg "_law_mixed" S_l_mixed ["_law_cell_here", "_law_k"]) : Cal P w K mg base CX0 1 "_law_mixed" ["_law_cell_here", "_law_k"] sp_l_mixed := by
  obtain ⟨f, fd, F, m, b⟩ := D.ex
  refine ⟨f, fd, F.ok sc_l_mixed (fun vs H Q E h => ?_) (fun cdv A outer s H vs Q E hr h => ?_), m, F.kp, b⟩
  · obtain ⟨c, k, rfl, _⟩ := h
    rfl
  · obtain ⟨c, k, rfl, hk, q⟩ := h
    have h0 : 0 ≤ (c + 7919 * k) * 48271 % 2147483647 := Int.emod_nonneg _ (by decide)
    have h1 : (c + 7919 * k) * 48271 % 2147483647 < 2147483647 := Int.emod_lt_of_pos _ (by decide)
    refine ⟨_, (pss_cons (ps_set (i := 2) sc_l_mixed.nd rfl (Or.inl rfl) (pe_op op_mod (pe_op op_mul (pe_op op_add (pv 0) (pe_op op_mul pe_int (pv 1))) pe_int) pe_int))
      (pss_one (ps_ret (pe_op op_mod (pe_op op_mul (pv 2) (pe_op op_add (pe_op op_add (pv 2) (pe_op op_mul pe_int (pv 1))) pe_int)) pe_int)))), ?_⟩
    walk_at "rd"
    exact q
theorem ok_l_reading (D : DefAt K mg "_law_reading" S_l_reading ["_law_cell_here"]) (c_l_mixed : Cal P w K mg base CX0 1 "_law_mixed" ["_law_cell_here", "_law_k"] sp_l_mixed) : Cal P w K mg base CX0 2 "_law_reading" ["_law_cell_here"] sp_l_reading := by
  obtain ⟨f, fd, F, m, b⟩ := D.ex
  obtain ⟨f_l_mixed, fd_l_mixed, G_l_mixed, m_l_mixed, k_l_mixed, b_l_mixed⟩ := c_l_mixed
  refine ⟨f, fd, F.ok sc_l_reading (fun vs H Q E h => ?_) (fun cdv A outer s H vs Q E hr h => ?_), m, F.kp, b⟩
  · obtain ⟨c, rfl, _⟩ := h
    rfl
  · obtain ⟨c, rfl, q⟩ := h
    refine ⟨_, (pss_cons (ps_set (i := 1) sc_l_reading.nd rfl (Or.inl rfl) (pe_call G_l_mixed (hr.mono (by decide)) rfl m_l_mixed k_l_mixed b_l_mixed .nil pass0 (pa_cons (pv 0) (pa_cons pe_int pa_nil))))
      (pss_cons (ps_if (pt_cmpR op_eq (pe_op op_mod (pv 1) pe_int) pe_int (nomark _)) (pss_one (ps_ret (pe_op op_sub (pe_op op_mod (pe_op op_fdiv (pv 1) pe_int) pe_int) pe_int))) pss_nil)
      (pss_cons (ps_if (pt_cmpR op_eq (pe_op op_mod (pv 1) pe_int) pe_int (nomark _)) (pss_one (ps_ret (pe_op op_sub (pe_op op_mod (pe_op op_fdiv (pv 1) pe_int) pe_int) pe_int))) pss_nil)
      (pss_cons (ps_if (pt_cmpR op_eq (pe_op op_mod (pe_op op_fdiv (pv 1) pe_int) pe_int) pe_int (nomark _)) (pss_one (ps_ret (pe_ix (ixL (K := K) rfl) (pe_lst (pa_cons (pe_op op_pow pe_int pe_int) (pa_cons (pe_un un_neg (pe_op op_pow pe_int pe_int)) pa_nil))) (pe_op op_mod (pe_op op_fdiv (pv 1) pe_int) pe_int) (fun _ _ => rfl)))) pss_nil)
      (pss_one (ps_ret (pe_op op_sub (pe_op op_mod (pe_op op_mul (pv 1) (pv 1)) (pe_op op_add (pe_op op_mul pe_int (pe_op op_pow pe_int pe_int)) pe_int)) (pe_op op_pow pe_int pe_int)))))))), ?_⟩
    have h0 : 0 ≤ mixM c 1 := mixM_lo c 1
    have h1 : mixM c 1 < 2147483629 := mixM_hi c 1
    walk_at "rd"
    refine ⟨c, 1, rfl, by decide, ?_⟩
    unfold readM at q
    generalize mixM c 1 = n at *
    walk_at "rd"
    refine if_d (fun c1 => ?_) (fun c1 => ?_)
    · rw [if_pos c1] at q
      walk_at "rd"
      exact q.go (Same.refl _)
    rw [if_neg c1] at q
    walk_at "rd"
    refine if_d (fun c2 => ?_) (fun c2 => ?_)
    · rw [if_pos c2] at q
      walk_at "rd"
      exact q.go (Same.refl _)
    rw [if_neg c2] at q
    walk_at "rd"
    refine if_d (fun c3 => ?_) (fun c3 => ?_)
    · rw [if_pos c3] at q
      walk_at "rd"
      refine ⟨by show 2 ≤ sizeLine; decide, fun p hp => ?_⟩
      walk_at "rd"
      rcases (by omega : n / 27 % 2 = 0 ∨ n / 27 % 2 = 1) with e | e
      · rw [if_pos e] at q
        exact ⟨p, _, _, _, rfl, rfl, SqL.of upd_same, at_of (j := 0) (by omega) rfl, q.go (Same.new hp)⟩
      · rw [if_neg (by omega)] at q
        exact ⟨p, _, _, _, rfl, rfl, SqL.of upd_same, at_of (j := 1) (by omega) rfl, q.go (Same.new hp)⟩
    · rw [if_neg c3] at q
      walk_at "rd"
      exact q.go (Same.refl _)
end
end RB

namespace RB
open PySem PySem.Spec PyProof.Rows L2
/-! ### how many times, which keep -/
def mostT (g : Bool) : Nat := if g then 1000000000 else 10000
def timesN (n : Int) (g : Bool) : Int := if n % 4 < 2 then 1 else
  match g with
  | false => if n / 4 % 8 = 1 then 1 + n / 32 % 10000 else 1 + n / 4 % 40
  | true => if n % 4 = 2 then 1 + n / 4 % 40 else if n / 4 % 9 = 1 then 1000000000 else if n / 36 % 3 = 0 then 1 + n * n % 1000 else if n / 36 % 3 = 1 then 1 + n * n % 1000000 else 1 + n * n % 1000000000
/-- how many times, by the cell -/
def timesM (c : Int) (g : Bool) : Int := timesN (mixM c 2) g
def sp_l_times : Sp := fun vs H Q _ => ∃ (c : Int) (g : Bool), vs = [.int c, .bl g] ∧ ∀ t : Nat, (t : Int) = timesM c g → 1 ≤ t → t ≤ mostT g → RetV (.int (t : Int)) H Q
def sp_l_keep : Sp := fun vs H Q _ => ∃ c : Int, vs = [.int c] ∧ ∀ k : Nat, 1 ≤ k → k ≤ 64 → Q (.int (k : Int)) H
abbrev S_l_times : Stmt := top 32
theorem sc_l_times : FnScope ["_law_cell_here", "_law_great", "_law_number"] ["_law_cell_here", "_law_great"] (defScope S_l_times) := ⟨rfl, rfl, rfl, by decide +kernel, rfl, by decide +kernel, by decide +kernel⟩
abbrev S_l_keep : Stmt := top 33
theorem sc_l_keep : FnScope ["_law_cell_here"] ["_law_cell_here"] (defScope S_l_keep) := ⟨rfl, rfl, rfl, by decide +kernel, rfl, by decide +kernel, by decide +kernel⟩
section
variable {P : Program} {w : World} {K : PySem.W.Frag} {mg : Str → Option Value} {base : Heap}
theorem ok_l_times (D : DefAt K mg "_law_times" S_l_times ["_law_cell_here", "_law_great"]) (c_l_mixed : Cal P w K mg base CX0 1 "_law_mixed" ["_law_cell_here", "_law_k"] sp_l_mixed) : Cal P w K mg base CX0 2 "_law_times" ["_law_cell_here", "_law_great"] sp_l_times := by
  obtain ⟨f, fd, F, m, b⟩ := D.ex
  obtain ⟨f_l_mixed, fd_l_mixed, G_l_mixed, m_l_mixed, k_l_mixed, b_l_mixed⟩ := c_l_mixed
  refine ⟨f, fd, F.ok sc_l_times (fun vs H Q E h => ?_) (fun cdv A outer s H vs Q E hr h => ?_), m, F.kp, b⟩
  · obtain ⟨c, g, rfl, _⟩ := h
    rfl
  · obtain ⟨c, g, rfl, q⟩ := h
    have go : ∀ (x : Int) (H' : Hp), x = timesN (mixM c 2) g → Same H H' → 1 ≤ x → x ≤ (mostT g : Nat) → Q (.int x) H' := by
      intro x H' hx s h1 h2
      obtain ⟨t, rfl⟩ := Int.eq_ofNat_of_zero_le (by omega : 0 ≤ x)
      exact (q t hx (by omega) (by omega)).go s
    have mt : 10000 ≤ mostT g ∧ (g = true → mostT g = 1000000000) := by
      cases g
      · exact ⟨Nat.le_refl _, fun z => by cases z⟩
      · exact ⟨by unfold mostT; simp, fun _ => rfl⟩
    obtain ⟨mt1, mt2⟩ := mt
    refine ⟨_, (pss_cons (ps_set (i := 2) sc_l_times.nd rfl (Or.inl rfl) (pe_call G_l_mixed (hr.mono (by decide)) rfl m_l_mixed k_l_mixed b_l_mixed .nil pass0 (pa_cons (pv 0) (pa_cons pe_int pa_nil))))
      (pss_cons (ps_if (pt_cmpR op_lt (pe_op op_mod (pv 2) pe_int) pe_int (nomark _)) (pss_one (ps_ret pe_int)) pss_nil)
      (pss_cons (ps_if (PW.pt (pw_and (pt_not (pt_val (pv 1))) (pw_and1 (pt_cmpR op_eq (pe_op op_mod (pe_op op_fdiv (pv 2) pe_int) pe_int) pe_int (nomark _))))) (pss_one (ps_ret (pe_op op_add pe_int (pe_op op_mod (pe_op op_fdiv (pv 2) pe_int) pe_int)))) pss_nil)
      (pss_cons (ps_if (PW.pt (pw_or (pt_cmpR op_eq (pe_op op_mod (pv 2) pe_int) pe_int (nomark _)) (pw_or1 (pt_not (pt_val (pv 1)))))) (pss_one (ps_ret (pe_op op_add pe_int (pe_op op_mod (pe_op op_fdiv (pv 2) pe_int) pe_int)))) pss_nil)
      (pss_cons (ps_if (pt_cmpR op_eq (pe_op op_mod (pe_op op_fdiv (pv 2) pe_int) pe_int) pe_int (nomark _)) (pss_one (ps_ret (pe_op op_pow pe_int pe_int))) pss_nil)
      (pss_one (ps_ret (pe_op op_add pe_int (pe_op op_mod (pe_op op_mul (pv 2) (pv 2)) (pe_ix (ixL (K := K) rfl) (pe_lst (pa_cons pe_int (pa_cons (pe_op op_pow pe_int pe_int) (pa_cons (pe_op op_pow pe_int pe_int) pa_nil)))) (pe_op op_mod (pe_op op_fdiv (pv 2) pe_int) pe_int) (fun _ _ => rfl))))))))))), ?_⟩
    have e9 : (10 : Int) ^ Int.toNat 9 = 1000000000 := by decide +kernel
    have e6 : (10 : Int) ^ Int.toNat 6 = 1000000 := by decide +kernel
    have h0 : 0 ≤ mixM c 2 := mixM_lo c 2
    have h1 : mixM c 2 < 2147483629 := mixM_hi c 2
    walk_at "rd"
    refine ⟨c, 2, rfl, by decide, ?_⟩
    generalize mixM c 2 = n at *
    walk_at "rd"
    refine if_d (fun c1 => ?_) (fun c1 => ?_)
    · walk_at "rd"
      exact go _ _ (by unfold timesN; rw [if_pos c1]) (Same.refl _) (by omega) (by omega)
    walk_at "rd"
    cases g with
    | false =>
      walk_at "rd"
      refine if_d (fun c2 => ?_) (fun c2 => ?_)
      · walk_at "rd"
        exact go _ _ (by unfold timesN; rw [if_neg c1, if_pos c2]) (Same.refl _) (by omega) (by omega)
      walk_at "rd"
      refine if_d (fun c3 => ?_) (fun c3 => ?_)
      · walk_at "rd"
        exact go _ _ (by unfold timesN; rw [if_neg c1, if_neg c2]) (Same.refl _) (by omega) (by omega)
      walk_at "rd"
      exact go _ _ (by unfold timesN; rw [if_neg c1, if_neg c2]) (Same.refl _) (by omega) (by omega)
    | true =>
      have mt3 := mt2 rfl
      walk_at "rd"
      refine if_d (fun c3 => ?_) (fun c3 => ?_)
      · walk_at "rd"
        exact go _ _ (by unfold timesN; rw [if_neg c1, if_pos c3]) (Same.refl _) (by omega) (by omega)
      walk_at "rd"
      refine if_d (fun c4 => ?_) (fun c4 => ?_)
      · walk_at "rd"
        rw [e9]
        exact go _ _ (by unfold timesN; rw [if_neg c1, if_neg c3, if_pos c4]) (Same.refl _) (by omega) (by omega)
      walk_at "rd"
      refine ⟨by show 3 ≤ sizeLine; decide, fun p hp => ?_⟩
      walk_at "rd"
      rcases (by omega : n / 36 % 3 = 0 ∨ n / 36 % 3 = 1 ∨ n / 36 % 3 = 2) with e | e | e
      · refine ⟨p, _, _, _, rfl, rfl, SqL.of upd_same, at_of (j := 0) (by omega) rfl, ?_⟩
        walk_at "rd"
        have := Int.emod_nonneg (n * n) (by decide : (1000 : Int) ≠ 0)
        have := Int.emod_lt_of_pos (n * n) (by decide : (0 : Int) < 1000)
        exact go _ _ (by unfold timesN; rw [if_neg c1, if_neg c3, if_neg c4, if_pos e]) (Same.new hp) (by omega) (by omega)
      · refine ⟨p, _, _, _, rfl, rfl, SqL.of upd_same, at_of (j := 1) (by omega) rfl, ?_⟩
        walk_at "rd"
        rw [e6]
        have := Int.emod_nonneg (n * n) (by decide : (1000000 : Int) ≠ 0)
        have := Int.emod_lt_of_pos (n * n) (by decide : (0 : Int) < 1000000)
        exact go _ _ (by unfold timesN; rw [if_neg c1, if_neg c3, if_neg c4, if_neg (show ¬ n / 36 % 3 = 0 by omega), if_pos e]) (Same.new hp) (by omega) (by omega)
      · refine ⟨p, _, _, _, rfl, rfl, SqL.of upd_same, at_of (j := 2) (by omega) rfl, ?_⟩
        walk_at "rd"
        rw [e9]
        have := Int.emod_nonneg (n * n) (by decide : (1000000000 : Int) ≠ 0)
        have := Int.emod_lt_of_pos (n * n) (by decide : (0 : Int) < 1000000000)
        exact go _ _ (by unfold timesN; rw [if_neg c1, if_neg c3, if_neg c4, if_neg (show ¬ n / 36 % 3 = 0 by omega), if_neg (show ¬ n / 36 % 3 = 1 by omega)]) (Same.new hp) (by omega) (by omega)
theorem ok_l_keep (D : DefAt K mg "_law_keep" S_l_keep ["_law_cell_here"]) : Cal P w K mg base CX0 1 "_law_keep" ["_law_cell_here"] sp_l_keep := by
  obtain ⟨f, fd, F, m, b⟩ := D.ex
  refine ⟨f, fd, F.ok sc_l_keep (fun vs H Q E h => ?_) (fun cdv A outer s H vs Q E hr h => ?_), m, F.kp, b⟩
  · obtain ⟨c, rfl, _⟩ := h
    rfl
  · obtain ⟨c, rfl, q⟩ := h
    have go : ∀ x : Int, 1 ≤ x → x ≤ 64 → Q (.int x) H := by
      intro x h1 h2
      obtain ⟨t, rfl⟩ := Int.eq_ofNat_of_zero_le (by omega : 0 ≤ x)
      exact q t (by omega) (by omega)
    refine ⟨_, (pss_cons (ps_if (pt_cmpR op_eq (pe_op op_mod (pv 0) pe_int) pe_int (nomark _)) (pss_one (ps_ret (pe_op op_add pe_int (pe_op op_mod (pe_op op_fdiv (pv 0) pe_int) pe_int)))) pss_nil)
      (pss_one (ps_ret (pe_op op_add pe_int (pe_op op_mod (pe_op op_fdiv (pv 0) pe_int) pe_int))))), ?_⟩
    walk_at "rd"
    refine if_d (fun c1 => ?_) (fun c1 => ?_)
    · walk_at "rd"
      exact go _ (by omega) (by omega)
    walk_at "rd"
    exact go _ (by omega) (by omega)
end
end RB

namespace RB
open PySem PySem.Spec PyProof.Rows L2
def sp_l_off : Sp := fun vs H Q _ => ∃ (c k : Nat), vs = [.int (c : Int), .int (k : Int)] ∧ 1 ≤ k ∧ k ≤ 64 ∧ c < 2 ^ 63 ∧ Q (.int ((offM (c / k) : Nat) : Int)) H
def sp_l_bound : Sp := fun vs H Q _ => ∃ (c k : Nat), vs = [.int (c : Int), .int (k : Int)] ∧ 1 ≤ k ∧ k ≤ 64 ∧ c < 2 ^ 63 ∧ Q (.int ((k * (digitsM (c / k)).length + c % k : Nat) : Int)) H
abbrev S_l_off : Stmt := top 35
theorem sc_l_off : FnScope ["_law_count", "_law_keep_here", "_law_found", "_law_left", "_law_half", "_law_place"] ["_law_count", "_law_keep_here"] (defScope S_l_off) := ⟨rfl, rfl, rfl, by decide +kernel, rfl, by decide +kernel, by decide +kernel⟩
abbrev S_l_bound : Stmt := top 36
theorem sc_l_bound : FnScope ["_law_count", "_law_keep_here", "_law_found", "_law_left"] ["_law_count", "_law_keep_here"] (defScope S_l_bound) := ⟨rfl, rfl, rfl, by decide +kernel, rfl, by decide +kernel, by decide +kernel⟩
section
variable {P : Program} {w : World} {K : PySem.W.Frag} {mg : Str → Option Value} {base : Heap}
theorem ok_l_off (D : DefAt K mg "_law_off" S_l_off ["_law_count", "_law_keep_here"]) : Cal P w K mg base CX0 1 "_law_off" ["_law_count", "_law_keep_here"] sp_l_off := by
  obtain ⟨f, fd, F, m, b⟩ := D.ex
  refine ⟨f, fd, F.ok sc_l_off (fun vs H Q E h => ?_) (fun cdv A outer s H vs Q E hr h => ?_), m, F.kp, b⟩
  · obtain ⟨c, k, rfl, _⟩ := h
    rfl
  · obtain ⟨c, k, rfl, h1, h2, h3, q⟩ := h
    refine ⟨_, (pss_cons (ps_par3 (i := 2) (j := 3) (l := 4) rfl sc_l_off.nd rfl rfl rfl (by decide) (by decide) (by decide) rfl rfl rfl (pa_cons pe_int (pa_cons (pe_op op_fdiv (pv 0) (pv 1)) (pa_cons pe_int pa_nil))) rfl)
      (pss_cons (ps_set (i := 5) sc_l_off.nd rfl (Or.inl rfl) pe_int)
      (pss_cons (ps_while PassesOwn.never (pt_cmpR op_gt (pv 3) pe_int (nomark _)) (pss_cons (ps_if (pt_cmpR op_eq (pe_op op_mod (pv 3) pe_int) pe_int (nomark _)) (pss_one (ps_set (i := 2) sc_l_off.nd rfl (Or.inl rfl) (pe_op op_add (pv 2) (pe_op op_fdiv (pe_op op_mul (pv 5) (pv 4)) pe_int)))) pss_nil)
      (pss_cons (ps_set (i := 3) sc_l_off.nd rfl (Or.inl rfl) (pe_op op_fdiv (pv 3) pe_int))
      (pss_cons (ps_set (i := 4) sc_l_off.nd rfl (Or.inl rfl) (pe_op op_mul (pv 4) pe_int))
      (pss_one (ps_set (i := 5) sc_l_off.nd rfl (Or.inl rfl) (pe_op op_add (pv 5) pe_int)))))))
      (pss_one (ps_ret (pv 2)))))), ?_⟩
    have hq : c / k < 2 ^ 63 := Nat.lt_of_le_of_lt (Nat.div_le_self _ _) h3
    walk_at "rd"
    rw [← Int.natCast_ediv]
    generalize c / k = n at *
    refine ⟨fun m σ H' => H' = H ∧ ∃ (F pl : Nat), F + ((digitsF m pl m).map err).sum = offM n ∧ m * 2 ^ pl ≤ n ∧ σ = [some (.int (c : Int)), some (.int (k : Int)), some (.int (F : Int)), some (.int (m : Int)), some (.int ((2 ^ pl : Nat) : Int)), some (.int (pl : Int))],
      ⟨n, rfl, 0, 0, Nat.zero_add _, by simp, rfl⟩, fun m σ H' hw => ?_⟩
    obtain ⟨rfl, F, pl, h4, h5, rfl⟩ := hw
    walk_at "rd"
    refine if_d (fun c1 => ?_) (fun c1 => ?_)
    · have hm : 0 < m := by omega
      have hpl : pl < 63 := by
        have h6 : 2 ^ pl ≤ m * 2 ^ pl := Nat.le_mul_of_pos_left _ hm
        exact (Nat.pow_lt_pow_iff_right (by decide : 1 < 2)).mp (Nat.lt_of_le_of_lt (Nat.le_trans h6 h5) hq)
      have hstep : m / 2 * 2 ^ (pl + 1) ≤ n := by
        have h6 : m / 2 * 2 ^ (pl + 1) = (m / 2 * 2) * 2 ^ pl := by rw [Nat.pow_succ, Nat.mul_assoc, Nat.mul_comm 2]
        rw [h6]
        exact Nat.le_trans (Nat.mul_le_mul_right _ (Nat.div_mul_le_self m 2)) h5
      have hd := digits_step (pl := pl) (by omega : m ≠ 0)
      have hpow : ((2 ^ (pl + 1) : Nat) : Int) = ((2 ^ pl : Nat) : Int) * 2 := by rw [Nat.pow_succ, Int.natCast_mul]; rfl
      refine ⟨fun σ H'' => ∃ m', m' < m ∧ (H'' = H' ∧ ∃ (F pl : Nat), F + ((digitsF m' pl m').map err).sum = offM n ∧ m' * 2 ^ pl ≤ n ∧ σ = [some (.int (c : Int)), some (.int (k : Int)), some (.int (F : Int)), some (.int (m' : Int)), some (.int ((2 ^ pl : Nat) : Int)), some (.int (pl : Int))]), fun _ _ h => h, ?_⟩
      walk_at "rd"
      refine if_d (fun c2 => ?_) (fun c2 => ?_)
      · rw [if_pos (by omega)] at hd
        rw [hd, List.map_cons, List.sum_cons] at h4
        walk_at "rd"
        refine ⟨m / 2, by omega, rfl, F + err pl, pl + 1, by omega, hstep, ?_⟩
        rw [hpow, Int.natCast_add, Int.natCast_add, Int.natCast_ediv]
        rw [← Int.natCast_mul]
        rfl
      · rw [if_neg (by omega)] at hd
        rw [hd] at h4
        walk_at "rd"
        refine ⟨m / 2, by omega, rfl, F, pl + 1, h4, hstep, ?_⟩
        rw [hpow, Int.natCast_add, Int.natCast_ediv]
        rfl
    · have hm : m = 0 := by omega
      subst hm
      have e : F = offM n := by simpa [digitsF] using h4
      subst e
      walk_at "rd"
      exact q
theorem ok_l_bound (D : DefAt K mg "_law_bound" S_l_bound ["_law_count", "_law_keep_here"]) : Cal P w K mg base CX0 1 "_law_bound" ["_law_count", "_law_keep_here"] sp_l_bound := by
  obtain ⟨f, fd, F, m, b⟩ := D.ex
  refine ⟨f, fd, F.ok sc_l_bound (fun vs H Q E h => ?_) (fun cdv A outer s H vs Q E hr h => ?_), m, F.kp, b⟩
  · obtain ⟨c, k, rfl, _⟩ := h
    rfl
  · obtain ⟨c, k, rfl, h1, h2, h3, q⟩ := h
    refine ⟨_, (pss_cons (ps_par (i := 2) (j := 3) rfl sc_l_bound.nd rfl rfl (by decide) rfl rfl (pa_cons (pe_op op_mod (pv 0) (pv 1)) (pa_cons (pe_op op_fdiv (pv 0) (pv 1)) pa_nil)) rfl)
      (pss_cons (ps_while PassesOwn.never (pt_cmpR op_gt (pv 3) pe_int (nomark _)) (pss_cons (ps_set (i := 2) sc_l_bound.nd rfl (Or.inl rfl) (pe_op op_add (pv 2) (pe_op op_mul (pv 1) (pe_op op_mod (pv 3) pe_int))))
      (pss_one (ps_set (i := 3) sc_l_bound.nd rfl (Or.inl rfl) (pe_op op_fdiv (pv 3) pe_int)))))
      (pss_one (ps_ret (pv 2))))), ?_⟩
    have hq : c / k < 2 ^ 63 := Nat.lt_of_le_of_lt (Nat.div_le_self _ _) h3
    have hr := Nat.mod_lt c h1
    walk_at "rd"
    rw [← Int.natCast_ediv, ← Int.natCast_emod]
    generalize c / k = n at *
    generalize c % k = r at *
    refine ⟨fun m σ H' => H' = H ∧ ∃ (F pl : Nat), F + k * (digitsF m pl m).length = k * (digitsM n).length + r ∧ σ = [some (.int (c : Int)), some (.int (k : Int)), some (.int (F : Int)), some (.int (m : Int))],
      ⟨n, rfl, r, 0, Nat.add_comm _ _, rfl⟩, fun m σ H' hw => ?_⟩
    obtain ⟨rfl, F, pl, h4, rfl⟩ := hw
    walk_at "rd"
    refine if_d (fun c1 => ?_) (fun c1 => ?_)
    · have hm : 0 < m := by omega
      have hd := digits_step (pl := pl) (by omega : m ≠ 0)
      refine ⟨fun σ H'' => ∃ m', m' < m ∧ (H'' = H' ∧ ∃ (F pl : Nat), F + k * (digitsF m' pl m').length = k * (digitsM n).length + r ∧ σ = [some (.int (c : Int)), some (.int (k : Int)), some (.int (F : Int)), some (.int (m' : Int))]), fun _ _ h => h, ?_⟩
      walk_at "rd"
      refine ⟨m / 2, by omega, rfl, F + k * (m % 2), pl + 1, ?_, ?_⟩
      · rw [← h4, hd]
        rcases (by omega : m % 2 = 0 ∨ m % 2 = 1) with e | e
        · rw [e, if_neg (by decide), Nat.mul_zero, Nat.add_zero]
        · rw [e, if_pos rfl, List.length_cons, Nat.mul_one, Nat.mul_succ]; omega
      · rw [Int.natCast_add, Int.natCast_mul, Int.natCast_ediv, Int.natCast_emod]
        rfl
    · have hm : m = 0 := by omega
      subst hm
      have e : F = k * (digitsM n).length + r := by simpa [digitsF] using h4
      subst e
      walk_at "rd"
      exact q
end
end RB

namespace RB
open PySem PySem.Spec PyProof.Rows L2
def sp_l_less : Sp := fun vs H Q _ => ∃ (d : Addr) (D : DD) (r : Int), vs = [.ref d, .int r] ∧ H d = some (.dK (D.map kvI)) ∧ (D.map (·.1)).Nodup ∧ D.length ≤ 1000000 ∧ RetV (.int ((rowD D).lt r)) H Q
abbrev S_l_less : Stmt := top 34
theorem sc_l_less : FnScope ["_law_row", "_law_reading_here", "_law_one"] ["_law_row", "_law_reading_here"] (defScope S_l_less) := ⟨rfl, rfl, rfl, by decide +kernel, rfl, by decide +kernel, by decide +kernel⟩
section
variable {P : Program} {w : World} {K : PySem.W.Frag} {mg : Str → Option Value} {base : Heap}
theorem ok_l_less (D : DefAt K mg "_law_less" S_l_less ["_law_row", "_law_reading_here"]) (m_sum : mg "sum" = none) : Cal P w K mg base CX0 1 "_law_less" ["_law_row", "_law_reading_here"] sp_l_less := by
  obtain ⟨f, fd, F, m, b⟩ := D.ex
  refine ⟨f, fd, F.ok sc_l_less (fun vs H Q E h => ?_) (fun cdv A outer s H vs Q E hr h => ?_), m, F.kp, b⟩
  · obtain ⟨d, D, r, rfl, _⟩ := h
    rfl
  · obtain ⟨d, D, r, rfl, hd, nd, hl, q⟩ := h
    refine ⟨_, (pss_one (ps_ret (pe_callB (cr_sum rfl) rfl m_sum (by decide +kernel) (pa_cons (pe_lock (pe_lc (own := [("_law_one", 2)]) (g := (gName 2)) rfl sc_l_less.nd (pi_keys (pv 0)) (blkOk_by (N := ["_law_row", "_law_reading_here", "_law_one"]) (sc := defScope S_l_less) (by decide +kernel)) (fun _ _ _ _ _ => by exact (pg_name (i := 2) sc_l_less.nd rfl (Or.inl rfl))) (fun _ _ _ _ _ => by exact (pts_one (pt_cmpR op_lt (pv 2) (pv 1) (nomark _)))) (fun _ _ _ _ _ => by exact (pe_dget (hu_of hr) (pv 0) (pv 2) (fun _ _ => rfl))))) pa_nil)))), ?_⟩
    walk_at "rd"
    refine row_comp hd hl (fun x => decide (x.1 < r)) (fun H' R z => ⟨_, rfl, z⟩) (fun i hi od H1 h1 R S hR hS => ?_) (fun p H' hp s h => ?_)
    · have e1 := getDD_at nd hi
      generalize D[i] = x at *
      walk_at "rd"
      refine ⟨rfl, ?_⟩
      walk_at "rd"
      refine if_d (fun c => ?_) (fun c => ?_)
      · walk_at "rd"
        refine ⟨d, .int x.2, rfl, ?_, hR (decide_eq_true c)⟩
        have g := DGet.f (k := Sum.inl x.1) h1
        rw [val_kvI, e1] at g
        exact g
      · exact hS (decide_eq_false c)
    · walk_at "rd"
      refine ⟨p, _, rfl, SqL.of h, ?_⟩
      rw [← rowD_lt]
      exact q.go s
end
end RB

namespace RB
open PySem PySem.Spec PyProof.Rows L2
/-! ### the law's own look at kept entries -/
def sp_l_kept (Kp : PySem.W.Frag) : Sp := fun vs H Q _ => ∃ (a q : Addr) (es : List E) (D : DD) (most : Int), vs = [.ref a, .ref q, .int most] ∧ Ents H a es ∧ Srtd es ∧ (∀ e ∈ es, Tru (rowD D) e) ∧ (es.length : Int) ≤ most ∧ H q = some (.dK (D.map kvI)) ∧ (D.map (·.1)).Nodup ∧ D.length ≤ 1000000 ∧ RetV (.bl true) H Q
theorem tru_row {D : DD} (nd : (D.map (·.1)).Nodup) {e : E} (t : Tru (rowD D) e) : ∃ v, getDD D e.1 = some v ∧ e.2.1 ≤ (rowD D).lt e.1 + v - 1 ∧ (rowD D).lt e.1 ≤ e.2.2 := by
  have ha := rowD_at (r := e.1) nd
  have h1 := t.here
  have h2 := t.least
  cases g : getDD D e.1 with
  | none =>
    rw [g] at ha
    simp at ha
    omega
  | some v =>
    rw [g] at ha
    have ha' : (rowD D).lt (e.1 + 1) = (rowD D).lt e.1 + v := ha
    exact ⟨v, rfl, by omega, t.most⟩
abbrev S_l_kept_right : Stmt := top 37
theorem sc_l_kept_right : FnScope ["_law_found", "_law_row", "_law_most", "_law_last", "_law_entry", "_law_number", "_law_reading_here", "_law_least", "_law_high"] ["_law_found", "_law_row", "_law_most"] (defScope S_l_kept_right) := ⟨rfl, rfl, rfl, by decide +kernel, rfl, by decide +kernel, by decide +kernel⟩
section
variable {P : Program} {w : World} {K : PySem.W.Frag} {mg : Str → Option Value} {base : Heap}
theorem ok_l_kept_right (D : DefAt K mg "_law_kept_right" S_l_kept_right ["_law_found", "_law_row", "_law_most"]) (m_len : mg "len" = none) (m_isinstance : mg "isinstance" = none) (m_int : mg "int" = none) (m_bool : mg "bool" = none) (m_list : mg "list" = none) (m_tuple : mg "tuple" = none)
    (c_l_less : Cal P w K mg base CX0 1 "_law_less" ["_law_row", "_law_reading_here"] sp_l_less) : Cal P w K mg base CX0 2 "_law_kept_right" ["_law_found", "_law_row", "_law_most"] (sp_l_kept K) := by
  obtain ⟨f, fd, F, m, b⟩ := D.ex
  obtain ⟨f_l_less, fd_l_less, G_l_less, m_l_less, k_l_less, b_l_less⟩ := c_l_less
  refine ⟨f, fd, F.ok sc_l_kept_right (fun vs H Q E h => ?_) (fun cdv A outer s H vs Q E hr h => ?_), m, F.kp, b⟩
  · obtain ⟨a, q, es, D, most, rfl, _⟩ := h
    rfl
  · obtain ⟨a, q, es, D, most, rfl, hE, hs, ht, hm, hq, nd, hl, k⟩ := h
    obtain ⟨xs, hx, hv⟩ := id hE
    refine ⟨_, (pss_cons (ps_if (PW.pt (pw_or (pt_not (pt_val (pe_callB call_isi rfl m_isinstance (by decide +kernel) (pa_cons (pv 0) (pa_cons (pe_bltn (v := .ty "list") rfl m_list (by decide +kernel) rfl) pa_nil))))) (pw_or1 (pt_cmpR op_gt (pe_callB call_len_seq rfl m_len (by decide +kernel) (pa_cons (pv 0) pa_nil)) (pv 2) (nomark _))))) (pss_one (ps_ret pe_bl)) pss_nil)
      (pss_cons (ps_set (i := 3) sc_l_kept_right.nd rfl (Or.inl rfl) pe_non)
      (pss_cons (ps_for PassesOwn.never rfl (pi_list (pv 0)) (pg_name (i := 4) sc_l_kept_right.nd rfl (Or.inl rfl)) (pss_cons (ps_if (PW.pt (pw_or (pt_not (pt_val (pe_callB call_isi rfl m_isinstance (by decide +kernel) (pa_cons (pv 4) (pa_cons (pe_bltn (v := .ty "tuple") rfl m_tuple (by decide +kernel) rfl) pa_nil))))) (pw_or1 (pt_cmpR op_ne (pe_callB call_len_seq rfl m_len (by decide +kernel) (pa_cons (pv 4) pa_nil)) pe_int (nomark _))))) (pss_one (ps_ret pe_bl)) pss_nil)
      (pss_cons (ps_for PassesOwn.never rfl (pi_tup (pv 4)) (pg_name (i := 5) sc_l_kept_right.nd rfl (Or.inl rfl)) (pss_one (ps_if (PW.pt (pw_or (pt_not (pt_val (pe_callB call_isi rfl m_isinstance (by decide +kernel) (pa_cons (pv 5) (pa_cons (pe_bltn (v := .ty "int") rfl m_int (by decide +kernel) rfl) pa_nil))))) (pw_or1 (pt_val (pe_callB call_isi rfl m_isinstance (by decide +kernel) (pa_cons (pv 5) (pa_cons (pe_bltn (v := .ty "bool") rfl m_bool (by decide +kernel) rfl) pa_nil))))))) (pss_one (ps_ret pe_bl)) pss_nil)))
      (pss_cons (ps_asg (pv 4) (pg_tup rfl (pgs_cons (pg_name (i := 6) sc_l_kept_right.nd rfl (Or.inl rfl)) (pgs_cons (pg_name (i := 7) sc_l_kept_right.nd rfl (Or.inl rfl)) (pgs_cons (pg_name (i := 8) sc_l_kept_right.nd rfl (Or.inl rfl)) pgs_nil)))))
      (pss_cons (ps_if (PW.pt (pw_or (PW.pt (pw_and (pt_cmp (pc_notN (pv 3))) (pw_and1 (pt_cmpR op_lt (pv 6) (pv 3) (nomark _))))) (pw_or1 (pt_cmp (pc_dnotin (hu_of hr) (pv 6) (pv 1)))))) (pss_one (ps_ret pe_bl)) pss_nil)
      (pss_cons (ps_if (PW.pt (pw_or (pt_cmpR op_gt (pv 7) (pe_op op_sub (pe_op op_add (pe_call G_l_less (hr.mono (by decide)) rfl m_l_less k_l_less b_l_less .nil pass0 (pa_cons (pv 1) (pa_cons (pv 6) pa_nil))) (pe_dget (hu_of hr) (pv 1) (pv 6) (fun _ _ => rfl))) pe_int) (nomark _)) (pw_or1 (pt_cmpR op_lt (pv 8) (pe_call G_l_less (hr.mono (by decide)) rfl m_l_less k_l_less b_l_less .nil pass0 (pa_cons (pv 1) (pa_cons (pv 6) pa_nil))) (nomark _))))) (pss_one (ps_ret pe_bl)) pss_nil)
      (pss_one (ps_set (i := 3) sc_l_kept_right.nd rfl (Or.inl rfl) (pv 6)))))))))
      (pss_one (ps_ret pe_bl))))), ?_⟩
    walk_at "rd"
    refine r_isi (.base (.lst hx)) kit_list_list ?_
    walk_at "rd"
    refine ⟨a, _, rfl, .inl (SqL.of hx), ?_⟩
    walk_at "rd"
    refine if_d (fun z => absurd z (by rw [hv.1]; omega)) (fun _ => ?_)
    walk_at "rd"
    refine ⟨a, rfl, ⟨_, SqL.of hx⟩, ?_⟩
    refine for_go (walk_list (xs := xs)) (fun i σ H' => Same H H' ∧ ∃ (lv : V) (v4 v5 v6 v7 v8 : Option V), (lv = .non ∨ ∃ z, lv = .int z ∧ ∀ e ∈ es.drop i, z ≤ e.1) ∧ σ = [some (.ref a), some (.ref q), some (.int most), some lv, v4, v5, v6, v7, v8])
      ⟨Same.refl _, .non, _, _, _, _, _, .inl rfl, rfl⟩ (fun i σ H' _ z => SqL.of (z.1 _ _ hx)) (fun i x σ H1 H2 hi z y => ?_) (fun σ H1 z => ?_)
    · obtain ⟨s1, lv, v4, v5, v6, v7, v8, hlv, rfl⟩ := z
      obtain ⟨rfl, ex⟩ := y
      have hi' : i < es.length := by rw [← hv.1]; exact hi
      obtain ⟨t, e1, ht1⟩ := hv.2 i es[i] (List.getElem?_eq_getElem hi')
      rw [ex] at e1
      cases e1
      have tr := ht es[i] (List.getElem_mem hi')
      obtain ⟨v, g1, g2, g3⟩ := tru_row nd tr
      have hlv' : lv = .non ∨ ∃ z, lv = .int z ∧ z ≤ es[i].1 := by
        rcases hlv with e | ⟨z, e, hz⟩
        · exact .inl e
        · exact .inr ⟨z, e, hz _ (by rw [List.drop_eq_getElem_cons hi']; exact List.mem_cons_self)⟩
      have hnx : ∀ e ∈ es.drop (i + 1), es[i].1 ≤ e.1 := by
        intro e he
        have hp : (es.drop i).Pairwise (fun a b => a.1 ≤ b.1) := hs.sublist (List.drop_sublist _ _)
        rw [List.drop_eq_getElem_cons hi'] at hp
        exact List.rel_of_pairwise_cons hp he
      have ht2 := s1 _ _ ht1
      generalize es[i] = e at *
      walk_at "rd"
      refine r_isi (.base (.tup ht2)) kit_tuple_tuple ?_
      walk_at "rd"
      refine ⟨t, _, rfl, .inr (SqT.of' ht2), ?_⟩
      walk_at "rd"
      refine if_nd (fun z => absurd rfl z) (fun _ => ?_)
      walk_at "rd"
      refine ⟨t, rfl, ⟨_, SqT.of' ht2⟩, ?_⟩
      refine for_go (walk_tup (xs := [V.int e.1, V.int e.2.1, V.int e.2.2])) (fun j σ H' => Same H H' ∧ ∃ v5, σ = [some (.ref a), some (.ref q), some (.int most), some lv, some (.ref t), v5, v6, v7, v8])
        ⟨s1, _, rfl⟩ (fun j σ H' _ z => SqT.of' (z.1 _ _ ht1)) (fun j u σ H3 H4 hj z Y => ?_) (fun σ H3 z => ?_)
      · obtain ⟨s3, v5, rfl⟩ := z
        obtain ⟨rfl, eu⟩ := Y
        have hu : ∃ n, u = .int n := by
          have hj' : j < 3 := hj
          rcases (by omega : j = 0 ∨ j = 1 ∨ j = 2) with z | z | z <;> subst z <;> exact ⟨_, (Option.some.inj eu).symm⟩
        obtain ⟨n, rfl⟩ := hu
        walk_at "rd"
        exact ⟨s3, _, rfl⟩
      · obtain ⟨s3, v5, rfl⟩ := z
        walk_at "rd"
        refine ⟨t, _, rfl, SqT.of' (s3 _ _ ht1), rfl, ?_⟩
        have g : DGet H3 q (.int e.1) (some (.int v)) := by
          have g := DGet.k (k := Sum.inl e.1) (s3 _ _ hq)
          rw [val_kvI, g1] at g
          exact g
        have rest : ∀ (Dx : Ends), True := fun _ => trivial
        clear rest
        rcases hlv' with rfl | ⟨z, rfl, hz⟩
        · walk_at "rd"
          refine if_nd (fun z => absurd rfl z) (fun _ => ?_)
          walk_at "rd"
          refine ⟨q, _, rfl, g, ?_⟩
          refine ⟨false, rfl, if_f ?_⟩
          walk_at "rd"
          refine ⟨q, D, e.1, rfl, s3 _ _ hq, nd, hl, fun H5 s5 => ?_⟩
          have g5 : DGet H5 q (.int e.1) (some (.int v)) := by
            have g := DGet.k (k := Sum.inl e.1) (s5 _ _ (s3 _ _ hq))
            rw [val_kvI, g1] at g
            exact g
          walk_at "rd"
          refine ⟨q, _, rfl, g5, ?_⟩
          walk_at "rd"
          refine if_d (fun z => by omega) (fun _ => ?_)
          walk_at "rd"
          refine ⟨q, D, e.1, rfl, s5 _ _ (s3 _ _ hq), nd, hl, fun H6 s6 => ?_⟩
          walk_at "rd"
          refine if_d (fun z => by omega) (fun _ => ?_)
          walk_at "rd"
          exact ⟨(s3.trans s5).trans s6, .int e.1, _, _, _, _, _, .inr ⟨e.1, rfl, hnx⟩, rfl⟩
        · walk_at "rd"
          refine if_nd (fun _ => ?_) (fun z => by cases z)
          walk_at "rd"
          refine if_d (fun z => by omega) (fun _ => ?_)
          walk_at "rd"
          refine ⟨q, _, rfl, g, ?_⟩
          refine ⟨false, rfl, if_f ?_⟩
          walk_at "rd"
          refine ⟨q, D, e.1, rfl, s3 _ _ hq, nd, hl, fun H5 s5 => ?_⟩
          have g5 : DGet H5 q (.int e.1) (some (.int v)) := by
            have g := DGet.k (k := Sum.inl e.1) (s5 _ _ (s3 _ _ hq))
            rw [val_kvI, g1] at g
            exact g
          walk_at "rd"
          refine ⟨q, _, rfl, g5, ?_⟩
          walk_at "rd"
          refine if_d (fun z => by omega) (fun _ => ?_)
          walk_at "rd"
          refine ⟨q, D, e.1, rfl, s5 _ _ (s3 _ _ hq), nd, hl, fun H6 s6 => ?_⟩
          walk_at "rd"
          refine if_d (fun z => by omega) (fun _ => ?_)
          walk_at "rd"
          exact ⟨(s3.trans s5).trans s6, .int e.1, _, _, _, _, _, .inr ⟨e.1, rfl, hnx⟩, rfl⟩
    · obtain ⟨s1, lv, v4, v5, v6, v7, v8, hlv, rfl⟩ := z
      walk_at "rd"
      exact k.go s1
end
end RB

namespace RB
open PySem PySem.Spec PyProof.Rows L2
def sp_l_right (Kp : PySem.W.Frag) : Sp := fun vs H Q _ => ∃ (q : Addr) (D : DD) (x v p off : Int), vs = [.int x, .ref q, .int p, .int off] ∧ H q = some (.dK (D.map kvI)) ∧ (D.map (·.1)).Nodup ∧ D.length ≤ 1000000 ∧ getDD D x = some v ∧ (rowD D).lt x - off ≤ p ∧ p ≤ (rowD D).lt x + v - 1 + off ∧ RetV (.bl true) H Q
abbrev S_l_answer_right : Stmt := top 38
theorem sc_l_answer_right : FnScope ["_law_found", "_law_row", "_law_place", "_law_off_here", "_law_first"] ["_law_found", "_law_row", "_law_place", "_law_off_here"] (defScope S_l_answer_right) := ⟨rfl, rfl, rfl, by decide +kernel, rfl, by decide +kernel, by decide +kernel⟩
section
variable {P : Program} {w : World} {K : PySem.W.Frag} {mg : Str → Option Value} {base : Heap} 
theorem ok_l_answer_right (D : DefAt K mg "_law_answer_right" S_l_answer_right ["_law_found", "_law_row", "_law_place", "_law_off_here"]) (m_isinstance : mg "isinstance" = none) (m_int : mg "int" = none) (m_bool : mg "bool" = none)
    (c_l_less : Cal P w K mg base CX0 1 "_law_less" ["_law_row", "_law_reading_here"] sp_l_less) : Cal P w K mg base CX0 2 "_law_answer_right" ["_law_found", "_law_row", "_law_place", "_law_off_here"] (sp_l_right K) := by
  obtain ⟨f, fd, F, m, b⟩ := D.ex
  obtain ⟨f_l_less, fd_l_less, G_l_less, m_l_less, k_l_less, b_l_less⟩ := c_l_less
  refine ⟨f, fd, F.ok sc_l_answer_right (fun vs H Q E h => ?_) (fun cdv A outer s H vs Q E hr h => ?_), m, F.kp, b⟩
  · obtain ⟨q, D, x, v, p, off, rfl, _⟩ := h
    rfl
  · obtain ⟨q, D, x, v, p, off, rfl, hq, nd, hl, hg, h1, h2, k⟩ := h
    refine ⟨_, (pss_cons (ps_if (PW.pt (pw_or (pt_not (pt_val (pe_callB call_isi rfl m_isinstance (by decide +kernel) (pa_cons (pv 0) (pa_cons (pe_bltn (v := .ty "int") rfl m_int (by decide +kernel) rfl) pa_nil))))) (pw_or (pt_val (pe_callB call_isi rfl m_isinstance (by decide +kernel) (pa_cons (pv 0) (pa_cons (pe_bltn (v := .ty "bool") rfl m_bool (by decide +kernel) rfl) pa_nil)))) (pw_or1 (pt_cmp (pc_dnotin (hu_of hr) (pv 0) (pv 1))))))) (pss_one (ps_ret pe_bl)) pss_nil)
      (pss_cons (ps_set (i := 4) sc_l_answer_right.nd rfl (Or.inl rfl) (pe_call G_l_less (hr.mono (by decide)) rfl m_l_less k_l_less b_l_less .nil pass0 (pa_cons (pv 1) (pa_cons (pv 0) pa_nil))))
      (pss_one (ps_ret (pe_chain op_le op_le (pe_op op_sub (pv 4) (pv 3)) (pv 2) (pe_op op_add (pe_op op_sub (pe_op op_add (pv 4) (pe_dget (hu_of hr) (pv 1) (pv 0) (fun _ _ => rfl))) pe_int) (pv 3))))))), ?_⟩
    have g : DGet H q (.int x) (some (.int v)) := by
      have g := DGet.k (k := Sum.inl x) hq
      rw [val_kvI, hg] at g
      exact g
    walk_at "rd"
    refine ⟨q, _, rfl, g, ?_⟩
    refine ⟨false, rfl, if_f ?_⟩
    walk_at "rd"
    refine ⟨q, D, x, rfl, hq, nd, hl, fun H1 s1 => ?_⟩
    walk_at "rd"
    refine if_d (fun _ => ?_) (fun z => absurd h1 z)
    walk_at "rd"
    have g1 : DGet H1 q (.int x) (some (.int v)) := by
      have g := DGet.k (k := Sum.inl x) (s1 _ _ hq)
      rw [val_kvI, hg] at g
      exact g
    refine ⟨q, _, rfl, g1, ?_⟩
    walk_at "rd"
    rw [decide_eq_true h2]
    exact k.go s1
end
end RB

namespace RB
open PySem PySem.Spec PyProof.Rows L2
/-! ### a cup is good for a row -/
def sp_l_good (C : Addr) : Sp := fun vs H Q _ => ∃ (p d q : Addr) (s : CupM) (R : Row) (D : DD) (U : List Int) (c : Int), vs = [.ref p, .ref q, .int c] ∧ CupAt C H p d s ∧ Good s R ∧ s.count < 2 ^ 63 ∧ H q = some (.dK (D.map kvI)) ∧ RowOk D U ∧ U.length ≤ 1000000 ∧ rowD D = R ∧ RetV (.bl true) H Q
abbrev S_l_good : Stmt := top 42
theorem sc_l_good : FnScope ["_law_cup", "_law_row", "_law_cell_here", "_law_count", "_law_one", "_law_off_here", "_law_k", "_law_place"] ["_law_cup", "_law_row", "_law_cell_here"] (defScope S_l_good) := ⟨rfl, rfl, rfl, by decide +kernel, rfl, by decide +kernel, by decide +kernel⟩
section
variable {P : Program} {w : World} {K : PySem.W.Frag} {mg : Str → Option Value} {base : Heap} {C C_NoPlace : Addr}
theorem ok_l_good (D : DefAt K mg "_law_good" S_l_good ["_law_cup", "_law_row", "_law_cell_here"]) (m_sum : mg "sum" = none) (m_range : mg "range" = none) (m_max : mg "max" = none) (U : CupC K mg C) (c_Cup_kept : CalM P w K mg base CX0 5 C "kept" ["self"] (sp_Cup_kept C)) (c_Cup_count : CalM P w K mg base CX0 3 C "count" ["self"] (sp_Cup_count C))
    (c_Cup_off : CalM P w K mg base CX0 4 C "off" ["self"] (sp_Cup_off C)) (c_Cup_bound : CalM P w K mg base CX0 4 C "bound" ["self"] (sp_Cup_bound C)) (c_Cup_answer : CalM P w K mg base (L2.CX P w) 6 C "answer" ["self", "place"] (sp_Cup_answer K C C_NoPlace))
    (c_l_mixed : Cal P w K mg base CX0 1 "_law_mixed" ["_law_cell_here", "_law_k"] sp_l_mixed) (c_l_off : Cal P w K mg base CX0 1 "_law_off" ["_law_count", "_law_keep_here"] sp_l_off) (c_l_bound : Cal P w K mg base CX0 1 "_law_bound" ["_law_count", "_law_keep_here"] sp_l_bound)
    (c_l_answer_right : Cal P w K mg base CX0 2 "_law_answer_right" ["_law_found", "_law_row", "_law_place", "_law_off_here"] (sp_l_right K)) (c_l_kept_right : Cal P w K mg base CX0 2 "_law_kept_right" ["_law_found", "_law_row", "_law_most"] (sp_l_kept K)) :
    Cal P w K mg base CX0 7 "_law_good" ["_law_cup", "_law_row", "_law_cell_here"] (sp_l_good C) := by
  obtain ⟨f, fd, F, m, b⟩ := D.ex
  obtain ⟨f_Cup_kept, fd_Cup_kept, G_Cup_kept, h_Cup_kept, b_Cup_kept⟩ := c_Cup_kept
  obtain ⟨f_Cup_count, fd_Cup_count, G_Cup_count, h_Cup_count, b_Cup_count⟩ := c_Cup_count
  obtain ⟨f_Cup_off, fd_Cup_off, G_Cup_off, h_Cup_off, b_Cup_off⟩ := c_Cup_off
  obtain ⟨f_Cup_bound, fd_Cup_bound, G_Cup_bound, h_Cup_bound, b_Cup_bound⟩ := c_Cup_bound
  obtain ⟨f_Cup_answer, fd_Cup_answer, G_Cup_answer, h_Cup_answer, b_Cup_answer⟩ := c_Cup_answer
  obtain ⟨f_l_mixed, fd_l_mixed, G_l_mixed, m_l_mixed, k_l_mixed, b_l_mixed⟩ := c_l_mixed
  obtain ⟨f_l_off, fd_l_off, G_l_off, m_l_off, k_l_off, b_l_off⟩ := c_l_off
  obtain ⟨f_l_bound, fd_l_bound, G_l_bound, m_l_bound, k_l_bound, b_l_bound⟩ := c_l_bound
  obtain ⟨f_l_answer_right, fd_l_answer_right, G_l_answer_right, m_l_answer_right, k_l_answer_right, b_l_answer_right⟩ := c_l_answer_right
  obtain ⟨f_l_kept_right, fd_l_kept_right, G_l_kept_right, m_l_kept_right, k_l_kept_right, b_l_kept_right⟩ := c_l_kept_right
  refine ⟨f, fd, F.ok sc_l_good (fun vs H Q E h => ?_) (fun cdv A outer s H vs Q E hr h => ?_), m, F.kp, b⟩
  · obtain ⟨p, d, q, s, R, D, V, c, rfl, _⟩ := h
    rfl
  · obtain ⟨p, d, q, s, R, D, V', c, rfl, cs, g, hc, hq, ok, hV, hR, k⟩ := h
    obtain ⟨dx, l, hp, _⟩ := id cs
    have wf := g.wf hc
    have hl := ok.len
    have en : ((D.map (·.2)).sum) = (s.count : Int) := by rw [← rowD_n, hR, g.n]
    obtain ⟨ws, gk, hkl⟩ := g.kept
    have htru : ∀ e ∈ s.kept, Tru (rowD D) e := by rw [hR]; exact gk.tru
    refine ⟨_, (pss_cons (ps_set (i := 3) sc_l_good.nd rfl (Or.inl rfl) (pe_callB (cr_sum rfl) rfl m_sum (by decide +kernel) (pa_cons (pe_lock (pe_lc (own := [("_law_one", 4)]) (g := (gName 4)) (tt := tYes) rfl sc_l_good.nd (pi_keys (pv 1)) (blkOk_by (N := ["_law_cup", "_law_row", "_law_cell_here", "_law_count", "_law_one", "_law_off_here", "_law_k", "_law_place"]) (sc := defScope S_l_good) (by decide +kernel)) (fun _ _ _ _ _ => by exact (pg_name (i := 4) sc_l_good.nd rfl (Or.inl rfl))) (fun _ _ _ _ _ => by exact pts_nil) (fun _ _ _ _ _ => by exact (pe_dget (hu_of hr) (pv 1) (pv 4) (fun _ _ => rfl))))) pa_nil)))
      (pss_cons (ps_set (i := 5) sc_l_good.nd rfl (Or.inl rfl) (pe_call G_l_off (hr.mono (by decide)) rfl m_l_off k_l_off b_l_off .nil pass0 (pa_cons (pv 3) (pa_cons (pe_fldK (K := K) rfl (pv 0) rfl) pa_nil))))
      (pss_cons (ps_if (PW.pt (pw_or (pt_cmpR op_ne (pe_meth0 (pv 0) U.cl h_Cup_count G_Cup_count (hr.mono (by decide)) b_Cup_count .nil pass0) (pv 3) (nomark _)) (pw_or (pt_cmpR op_ne (pe_meth0 (pv 0) U.cl h_Cup_off G_Cup_off (hr.mono (by decide)) b_Cup_off .nil pass0) (pv 5) (nomark _)) (pw_or1 (pt_cmpR op_ne (pe_meth0 (pv 0) U.cl h_Cup_bound G_Cup_bound (hr.mono (by decide)) b_Cup_bound .nil pass0) (pe_call G_l_bound (hr.mono (by decide)) rfl m_l_bound k_l_bound b_l_bound .nil pass0 (pa_cons (pv 3) (pa_cons (pe_fldK (K := K) rfl (pv 0) rfl) pa_nil))) (nomark _)))))) (pss_one (ps_ret pe_bl)) pss_nil)
      (pss_cons (ps_for PassesOwn.never rfl (pi_range1 rfl m_range (pa_cons pe_int pa_nil)) (pg_name (i := 6) sc_l_good.nd rfl (Or.inl rfl)) (pss_cons (ps_set (i := 7) sc_l_good.nd rfl (Or.inl rfl) (pe_op op_mod (pe_call G_l_mixed (hr.mono (by decide)) rfl m_l_mixed k_l_mixed b_l_mixed .nil pass0 (pa_cons (pv 2) (pa_cons (pv 6) pa_nil))) (pe_callB (call_max2 rfl) rfl m_max (by decide +kernel) (pa_cons pe_int (pa_cons (pv 3) pa_nil)))))
      (pss_one (ps_if (PW.pt (pw_and (pt_cmpR op_gt (pv 3) pe_int (nomark _)) (pw_and1 (pt_not (pt_val (pe_call G_l_answer_right (hr.mono (by decide)) rfl m_l_answer_right k_l_answer_right b_l_answer_right .nil pass0 (pa_cons (pe_meth (pv 0) U.cl h_Cup_answer G_Cup_answer (hr.mono (by decide)) b_Cup_answer .nil passL (pa_cons (pv 7) pa_nil)) (pa_cons (pv 1) (pa_cons (pv 7) (pa_cons (pv 5) pa_nil)))))))))) (pss_one (ps_ret pe_bl)) pss_nil))))
      (pss_one (ps_ret (pe_call G_l_kept_right (hr.mono (by decide)) rfl m_l_kept_right k_l_kept_right b_l_kept_right .nil pass0 (pa_cons (pe_meth0 (pv 0) U.cl h_Cup_kept G_Cup_kept (hr.mono (by decide)) b_Cup_kept .nil pass0) (pa_cons (pv 1) (pa_cons (pe_call G_l_bound (hr.mono (by decide)) rfl m_l_bound k_l_bound b_l_bound .nil pass0 (pa_cons (pv 3) (pa_cons (pe_fldK (K := K) rfl (pv 0) rfl) pa_nil))) pa_nil)))))))))), ?_⟩
    walk_at "rd"
    refine row_comp hq (by omega) (fun _ => true) (fun H' R z => ⟨_, rfl, z⟩) (fun i hi od H1 h1 R S hR' hS => ?_) (fun pl H1 hpl s1 h1 => ?_)
    · have e1 := getDD_at ok.nd hi
      generalize D[i] = x at *
      walk_at "rd"
      refine ⟨rfl, ?_⟩
      walk_at "rd"
      refine ⟨q, .int x.2, rfl, ?_, hR' rfl⟩
      have g := DGet.f (k := Sum.inl x.1) h1
      rw [val_kvI, e1] at g
      exact g
    walk_at "rd"
    refine ⟨pl, _, rfl, SqL.of h1, ?_⟩
    rw [List.filter_eq_self.mpr fun _ _ => rfl, en]
    walk_at "rd"
    refine fld_keep U (s1 _ _ hp) ?_
    walk_at "rd"
    refine ⟨s.count, s.keep, rfl, wf.k1, wf.k64, hc, ?_⟩
    walk_at "rd"
    refine meth_at (s1 _ _ hp) (by decide +kernel) (by decide +kernel) (by decide +kernel) ?_
    walk_at "rd"
    refine ⟨p, d, s, rfl, cs.same s1, wf, fun H2 s2' => ?_⟩
    have s2 := s1.trans s2'
    walk_at "rd"
    refine if_nd (fun z => absurd rfl z) (fun _ => ?_)
    walk_at "rd"
    refine meth_at (s2 _ _ hp) (by decide +kernel) (by decide +kernel) (by decide +kernel) ?_
    walk_at "rd"
    refine ⟨p, d, s, rfl, cs.same s2, wf, fun H3 s3' => ?_⟩
    have s3 := s2.trans s3'
    walk_at "rd"
    refine if_nd (fun z => absurd rfl z) (fun _ => ?_)
    walk_at "rd"
    refine meth_at (s3 _ _ hp) (by decide +kernel) (by decide +kernel) (by decide +kernel) ?_
    walk_at "rd"
    refine ⟨p, d, s, rfl, cs.same s3, wf, fun H4 s4' => ?_⟩
    have s4 := s3.trans s4'
    walk_at "rd"
    refine fld_keep U (s4 _ _ hp) ?_
    walk_at "rd"
    refine ⟨s.count, s.keep, rfl, wf.k1, wf.k64, hc, ?_⟩
    walk_at "rd"
    refine if_nd (fun z => absurd rfl z) (fun _ => ?_)
    walk_at "rd"
    refine ⟨3, rfl, by decide, by decide, ?_⟩
    refine for_go (walk_range0 (n := 3)) (fun i σ H' => Same H4 H' ∧ ∃ v4 v6 v7, σ = [some (.ref p), some (.ref q), some (.int c), some (.int (s.count : Int)), v4, some (.int ((offM (s.count / s.keep) : Nat) : Int)), v6, v7])
      ⟨Same.refl _, _, _, _, rfl⟩ (fun _ _ _ _ _ => trivial) (fun i y0 σ H5 H6 hi z Y => ?_) (fun σ H5 z => ?_)
    · obtain ⟨s5, v4, v6, v7, rfl⟩ := z
      obtain ⟨rfl, rfl⟩ := Y
      have s15 := s4.trans s5
      walk_at "rd"
      refine ⟨c, (i : Int), rfl, ⟨by omega, by omega⟩, ?_⟩
      have hm0 := mixM_lo c (i : Int)
      generalize mixM c (i : Int) = mx at *
      walk_at "rd"
      refine ⟨_, _, rfl, ?_⟩
      rw [max_if]
      have hM : 0 < max (1 : Int) (s.count : Int) := by omega
      have hMe : 0 < s.count → max (1 : Int) (s.count : Int) = (s.count : Int) := fun h => by omega
      generalize max (1 : Int) (s.count : Int) = M at *
      walk_at "rd"
      refine if_d (fun c0 => ?_) (fun c0 => ?_)
      · have hpos : 0 < s.count := by omega
        rw [hMe hpos]
        have p0 := Int.emod_nonneg mx (by omega : (s.count : Int) ≠ 0)
        have p1 := Int.emod_lt_of_pos mx (by omega : 0 < (s.count : Int))
        obtain ⟨n, hn⟩ := Int.eq_ofNat_of_zero_le p0
        rw [hn] at p1 ⊢
        walk_at "rd"
        refine meth_at (s15 _ _ hp) (by decide +kernel) (by decide +kernel) (by decide +kernel) ?_
        walk_at "rd"
        refine ⟨p, d, _, s, R, rfl, cs.same s15, g, hc, .inl ⟨n, rfl, by omega, fun H7 s7 => ?_⟩⟩
        obtain ⟨v, hv, a1, a2⟩ := near_right g ok hR (p := (n : Int)) (by omega) (by omega)
        rw [← hR] at a1 a2
        walk_at "rd"
        refine ⟨q, D, _, v, _, _, rfl, (s15.trans s7) _ _ hq, ok.nd, by omega, hv, a1, a2, fun H8 s8 => ?_⟩
        walk_at "rd"
        exact ⟨(s5.trans s7).trans s8, _, _, _, rfl⟩
      · walk_at "rd"
        exact ⟨s5, _, _, _, rfl⟩
    · obtain ⟨s5, v4, v6, v7, rfl⟩ := z
      have s15 := s4.trans s5
      walk_at "rd"
      refine meth_at (s15 _ _ hp) (by decide +kernel) (by decide +kernel) (by decide +kernel) ?_
      walk_at "rd"
      refine ⟨p, d, s, rfl, cs.same s15, wf, fun pf H7 hpf s7 E7 => ?_⟩
      have s17 := s15.trans s7
      walk_at "rd"
      refine fld_keep U (s17 _ _ hp) ?_
      walk_at "rd"
      refine ⟨s.count, s.keep, rfl, wf.k1, wf.k64, hc, ?_⟩
      walk_at "rd"
      exact ⟨pf, q, s.kept, D, _, rfl, E7, g.kept_srt, htru, by rw [hkl]; exact Int.le_refl _, s17 _ _ hq, ok.nd, by omega, fun H8 s8 => k.go (s17.trans s8)⟩
end
end RB

namespace RB
open PySem PySem.Spec PyProof.Rows L2
def sp_l_held : Sp := fun vs H Q _ => ∃ (ph : Addr) (xs : List V) (hs : List (List E)), vs = [.ref ph] ∧ H ph = some (.lst xs) ∧ HeldV H ph xs hs ∧ xs.length ≤ 1000 ∧ RetV (.bl true) H Q
abbrev S_l_held : Stmt := top 39
theorem sc_l_held : FnScope ["_law_held_here", "_law_one", "_law_other"] ["_law_held_here"] (defScope S_l_held) := ⟨rfl, rfl, rfl, by decide +kernel, rfl, by decide +kernel, by decide +kernel⟩
section
variable {P : Program} {w : World} {K : PySem.W.Frag} {mg : Str → Option Value} {base : Heap} {C : Addr}
theorem ok_l_held (D : DefAt K mg "_law_held" S_l_held ["_law_held_here"]) (m_repr : mg "repr" = none) (m_all : mg "all" = none) : CalG P w K mg base CX0 1 "_law_held" ["_law_held_here"] sp_l_held := by
  obtain ⟨f, fd, F, m, b⟩ := D.ex
  refine ⟨f, fd, okG F sc_l_held (fun vs H Q E h => ?_) (fun cdv A outer s H vs Q E hr quiet h => ?_), m, F.kp, b⟩
  · obtain ⟨ph, xs, hs, rfl, _⟩ := h
    rfl
  · obtain ⟨ph, xs, hs, rfl, hx, hH, hl, q⟩ := h
    refine ⟨_, (pss_one (ps_ret (pe_callB (cr_all rfl) rfl m_all (by decide +kernel) (pa_cons (pe_lc (own := [("_law_one", 1), ("_law_other", 2)]) (g := (gTup K 2 (gCons (gName 1) (gCons (gName 2) gNil)))) (tt := tYes) rfl sc_l_held.nd (pi_list (pv 0)) (blkOk_by (N := ["_law_held_here", "_law_one", "_law_other"]) (sc := defScope S_l_held) (by decide +kernel)) (fun _ _ _ _ _ => by exact (pg_tup rfl (pgs_cons (pg_name (i := 1) sc_l_held.nd rfl (Or.inl rfl)) (pgs_cons (pg_name (i := 2) sc_l_held.nd rfl (Or.inl rfl)) pgs_nil)))) (fun _ _ _ _ _ => by exact pts_nil) (fun _ _ _ _ _ => by exact (pe_cmpR op_eq (pe_callB (RB.call_reprK (K := K) rfl quiet hr.units) rfl m_repr (by decide +kernel) (pa_cons (pv 1) pa_nil)) (pv 2) (nomark _)))) pa_nil)))), ?_⟩
    walk_at "rd"
    refine ⟨ph, rfl, ⟨_, SqL.of hx⟩, ?_⟩
    refine lc_gen (walk_list (xs := xs)) (fun _ => true) (fun i v _ => v = .bl true) (by omega) (SqL.of hx) (fun _ _ s h => s.seq h)
      (fun _ _ _ _ _ h => h) (fun _ _ _ _ _ _ _ h => h) (fun i hi H3 s3 _ x H' y => ?_) (fun p2 ys H3 hp2 s3 h3 M => ?_)
    · obtain ⟨rfl, ex⟩ := y
      have hi' : i < hs.length := by rw [← hH.1]; exact hi
      obtain ⟨t, pk, t1, t2, t3, t4, t5, t6⟩ := hH.2 i hs[i] (List.getElem?_eq_getElem hi')
      rw [ex] at t1
      cases t1
      obtain ⟨z1, z2, z3, z4⟩ := dEs_show t5 t6
      refine ⟨Same.refl _, fun R S hy _ => ?_⟩
      generalize hs[i] = es at *
      walk_at "rd"
      refine ⟨t, _, rfl, SqT.of' (s3 _ _ t2), rfl, ?_⟩
      walk_at "rd"
      refine ⟨rfl, ?_⟩
      walk_at "rd"
      refine ⟨pk, dEs es, rfl, dp_es (t3.same s3), z1, z2, z3, z4, ?_⟩
      walk_at "rd"
      exact ⟨rfl, by rw [decide_eq_true rfl]; exact hy rfl _ _ (Same.refl _) rfl⟩
    · have em := M.vals (f := fun _ => V.bl true)
      walk_at "rd"
      refine ⟨p2, (pickN xs.length fun _ => true).map fun _ => true, rfl, SqL.of (by rw [h3, em, List.map_map]; rfl), ?_⟩
      rw [show ((pickN xs.length fun _ => true).map fun _ => true).all id = true by rw [List.all_eq_true]; intro x hx; obtain ⟨_, _, rfl⟩ := List.mem_map.mp hx; rfl]
      exact q.go s3
end
end RB

namespace RB
open PySem PySem.Spec PyProof.Rows L2
/-! ### readings dealt to cups, cups poured together -/
def RowIn (R : Row) : Prop := ∀ r, R.lt r < R.lt (r + 1) → InR r
theorem RowIn.nil : RowIn Row.nil := fun r h => absurd h (Int.lt_irrefl _)
theorem RowIn.one {r : Int} {t : Int} (h : InR r) : RowIn (Row.one r t) := fun x hx => by
  have hx' : (if r < x then t else 0) < (if r < x + 1 then t else 0) := hx
  by_cases c1 : r < x
  · rw [if_pos c1, if_pos (by omega)] at hx'
    exact absurd hx' (Int.lt_irrefl _)
  · by_cases c2 : r < x + 1
    · have e : x = r := by omega
      rw [e]
      exact h
    · rw [if_neg c1, if_neg c2] at hx'
      exact absurd hx' (Int.lt_irrefl _)
theorem RowIn.add {R T : Row} (h : RowIn R) (g : RowIn T) : RowIn (R.add T) := fun x hx => by
  have hx' : R.lt x + T.lt x < R.lt (x + 1) + T.lt (x + 1) := hx
  by_cases c : R.lt x < R.lt (x + 1)
  · exact h x c
  · exact g x (by omega)
theorem add_count {s : CupM} {R : Row} (g : Good s R) (r : Int) (t : Nat) : (s.add r t).count = s.count + t := by
  have h := (g.add (r := r) (t := t)).n
  have e : (R.add (Row.one r t)).n = R.n + t := rfl
  rw [e, g.n] at h
  omega
def greatK (k : Nat) : Bool := decide (9 < (k : Int)) && decide ((k : Int) < 16)
def manyK (k : Nat) : Nat := if 9 < (k : Int) then 5 else 40
def cellsK (k : Nat) (ns : List Int) : List Int := (ns.drop 3).take (manyK k)
theorem cellsK_len (k : Nat) (ns : List Int) : (cellsK k ns).length = min (manyK k) (ns.length - 3) := by unfold cellsK; rw [List.length_take, List.length_drop]
theorem manyK_le (k : Nat) : manyK k ≤ 40 := by unfold manyK; split <;> decide
theorem timesM_in (c : Int) (g : Bool) : 1 ≤ timesM c g ∧ timesM c g ≤ 1000000000 := by
  have h0 := mixM_lo c 2
  have h1 := mixM_hi c 2
  unfold timesM timesN
  generalize mixM c 2 = n at *
  have a1 := Int.emod_nonneg (n * n) (by decide : (1000 : Int) ≠ 0)
  have a2 := Int.emod_lt_of_pos (n * n) (by decide : (0 : Int) < 1000)
  have b1 := Int.emod_nonneg (n * n) (by decide : (1000000 : Int) ≠ 0)
  have b2 := Int.emod_lt_of_pos (n * n) (by decide : (0 : Int) < 1000000)
  have c1 := Int.emod_nonneg (n * n) (by decide : (1000000000 : Int) ≠ 0)
  have c2 := Int.emod_lt_of_pos (n * n) (by decide : (0 : Int) < 1000000000)
  split
  · omega
  · cases g
    · show 1 ≤ (if n / 4 % 8 = 1 then 1 + n / 32 % 10000 else 1 + n / 4 % 40) ∧ _
      dsimp only
      split <;> omega
    · dsimp only
      split
      · omega
      · split
        · omega
        · split
          · omega
          · split <;> omega
/-- cups that came into being behind H0, of rows R -/
structure Dealt (many k N : Nat) (C : Addr) (H0 H : Hp) (A : Nat → Addr × Addr) (S : Nat → CupM) (R : Nat → Row) : Prop where
  t : Cups many C H A S
  g : ∀ i, i < many → Good (S i) (R i)
  k : ∀ i, i < many → (S i).keep = k
  ri : ∀ i, i < many → RowIn (R i)
  c : ∀ i, i < many → (S i).count ≤ N
  new : ∀ i, i < many → H0 (A i).1 = none ∧ H0 (A i).2 = none
  own : ∀ i, i < many → ∀ b, Own H (A i).1 (A i).2 b → H0 b = none
def sp_l_dealt (K : PySem.W.Frag) (C : Addr) : Sp := fun vs H Q _ => ∃ (a : Addr) (ns : List Int) (k many : Nat), vs = [.ref a, .int (k : Int), .int (many : Int)] ∧ SqL K H a (ns.map V.int) ∧ ns.length ≤ 63 ∧ 1 ≤ k ∧ k ≤ 64 ∧ 1 ≤ many ∧ many ≤ 6 ∧
  ∀ pc A S R H', H pc = none → Same H H' → H' pc = some (.lst (cupL many A)) → Dealt many k 40000000000 C H H' A S R → sumF R (List.range many) = rowC (fun c => timesM c (greatK k)) (cellsK k ns) → Q (.ref pc) H'
def sp_l_together (C : Addr) : Sp := fun vs H Q _ => ∃ (pc ph : Addr) (c : Int) (A : Nat → Addr × Addr) (S : Nat → CupM) (R : Nat → Row) (k many : Nat) (xs : List V) (hs : List (List E)), vs = [.ref pc, .int c, .ref ph] ∧ 1 ≤ many ∧ many ≤ 6 ∧ H pc = some (.lst (cupL many A)) ∧ Cups many C H A S ∧
  (∀ i, i < many → Good (S i) (R i)) ∧ (∀ i, i < many → (S i).keep = k) ∧ (∀ i, i < many → RowIn (R i)) ∧ (∀ i, i < many → (S i).count < 2 ^ 63) ∧ (sumF R (List.range many)).n < 2 ^ 63 ∧ H ph = some (.lst xs) ∧ HeldV H ph xs hs ∧ FreeN many H A ph ∧ xs.length ≤ 500 ∧
  ∀ x d s H' xs' hs', CupAt C H' x d s → Good s (sumF R (List.range many)) → s.keep = k → s.count < 2 ^ 63 → H' ph = some (.lst xs') → HeldV H' ph xs' hs' → xs'.length ≤ xs.length + many → (∀ b o, H b = some o → b ≠ ph → (∀ i, i < many → b ≠ (A i).1 ∧ b ≠ (A i).2) → H' b = some o) → Q (.ref x) H'
abbrev S_l_dealt : Stmt := top 40
theorem sc_l_dealt : FnScope ["_law_script", "_law_keep_here", "_law_many", "_law_cups", "_law_k", "_law_cell_here"] ["_law_script", "_law_keep_here", "_law_many"] (defScope S_l_dealt) := ⟨rfl, rfl, rfl, by decide +kernel, rfl, by decide +kernel, by decide +kernel⟩
abbrev S_l_together : Stmt := top 41
theorem sc_l_together : FnScope ["_law_cups", "_law_cell_here", "_law_held_here", "_law_left", "_law_one", "_law_other", "_law_told", "_law_again"] ["_law_cups", "_law_cell_here", "_law_held_here"] (defScope S_l_together) := ⟨rfl, rfl, rfl, by decide +kernel, rfl, by decide +kernel, by decide +kernel⟩
section
variable {P : Program} {w : World} {K : PySem.W.Frag} {mg : Str → Option Value} {base : Heap} {C C_BadKeep C_BadReading C_BadTimes C_UnlikeCups : Addr}
theorem ok_l_dealt (D : DefAt K mg "_law_dealt" S_l_dealt ["_law_script", "_law_keep_here", "_law_many"]) (m_range : mg "range" = none) (m_min : mg "min" = none) (m_max : mg "max" = none) (m_int : mg "int" = none) (m_len : mg "len" = none) (U : CupC K mg C) (Mk : MkC K C) (c_Cup___init__ : CalM P w K mg base (L2.CX P w) 2 C "__init__" ["self", "keep"] (sp_Cup_init K C C_BadKeep))
    (c_Cup_add : CalM P w K mg base (L2.CX P w) 7 C "add" ["self", "reading", "times"] (sp_Cup_add K C C_BadReading C_BadTimes)) (c_l_mixed : Cal P w K mg base CX0 1 "_law_mixed" ["_law_cell_here", "_law_k"] sp_l_mixed) (c_l_reading : Cal P w K mg base CX0 2 "_law_reading" ["_law_cell_here"] sp_l_reading)
    (c_l_times : Cal P w K mg base CX0 2 "_law_times" ["_law_cell_here", "_law_great"] sp_l_times) : Cal P w K mg base CX0 8 "_law_dealt" ["_law_script", "_law_keep_here", "_law_many"] (sp_l_dealt K C) := by
  obtain ⟨f, fd, F, m, b⟩ := D.ex
  obtain ⟨f_Cup___init__, fd_Cup___init__, G_Cup___init__, h_Cup___init__, b_Cup___init__⟩ := c_Cup___init__
  have Mk_Cup := Mk.by_ h_Cup___init__
  obtain ⟨f_Cup_add, fd_Cup_add, G_Cup_add, h_Cup_add, b_Cup_add⟩ := c_Cup_add
  obtain ⟨f_l_mixed, fd_l_mixed, G_l_mixed, m_l_mixed, k_l_mixed, b_l_mixed⟩ := c_l_mixed
  obtain ⟨f_l_reading, fd_l_reading, G_l_reading, m_l_reading, k_l_reading, b_l_reading⟩ := c_l_reading
  obtain ⟨f_l_times, fd_l_times, G_l_times, m_l_times, k_l_times, b_l_times⟩ := c_l_times
  refine ⟨f, fd, F.ok sc_l_dealt (fun vs H Q E h => ?_) (fun cdv A outer s H vs Q E hr h => ?_), m, F.kp, b⟩
  · obtain ⟨a, ns, k, many, rfl, _⟩ := h
    rfl
  · obtain ⟨a, ns, k, many, rfl, ha, hl, hk1, hk2, hm1, hm2, q⟩ := h
    refine ⟨_, (pss_cons (ps_setLc (i := 3) (own := [("_law_k", 4)]) (g := (gName 4)) (tt := tYes) rfl sc_l_dealt.nd rfl rfl (sw_true rfl rfl rfl (by decide +kernel)) (pi_range1 rfl m_range (pa_cons (pv 2) pa_nil)) (blkOk_by (N := ["_law_script", "_law_keep_here", "_law_many", "_law_cups", "_law_k", "_law_cell_here"]) (sc := defScope S_l_dealt) (by decide +kernel)) (fun _ _ _ _ _ => by exact (pg_name (i := 4) sc_l_dealt.nd rfl (Or.inl rfl))) (fun _ _ _ _ _ => by exact pts_nil) (fun _ _ _ _ _ => by exact (pe_make Mk_Cup G_Cup___init__ (hr.mono (by decide)) rfl U.gC b_Cup___init__ .nil passL (pa_cons (pv 1) pa_nil))))
      (pss_cons (ps_for PassesOwn.never rfl (pi_range1 rfl m_range (pa_cons (pe_callB (call_min2 rfl) rfl m_min (by decide +kernel) (pa_cons (pe_ix (ixL (K := K) rfl) (pe_lst (pa_cons pe_int (pa_cons pe_int pa_nil))) (pe_callTy call_int1 rfl m_int (by decide +kernel) (pa_cons (pe_cmpR op_gt (pv 1) pe_int (nomark _)) pa_nil)) (fun _ _ => rfl)) (pa_cons (pe_callB (call_max2 rfl) rfl m_max (by decide +kernel) (pa_cons pe_int (pa_cons (pe_op op_sub (pe_callB call_len_seq rfl m_len (by decide +kernel) (pa_cons (pv 0) pa_nil)) pe_int) pa_nil))) pa_nil))) pa_nil)) (pg_name (i := 4) sc_l_dealt.nd rfl (Or.inl rfl)) (pss_cons (ps_set (i := 5) sc_l_dealt.nd rfl (Or.inl rfl) (pe_ix (ixL (K := K) rfl) (pv 0) (pe_op op_add pe_int (pv 4)) (fun _ _ => rfl)))
      (pss_one (ps_expr (pe_meth (pe_ix (ixL (K := K) rfl) (pv 3) (pe_op op_mod (pe_call G_l_mixed (hr.mono (by decide)) rfl m_l_mixed k_l_mixed b_l_mixed .nil pass0 (pa_cons (pv 5) (pa_cons pe_int pa_nil))) (pv 2)) (fun _ _ => rfl)) U.cl h_Cup_add G_Cup_add (hr.mono (by decide)) b_Cup_add .nil passL (pa_cons (pe_call G_l_reading (hr.mono (by decide)) rfl m_l_reading k_l_reading b_l_reading .nil pass0 (pa_cons (pv 5) pa_nil)) (pa_cons (pe_call G_l_times (hr.mono (by decide)) rfl m_l_times k_l_times b_l_times .nil pass0 (pa_cons (pv 5) (pa_cons (pe_chain op_lt op_lt pe_int (pv 1) pe_int) pa_nil))) pa_nil)))))))
      (pss_one (ps_ret (pv 3))))), ?_⟩
    walk_at "rd"
    refine ⟨(many : Int), rfl, by omega, by omega, ?_⟩
    rw [Int.toNat_natCast]
    intro pc hpc
    refine lc_it (walk_range0 (n := many)) (fun i H' => ∃ A, Same H H' ∧ Cups i C H' A (newS k) ∧ H' pc = some (.lst (cupL i A)) ∧ FreeN i H' A pc ∧ (∀ j, j < i → H (A j).1 = none ∧ H (A j).2 = none) ∧ (∀ j, j < i → ∀ b, Own H' (A j).1 (A j).2 b → H b = none))
      ⟨fun _ => (0, 0), Same.new hpc, ⟨fun i hi => absurd hi (Nat.not_lt_zero _), fun i j hi => absurd hi (Nat.not_lt_zero _), fun i j hi => absurd hi (Nat.not_lt_zero _)⟩, upd_same, fun i hi => absurd hi (Nat.not_lt_zero _), fun i hi => absurd hi (Nat.not_lt_zero _), fun i hi => absurd hi (Nat.not_lt_zero _)⟩
      (fun _ _ _ _ => trivial) (fun i y H1 H2 hi z Y => ?_) (fun H1 z => ?_)
    · obtain ⟨A, s1, T, hL, hF, hnew, hown⟩ := z
      obtain ⟨rfl, rfl⟩ := Y
      walk_at "rd"
      refine ⟨rfl, ?_⟩
      walk_at "rd"
      intro x dx hx hdx ne
      refine mk_cup hx hdx ne hk1 hk2 fun d H3 c3 hd s3 o3 => ?_
      have T3 := T.more s3 c3 hx hd
      rw [newS_put] at T3
      have hL3 := s3 _ _ hL
      have F3 : FreeN (i + 1) H3 (put A i (x, d)) pc := fun j hj g => by
        by_cases e : j = i
        · subst e
          rw [put_here] at g
          have := o3 _ g
          rw [hL] at this
          cases this
        · rw [put_else e] at g
          exact (T.frSame s3).free hF hL j (by omega) g
      refine ⟨_, hL3, by unfold cupL; rw [upL_len, sizeLine_eq]; omega, put A i (x, d), Same.mut (s1.trans s3) hpc, T3.mut F3 hL3, by rw [cupL_put]; exact upd_same, T3.free F3 hL3, fun j hj => ?_, fun j hj b g => ?_⟩
      · by_cases e : j = i
        · subst e
          rw [put_here]
          exact ⟨s1.free hx, s1.free hd⟩
        · rw [put_else e]
          exact hnew j (by omega)
      · obtain ⟨⟨dx', fs', h1⟩, kvs, h2⟩ := (T3.c j hj).kinds
        have g' := (own_upd (ne_of h1 hL3 (by intro z; cases z)) (ne_of h2 hL3 (by intro z; cases z))).mp g
        by_cases e : j = i
        · subst e
          rw [put_here] at g'
          exact s1.free (o3 _ g')
        · rw [put_else e] at g'
          exact hown j (by omega) b ((T.c j (by omega)).ownSame s3 g')
    obtain ⟨A, s1, T, hL, _, hnew, hown⟩ := z
    walk_at "rd"
    refine ⟨by show 2 ≤ sizeLine; decide, fun p6 hp6 => ?_⟩
    have s6 := Same.new (o := .lst [.int 40, .int 5]) hp6
    have h6 : (upd H1 p6 (.lst [.int 40, .int 5])) p6 = some (.lst [.int 40, .int 5]) := upd_same
    have T6 := T.same s6
    have hL6 := s6 _ _ hL
    have s16 := s1.trans s6
    have own6 : ∀ j, j < many → ∀ b, Own (upd H1 p6 (.lst [.int 40, .int 5])) (A j).1 (A j).2 b → H b = none := fun j hj b g => hown j hj b ((T.c j hj).ownSame s6 g)
    generalize upd H1 p6 (.lst [.int 40, .int 5]) = H6 at *
    walk_at "rd"
    refine .inr ⟨_, rfl, ?_⟩
    walk_at "rd"
    have pick : ∀ {Q' : VK}, Q' (.int (manyK k : Int)) H6 → rIxL K (.ref p6) (.int (if decide (9 < (k : Int)) = true then (1 : Int) else 0)) H6 Q' := by
      intro Q' q'
      unfold manyK at q'
      by_cases c : 9 < (k : Int)
      · rw [if_pos c] at q'
        rw [if_pos (decide_eq_true c)]
        exact lst_at (j := 1) h6 rfl q'
      · rw [if_neg c] at q'
        rw [if_neg (by simpa using c)]
        exact lst_at (j := 0) h6 rfl q'
    refine pick ?_
    walk_at "rd"
    refine ⟨a, _, rfl, .inl (s16.seq ha), ?_⟩
    rw [List.length_map]
    walk_at "rd"
    refine ⟨_, _, rfl, ?_⟩
    walk_at "rd"
    refine ⟨_, _, rfl, ?_⟩
    have hM := manyK_le k
    have eM : (if (if 0 < (ns.length : Int) - 3 then (ns.length : Int) - 3 else 0) < (manyK k : Int) then (if 0 < (ns.length : Int) - 3 then (ns.length : Int) - 3 else 0) else (manyK k : Int)) = (((cellsK k ns).length : Nat) : Int) := by
      rw [cellsK_len]
      split <;> split <;> omega
    walk_at "rd"
    first
      | rw [eM]
      | (simp only [gt_iff_lt]; rw [eM])
    refine ⟨(((cellsK k ns).length : Nat) : Int), rfl, by omega, by rw [cellsK_len]; omega, ?_⟩
    rw [Int.toNat_natCast]
    have csl : (cellsK k ns).length ≤ 40 := by rw [cellsK_len]; omega
    have hget : ∀ j, j < (cellsK k ns).length → (ns.map V.int)[3 + j]? = some (.int ((cellsK k ns).getD j 0)) := fun j hj => by
      rw [cellsK_len] at hj
      unfold cellsK
      rw [List.getD_eq_getElem?_getD, List.getElem?_take_of_lt (by omega), List.getElem?_drop, List.getElem?_map, List.getElem?_eq_getElem (by omega)]
      rfl
    generalize cellsK k ns = cs at *
    refine for_go (walk_range0 (n := cs.length)) (fun j σ H' => ∃ S R, Same H H' ∧ H' pc = some (.lst (cupL many A)) ∧ Dealt many k (j * 1000000000) C H H' A S R ∧ sumF R (List.range many) = rowC (fun c => timesM c (greatK k)) (cs.take j) ∧
        ∃ v4 v5, σ = [some (.ref a), some (.int (k : Int)), some (.int (many : Int)), some (.ref pc), v4, v5])
      ⟨newS k, newR, s16, hL6, ⟨T6, fun i _ => Good.new hk1 hk2, fun _ _ => rfl, fun _ _ => RowIn.nil, fun _ _ => Nat.zero_le _, hnew, own6⟩, sumF_nil _, _, _, rfl⟩ (fun _ _ _ _ _ => trivial) (fun j y σ H7 H8 hj z Y => ?_) (fun σ H7 z => ?_)
    · obtain ⟨S, R, s7, hL7, d7, sum7, v4, v5, rfl⟩ := z
      obtain ⟨rfl, rfl⟩ := Y
      have hcell := hget j hj
      have htk : cs.take (j + 1) = cs.take j ++ [cs[j]] := by rw [List.take_succ_eq_append_getElem hj]
      have e0 : cs.getD j 0 = cs[j] := by rw [List.getD_eq_getElem?_getD, List.getElem?_eq_getElem hj]; rfl
      rw [e0] at hcell
      rw [htk, rowC_snoc]
      generalize cs[j] = c at *
      walk_at "rd"
      refine ⟨a, _, _, _, rfl, rfl, s7.seq ha, at_of (j := 3 + j) (by omega) hcell, ?_⟩
      walk_at "rd"
      refine ⟨c, 9, rfl, by decide, ?_⟩
      have hm0 := mixM_lo c 9
      generalize mixM c 9 = mx at *
      have hmany : (0 : Int) < (many : Int) := by omega
      walk_at "rd"
      have p0 := Int.emod_nonneg mx (by omega : (many : Int) ≠ 0)
      have p1 := Int.emod_lt_of_pos mx hmany
      obtain ⟨i, hi⟩ := Int.eq_ofNat_of_zero_le p0
      rw [hi] at p1 ⊢
      have hi' : i < many := by omega
      refine up_at hL7 hi' ?_
      obtain ⟨dx, l, hp, _⟩ := id (d7.t.c i hi')
      refine meth_at hp (by decide +kernel) (by decide +kernel) (by decide +kernel) ?_
      walk_at "rd"
      refine ⟨c, rfl, fun H9 s9 => ?_⟩
      have hri := readM_in c
      have d9 : Dealt many k (j * 1000000000) C H H9 A S R := ⟨d7.t.same s9, d7.g, d7.k, d7.ri, d7.c, d7.new, fun i hi b g => d7.own i hi b ((d7.t.c i hi).ownSame s9 g)⟩
      have hL9 := s9 _ _ hL7
      have s79 := s7.trans s9
      -- behind the times
      have rest : ∀ (t : Nat), (t : Int) = timesM c (greatK k) → 1 ≤ t → t ≤ 1000000000 → ∀ (H10 : Hp), Same H9 H10 → ∀ (Q' : VK) (E' : XK), (∀ H11 S' R', Same H H11 → H11 pc = some (.lst (cupL many A)) → Dealt many k ((j + 1) * 1000000000) C H H11 A S' R' → sumF R' (List.range many) = (rowC (fun c => timesM c (greatK k)) (cs.take j)).add (Row.one (readM c) (timesM c (greatK k))) → Q' .non H11) →
          sp_Cup_add K C C_BadReading C_BadTimes [.ref (A i).1, .int (readM c), .int (t : Int)] H10 Q' E' := by
        intro t ht t1 t2 H10 s10 Q' E' hq
        have T10 := d9.t.same s10
        have cb := d9.c i hi'
        have hjb : j * 1000000000 ≤ 40 * 1000000000 := Nat.mul_le_mul_right _ (by omega)
        refine ⟨_, _, _, _, S i, rfl, T10.c i hi', (d9.g i hi').wf (by omega), .inl ⟨_, t, rfl, rfl, hri, t1, t2, fun H11 c11 f11 o11 => ?_⟩⟩
        have s0 := s79.trans s10
        have keep : Same H H11 := fun b o hb => f11 _ _ (s0 _ _ hb) (fun e => by have := (d9.new i hi').1; rw [← e, hb] at this; cases this) (fun e => by have := (d9.new i hi').2; rw [← e, hb] at this; cases this)
        have fN := T10.frOf hi' f11 o11 fun _ z => False.elim z
        refine hq H11 (put S i ((S i).add (readM c) t)) (put R i ((R i).add (Row.one (readM c) (t : Int)))) keep (((T10.c i hi').immF f11).1 _ _ (s10 _ _ hL9)) ⟨T10.put hi' f11 c11, fun x hx => ?_, fun x hx => ?_, fun x hx => ?_, fun x hx => ?_, d9.new, fun x hx b g => ?_⟩ ?_
        · by_cases e : x = i
          · subst e; rw [put_here, put_here]; exact (d9.g x hx).add
          · rw [put_else e, put_else e]; exact d9.g x hx
        · by_cases e : x = i
          · subst e; rw [put_here, add_keep]; exact d9.k x hx
          · rw [put_else e]; exact d9.k x hx
        · by_cases e : x = i
          · subst e; rw [put_here]; exact (d9.ri x hx).add (RowIn.one hri)
          · rw [put_else e]; exact d9.ri x hx
        · by_cases e : x = i
          · subst e; rw [put_here, add_count (d9.g x hx)]; omega
          · have e9 : put S i ((S i).add (readM c) t) x = S x := put_else e
            have h9 := d9.c x hx
            rw [← e9] at h9
            exact Nat.le_trans h9 (Nat.mul_le_mul_right _ (Nat.le_succ j))
        · rcases fN.ow x hx b g with ⟨z, hz, g2⟩ | g2
          · exact d9.own z hz b ((d9.t.c z hz).ownSame s10 g2)
          · exact s0.free g2
        · rw [sumF_put List.nodup_range (List.mem_range.mpr hi'), sum7, ht]
      walk_at "rd"
      refine if_d (fun c9 => ?_) (fun c9 => ?_)
      · have eg : decide ((k : Int) < 16) = greatK k := by unfold greatK; rw [decide_eq_true c9]; rfl
        walk_at "rd"
        refine ⟨c, _, rfl, fun t ht t1 t2 H10 s10 => ?_⟩
        rw [eg] at ht
        walk_at "rd"
        refine rest t ht t1 (by have := timesM_in c (greatK k); omega) H10 s10 _ _ fun H11 S' R' sx hx dx' sumx => ?_
        walk_at "rd"
        exact ⟨S', R', sx, hx, dx', sumx, _, _, rfl⟩
      · have eg : false = greatK k := by unfold greatK; rw [decide_eq_false c9]; rfl
        walk_at "rd"
        refine ⟨c, _, rfl, fun t ht t1 t2 H10 s10 => ?_⟩
        rw [eg] at ht
        walk_at "rd"
        refine rest t ht t1 (by have := timesM_in c (greatK k); omega) H10 s10 _ _ fun H11 S' R' sx hx dx' sumx => ?_
        walk_at "rd"
        exact ⟨S', R', sx, hx, dx', sumx, _, _, rfl⟩
    · obtain ⟨S, R, s7, hL7, d7, sum7, v4, v5, rfl⟩ := z
      rw [List.take_length] at sum7
      have hjb : cs.length * 1000000000 ≤ 40 * 1000000000 := Nat.mul_le_mul_right _ csl
      walk_at "rd"
      exact q pc A S R H7 hpc s7 hL7 ⟨d7.t, d7.g, d7.k, d7.ri, fun i hi => Nat.le_trans (d7.c i hi) hjb, d7.new, d7.own⟩ sum7
end
end RB

namespace RB
open PySem PySem.Spec PyProof.Rows L2
section
variable {P : Program} {w : World} {K : PySem.W.Frag} {mg : Str → Option Value} {base : Heap} {C C_UnlikeCups : Addr}
theorem nodup_erase : ∀ {l : List Nat} {i : Nat} (h : i < l.length), l.Nodup → l[i] ∉ l.eraseIdx i
  | [], _, h, _ => absurd h (Nat.not_lt_zero _)
  | x :: t, 0, _, nd => (List.nodup_cons.mp nd).1
  | x :: t, i + 1, h, nd => by
    have h' : i < t.length := by simpa using h
    obtain ⟨n1, n2⟩ := List.nodup_cons.mp nd
    show t[i] ∉ x :: t.eraseIdx i
    intro z
    rcases List.mem_cons.mp z with e | e
    · exact n1 (by rw [← e]; exact List.getElem_mem h')
    · exact nodup_erase h' n2 e
/-- what stands while the cups are poured together; H0 is the start -/
structure Tog (many k N : Nat) (C : Addr) (H0 H : Hp) (ph pl : Addr) (A : Nat → Addr × Addr) (S : Nat → CupM) (R : Nat → Row) (js : List Nat) (xs : List V) (hs : List (List E)) (T : Row) : Prop where
  t : Cups many C H A S
  g : ∀ i, i < many → Good (S i) (R i)
  k : ∀ i, i < many → (S i).keep = k
  ri : ∀ i, i < many → RowIn (R i)
  c : ∀ i, i < many → (S i).count ≤ N
  lt : ∀ j ∈ js, j < many
  nd : js.Nodup
  l : H pl = some (.lst (pickL A js))
  h : H ph = some (.lst xs)
  hv : HeldW H ph pl xs hs
  fh : FreeN many H A ph
  fl : FreeN many H A pl
  ne : pl ≠ ph
  sum : sumF R js = T
  fr : ∀ b o, H0 b = some o → b ≠ ph → (∀ i, i < many → b ≠ (A i).1 ∧ b ≠ (A i).2) → H b = some o
  nl : H0 pl = none
theorem Tog.same {many k N : Nat} {H0 H H' : Hp} {ph pl : Addr} {A : Nat → Addr × Addr} {S : Nat → CupM} {R : Nat → Row} {js : List Nat} {xs : List V} {hs : List (List E)} {T : Row} (w : Tog many k N C H0 H ph pl A S R js xs hs T) (s : Same H H') : Tog many k N C H0 H' ph pl A S R js xs hs T :=
  ⟨w.t.same s, w.g, w.k, w.ri, w.c, w.lt, w.nd, s _ _ w.l, s _ _ w.h, w.hv.same s, (w.t.frSame s).free w.fh w.h, (w.t.frSame s).free w.fl w.l, w.ne, w.sum, fun b o h1 h2 h3 => s _ _ (w.fr b o h1 h2 h3), w.nl⟩
theorem ok_l_together (D : DefAt K mg "_law_together" S_l_together ["_law_cups", "_law_cell_here", "_law_held_here"]) (m_list : mg "list" = none) (m_len : mg "len" = none) (m_repr : mg "repr" = none) (U : CupC K mg C) (c_Cup_kept : CalM P w K mg base CX0 5 C "kept" ["self"] (sp_Cup_kept C))
    (c_Cup_pour : CalM P w K mg base (L2.CX P w) 7 C "pour" ["self", "other"] (sp_Cup_pour C C_UnlikeCups)) (c_l_mixed : Cal P w K mg base CX0 1 "_law_mixed" ["_law_cell_here", "_law_k"] sp_l_mixed) : CalG P w K mg base CX0 8 "_law_together" ["_law_cups", "_law_cell_here", "_law_held_here"] (sp_l_together C) := by
  obtain ⟨f, fd, F, m, b⟩ := D.ex
  obtain ⟨f_Cup_kept, fd_Cup_kept, G_Cup_kept, h_Cup_kept, b_Cup_kept⟩ := c_Cup_kept
  obtain ⟨f_Cup_pour, fd_Cup_pour, G_Cup_pour, h_Cup_pour, b_Cup_pour⟩ := c_Cup_pour
  obtain ⟨f_l_mixed, fd_l_mixed, G_l_mixed, m_l_mixed, k_l_mixed, b_l_mixed⟩ := c_l_mixed
  refine ⟨f, fd, okG F sc_l_together (fun vs H Q E h => ?_) (fun cdv A outer s H vs Q E hr quiet h => ?_), m, F.kp, b⟩
  · obtain ⟨pc, ph, c, A, S, R, k, many, xs, hs, rfl, _⟩ := h
    rfl
  · obtain ⟨pc, ph, c, A, S, R, k, many, xs, hs, rfl, hm1, hm2, hL, hT, hg, hk, hri, hc, hsum, hx, hH, hF, hxl, q⟩ := h
    refine ⟨_, (pss_cons (ps_set (i := 3) sc_l_together.nd rfl (Or.inl rfl) (pe_callTy call_list_of rfl m_list (by decide +kernel) (pa_cons (pv 0) pa_nil)))
      (pss_cons (ps_while PassesOwn.never (pt_cmpR op_gt (pe_callB call_len_seq rfl m_len (by decide +kernel) (pa_cons (pv 3) pa_nil)) pe_int (nomark _)) (pss_cons (ps_set (i := 4) sc_l_together.nd rfl (Or.inl rfl) (pe_bm PySem.F.plainAttrs_list PySem.F.slot_list_pop PySem.F.type_list_pop mt_popAt (pv 3) (pa_cons (pe_op op_mod (pe_call G_l_mixed (hr.mono (by decide)) rfl m_l_mixed k_l_mixed b_l_mixed .nil pass0 (pa_cons (pv 1) (pa_cons (pe_callB call_len_seq rfl m_len (by decide +kernel) (pa_cons (pv 3) pa_nil)) pa_nil))) (pe_callB call_len_seq rfl m_len (by decide +kernel) (pa_cons (pv 3) pa_nil))) pa_nil)))
      (pss_cons (ps_set (i := 5) sc_l_together.nd rfl (Or.inl rfl) (pe_ix (ixL (K := K) rfl) (pv 3) (pe_op op_mod (pe_call G_l_mixed (hr.mono (by decide)) rfl m_l_mixed k_l_mixed b_l_mixed .nil pass0 (pa_cons (pv 1) (pa_cons (pe_op op_add pe_int (pe_callB call_len_seq rfl m_len (by decide +kernel) (pa_cons (pv 3) pa_nil))) pa_nil))) (pe_callB call_len_seq rfl m_len (by decide +kernel) (pa_cons (pv 3) pa_nil))) (fun _ _ => rfl)))
      (pss_cons (ps_set (i := 6) sc_l_together.nd rfl (Or.inl rfl) (pe_meth0 (pv 4) U.cl h_Cup_kept G_Cup_kept (hr.mono (by decide)) b_Cup_kept .nil pass0))
      (pss_cons (ps_expr (pe_bm PySem.F.plainAttrs_list PySem.F.slot_list_append PySem.F.type_list_append mt_append (pv 2) (pa_cons (pe_tup (pa_cons (pv 6) (pa_cons (pe_callB (RB.call_reprK (K := K) rfl quiet hr.units) rfl m_repr (by decide +kernel) (pa_cons (pv 6) pa_nil)) pa_nil))) pa_nil)))
      (pss_cons (ps_expr (pe_meth (pv 5) U.cl h_Cup_pour G_Cup_pour (hr.mono (by decide)) b_Cup_pour .nil passL (pa_cons (pv 4) pa_nil)))
      (pss_cons (ps_set (i := 7) sc_l_together.nd rfl (Or.inl rfl) (pe_meth0 (pv 4) U.cl h_Cup_kept G_Cup_kept (hr.mono (by decide)) b_Cup_kept .nil pass0))
      (pss_one (ps_if (pt_cmpR op_ne (pe_callB (RB.call_reprK (K := K) rfl quiet hr.units) rfl m_repr (by decide +kernel) (pa_cons (pv 7) pa_nil)) (pe_callB (RB.call_reprK (K := K) rfl quiet hr.units) rfl m_repr (by decide +kernel) (pa_cons (pv 6) pa_nil)) (nomark _)) (pss_one (ps_ret pe_non)) pss_nil)))))))))
      (pss_one (ps_ret (pe_ix (ixL (K := K) rfl) (pv 3) pe_int (fun _ _ => rfl)))))), ?_⟩
    walk_at "rd"
    refine ⟨pc, _, rfl, .inl (SqL.of hL), fun pl hpl => ?_⟩
    have s1 := Same.new (o := .lst (cupL many A)) hpl
    have h1 : (upd H pl (.lst (cupL many A))) pl = some (.lst (pickL A (List.range many))) := upd_same
    obtain ⟨N, hN, hN63⟩ : ∃ N : Nat, (sumF R (List.range many)).n = (N : Int) ∧ N < 2 ^ 63 := by
      have z := (sumF_n (R := R) (js := List.range many) fun j hj => by rw [(hg j (List.mem_range.mp hj)).n]; omega).1
      exact ⟨(sumF R (List.range many)).n.toNat, by omega, by omega⟩
    have hcN : ∀ i, i < many → (S i).count ≤ N := fun i hi => by
      have z := (sumF_n (R := R) (js := List.range many) fun j hj => by rw [(hg j (List.mem_range.mp hj)).n]; omega).2 i (List.mem_range.mpr hi)
      rw [(hg i hi).n, hN] at z
      omega
    have W1 : Tog many k N C H (upd H pl (.lst (cupL many A))) ph pl A S R (List.range many) xs hs (sumF R (List.range many)) :=
      ⟨hT.same s1, hg, hk, hri, hcN, fun j hj => List.mem_range.mp hj, List.nodup_range, h1, s1 _ _ hx, (hH.toW hpl).same s1, (hT.frSame s1).free hF hx, fun i hi => (hT.c i hi).fresh s1 hpl, (fun e => by rw [e, hx] at hpl; cases hpl), rfl, fun b o h1 _ _ => s1 _ _ h1, hpl⟩
    generalize hT0 : sumF R (List.range many) = T at *
    generalize upd H pl (.lst (cupL many A)) = H1 at *
    walk_at "rd"
    refine ⟨fun m σ H' => ∃ js S R xs' hs', js.length = m ∧ 1 ≤ m ∧ m ≤ many ∧ Tog many k N C H H' ph pl A S R js xs' hs' T ∧ xs'.length + m ≤ xs.length + many ∧ ∃ v4 v5 v6 v7, σ = [some (.ref pc), some (.int c), some (.ref ph), some (.ref pl), v4, v5, v6, v7],
      ⟨many, List.range many, S, R, xs, hs, List.length_range, hm1, Nat.le_refl _, W1, Nat.le_refl _, _, _, _, _, rfl⟩, fun m σ H' hw => ?_⟩
    clear W1 h1 s1 hcN hT hg hk hri hc hF hH hx hL
    obtain ⟨js, S, R, xs', hs', jl, m1, mm, W, hlen, v4, v5, v6, v7, rfl⟩ := hw
    walk_at "rd"
    refine ⟨pl, _, rfl, .inl (SqL.of W.l), ?_⟩
    rw [pickL_len, jl]
    walk_at "rd"
    refine if_d (fun c1 => ?_) (fun c1 => ?_)
    · have hm : 1 < m := by omega
      refine ⟨fun σ H'' => ∃ m', m' < m ∧ ∃ js S R xs' hs', js.length = m' ∧ 1 ≤ m' ∧ m' ≤ many ∧ Tog many k N C H H'' ph pl A S R js xs' hs' T ∧ xs'.length + m' ≤ xs.length + many ∧ ∃ v4 v5 v6 v7, σ = [some (.ref pc), some (.int c), some (.ref ph), some (.ref pl), v4, v5, v6, v7], fun _ _ h => h, ?_⟩
      have hmz : (0 : Int) < (m : Int) := by omega
      walk_at "rd"
      refine ⟨ty_lst W.l, ?_⟩
      walk_at "rd"
      refine ⟨pl, _, rfl, .inl (SqL.of W.l), ?_⟩
      rw [pickL_len, jl]
      walk_at "rd"
      refine ⟨c, (m : Int), rfl, ⟨by omega, by omega⟩, ?_⟩
      have hm0 := mixM_lo c (m : Int)
      generalize mixM c (m : Int) = mx at *
      walk_at "rd"
      refine ⟨pl, _, rfl, .inl (SqL.of W.l), ?_⟩
      rw [pickL_len, jl]
      walk_at "rd"
      have p0 := Int.emod_nonneg mx (by omega : (m : Int) ≠ 0)
      have p1 := Int.emod_lt_of_pos mx hmz
      obtain ⟨i, hi⟩ := Int.eq_ofNat_of_zero_le p0
      rw [hi] at p1 ⊢
      have hi' : i < js.length := by omega
      refine ⟨pl, _, _, i, _, rfl, rfl, W.l, by omega, by omega, by rw [pickL_len]; exact ix_nat hi', pickL_get hi', ?_⟩
      rw [pickL_erase]
      -- one is taken out
      have hj1 := W.lt _ (List.getElem_mem hi')
      have sumE := sumF_erase (R := R) hi'
      rw [W.sum] at sumE
      have hnot := nodup_erase hi' W.nd
      have jsE : ∀ j ∈ js.eraseIdx i, j < many := fun j hj => W.lt j (List.mem_of_mem_eraseIdx hj)
      have ndE : (js.eraseIdx i).Nodup := W.nd.sublist (List.eraseIdx_sublist js i)
      have lenE : (js.eraseIdx i).length = m - 1 := by rw [List.length_eraseIdx_of_lt hi', jl]
      generalize js[i] = j1 at *
      have hvM : HeldW (upd H' pl (.lst (pickL A (js.eraseIdx i)))) ph pl xs' hs' := W.hv.imm (fun a ys h _ n2 => by rw [upd_ne n2]; exact h) fun a ys h => by rw [upd_ne (ne_of h W.l (by intro z; cases z))]; exact h
      have W2 : Tog many k N C H (upd H' pl (.lst (pickL A (js.eraseIdx i)))) ph pl A S R (js.eraseIdx i) xs' hs' (sumF R (js.eraseIdx i)) :=
        ⟨W.t.mut W.fl W.l, W.g, W.k, W.ri, W.c, jsE, ndE, upd_same, by rw [upd_ne (Ne.symm W.ne)]; exact W.h, hvM, W.t.free W.fh W.l, W.t.free W.fl W.l, W.ne, rfl, fun b o h1 h2 h3 => by rw [upd_ne (fun e => by rw [e, W.nl] at h1; cases h1)]; exact W.fr b o h1 h2 h3, W.nl⟩
      generalize js.eraseIdx i = je at *
      generalize upd H' pl (.lst (pickL A je)) = H2 at *
      clear W hvM
      walk_at "rd"
      refine ⟨pl, _, rfl, .inl (SqL.of W2.l), ?_⟩
      rw [pickL_len, lenE]
      walk_at "rd"
      refine ⟨c, _, rfl, ⟨by omega, by omega⟩, ?_⟩
      have hm0' := mixM_lo c (20 + ((m - 1 : Nat) : Int))
      generalize mixM c (20 + ((m - 1 : Nat) : Int)) = my at *
      walk_at "rd"
      refine ⟨pl, _, rfl, .inl (SqL.of W2.l), ?_⟩
      rw [pickL_len, lenE]
      have hmz' : (0 : Int) < ((m - 1 : Nat) : Int) := by omega
      walk_at "rd"
      have r0 := Int.emod_nonneg my (by omega : ((m - 1 : Nat) : Int) ≠ 0)
      have r1 := Int.emod_lt_of_pos my hmz'
      obtain ⟨i2, hi2⟩ := Int.eq_ofNat_of_zero_le r0
      rw [hi2] at r1 ⊢
      have hi2' : i2 < je.length := by omega
      refine lst_at (j := i2) W2.l (pickL_get hi2') ?_
      have hmem2 := List.getElem_mem hi2'
      have hj2 := W2.lt _ hmem2
      generalize je[i2] = j2 at *
      have hne : j1 ≠ j2 := fun e => hnot (by rw [e]; exact hmem2)
      -- told
      obtain ⟨dx, l, hp, _⟩ := id (W2.t.c j1 hj1)
      have wf := fun i hi => (W2.g i hi).wf (Nat.lt_of_le_of_lt (W2.c i hi) hN63)
      have sm := kept_sm (W2.g j1 hj1) (Nat.lt_of_le_of_lt (W2.c j1 hj1) hN63) (W2.ri j1 hj1)
      have kl := kept_len (W2.g j1 hj1) (Nat.lt_of_le_of_lt (W2.c j1 hj1) hN63)
      obtain ⟨z1, z2, z3, z4⟩ := dEs_show sm kl
      walk_at "rd"
      refine meth_at hp (by decide +kernel) (by decide +kernel) (by decide +kernel) ?_
      walk_at "rd"
      refine ⟨_, _, S j1, rfl, W2.t.c j1 hj1, wf j1 hj1, fun pk H3 hpk s3 E3 => ?_⟩
      have npk : pk ≠ ph := fun e => by have := W2.h; rw [← e, hpk] at this; cases this
      have npl : pk ≠ pl := fun e => by have := W2.l; rw [← e, hpk] at this; cases this
      have W3 := W2.same s3
      walk_at "rd"
      refine ⟨ty_lst W3.h, ?_⟩
      walk_at "rd"
      refine ⟨pk, dEs (S j1).kept, rfl, dp_es E3, z1, z2, z3, z4, ?_⟩
      walk_at "rd"
      refine ⟨by show 2 ≤ sizeLine; decide, fun t ht => ?_⟩
      have s4 := Same.new (o := .tup [.ref pk, .str (dEs (S j1).kept).shown]) ht
      have h4 : (upd H3 t (.tup [.ref pk, .str (dEs (S j1).kept).shown])) t = some (.tup [.ref pk, .str (dEs (S j1).kept).shown]) := upd_same
      have E4 := E3.same s4
      have W4 := W3.same s4
      generalize upd H3 t (.tup [.ref pk, .str (dEs (S j1).kept).shown]) = H4 at *
      walk_at "rd"
      refine ⟨ph, xs', _, rfl, rfl, W4.h, by rw [sizeLine_eq]; omega, ?_⟩
      have hS := W4.hv.snoc h4 E4 npk npl sm kl
      have E5 : Ents (upd H4 ph (.lst (xs' ++ [.ref t]))) pk (S j1).kept := E4.mutL npk W4.h
      have W5 : Tog many k N C H (upd H4 ph (.lst (xs' ++ [.ref t]))) ph pl A S R je (xs' ++ [.ref t]) (hs' ++ [(S j1).kept]) (sumF R je) :=
        ⟨W4.t.mut W4.fh W4.h, W4.g, W4.k, W4.ri, W4.c, W4.lt, W4.nd, by rw [upd_ne W4.ne]; exact W4.l, upd_same, hS.imm (fun a ys h n1 _ => by rw [upd_ne n1]; exact h) (fun a ys h => by rw [upd_ne (ne_of h W4.h (by intro z; cases z))]; exact h), W4.t.free W4.fh W4.h, W4.t.free W4.fl W4.h, W4.ne, rfl, fun b o h1 h2 h3 => by rw [upd_ne h2]; exact W4.fr b o h1 h2 h3, W4.nl⟩
      generalize upd H4 ph (.lst (xs' ++ [.ref t])) = H5 at *
      clear W2 W3 W4 hS E3 E4 s3 s4 h4 hpk hp
      walk_at "rd"
      obtain ⟨dx2, l2, hp2, _⟩ := id (W5.t.c j2 hj2)
      refine meth_at hp2 (by decide +kernel) (by decide +kernel) (by decide +kernel) ?_
      walk_at "rd"
      have ek : (S j2).keep = (S j1).keep := by rw [W5.k j2 hj2, W5.k j1 hj1]
      refine ⟨_, _, _, _, S j2, S j1, rfl, W5.t.c j2 hj2, W5.t.c j1 hj1, wf j2 hj2, wf j1 hj1, .inl ⟨ek, fun H6 c6 f6 o6 => ?_⟩⟩
      have g6 := (W5.g j2 hj2).pour (W5.g j1 hj1) ek
      have n6 := (W5.g j2 hj2).pour_count (W5.g j1 hj1) ek
      have im6 := (W5.t.c j2 hj2).immF f6
      have fN := W5.t.frOf hj2 f6 o6 fun b hb => ⟨j1, hj1, hb⟩
      have E6 := E5.imm im6
      have nn : ∀ j ∈ je, 0 ≤ (R j).n := fun j hj => by rw [(W5.g j (W5.lt j hj)).n]; omega
      have two : (S j2).count + (S j1).count ≤ N := by
        have z := (sumF_n nn).2 j2 hmem2
        have e : (T).n = (sumF R je).n + (R j1).n := by rw [sumE]; rfl
        rw [(W5.g j2 hj2).n] at z
        rw [hN, (W5.g j1 hj1).n] at e
        omega
      have W6 : Tog many k N C H H6 ph pl A (put S j2 ((S j2).pour (S j1))) (put R j2 ((R j2).add (R j1))) je (xs' ++ [.ref t]) (hs' ++ [(S j1).kept]) T := by
        refine ⟨W5.t.put hj2 f6 c6, fun x hx => ?_, fun x hx => ?_, fun x hx => ?_, fun x hx => ?_, W5.lt, W5.nd, im6.1 _ _ W5.l, im6.1 _ _ W5.h, W5.hv.imm (fun a ys h _ _ => im6.1 _ _ h) (fun a ys h => im6.2 _ _ h), fN.free W5.fh W5.h, fN.free W5.fl W5.l, W5.ne, ?_, fun b o h1 h2 h3 => f6 _ _ (W5.fr b o h1 h2 h3) (h3 j2 hj2).1 (h3 j2 hj2).2, W5.nl⟩
        · by_cases e : x = j2
          · subst e; rw [put_here, put_here]; exact g6
          · rw [put_else e, put_else e]; exact W5.g x hx
        · by_cases e : x = j2
          · subst e; rw [put_here, pour_keepS]; exact W5.k x hx
          · rw [put_else e]; exact W5.k x hx
        · by_cases e : x = j2
          · subst e; rw [put_here]; exact (W5.ri x hx).add (W5.ri j1 hj1)
          · rw [put_else e]; exact W5.ri x hx
        · by_cases e : x = j2
          · subst e; rw [put_here, n6]; exact two
          · rw [put_else e]; exact W5.c x hx
        · rw [sumF_put W5.nd hmem2, sumE]
      have e1 : put S j2 ((S j2).pour (S j1)) j1 = S j1 := put_else hne
      generalize put S j2 ((S j2).pour (S j1)) = S' at *
      generalize put R j2 ((R j2).add (R j1)) = R' at *
      have c61 := W6.t.c j1 hj1
      rw [e1] at c61
      obtain ⟨dx3, l3, hp3, _⟩ := id c61
      walk_at "rd"
      refine meth_at hp3 (by decide +kernel) (by decide +kernel) (by decide +kernel) ?_
      walk_at "rd"
      refine ⟨_, _, S j1, rfl, c61, wf j1 hj1, fun pk2 H7 hpk2 s7 E7 => ?_⟩
      walk_at "rd"
      refine ⟨pk2, dEs (S j1).kept, rfl, dp_es E7, z1, z2, z3, z4, ?_⟩
      walk_at "rd"
      refine ⟨pk, dEs (S j1).kept, rfl, dp_es (E6.same s7), z1, z2, z3, z4, ?_⟩
      refine r_neS0 ?_
      walk_at "rd"
      refine ⟨m - 1, by omega, je, S', R', _, _, lenE, by omega, by omega, W6.same s7, ?_, _, _, _, _, rfl⟩
      rw [List.length_append]
      show _ + 1 + _ ≤ _
      omega
    · have hm : m = 1 := by omega
      subst hm
      obtain ⟨j, rfl⟩ := List.length_eq_one_iff.mp jl
      have hj := W.lt j (List.mem_singleton.mpr rfl)
      walk_at "rd"
      refine lst_at (j := 0) W.l rfl ?_
      have gj := W.g j hj
      have sj : R j = T := by rw [← W.sum]; exact (Row.add_nil _).symm
      rw [sj] at gj
      exact q _ _ (S j) H' xs' hs' (W.t.c j hj) gj (W.k j hj) (Nat.lt_of_le_of_lt (W.c j hj) hN63) W.h W.hv.toV (by omega) W.fr
end
end RB

namespace RB
open PySem PySem.Spec PyProof.Rows L2
def sp_law (K : PySem.W.Frag) : Sp := fun vs H Q _ => ∃ (a : Addr) (ns : List Int), vs = [.ref a] ∧ SqL K H a (ns.map V.int) ∧ ns.length ≤ 63 ∧ ∀ H', Q (.bl true) H'
abbrev S_law : Stmt := top 43
theorem sc_law : FnScope ["_law_script", "_law_keep_here", "_law_many", "_law_row", "_law_cell_here", "_law_held_here", "_law_turn", "_law_found"] ["_law_script"] (defScope S_law) := ⟨rfl, rfl, rfl, by decide +kernel, rfl, by decide +kernel, by decide +kernel⟩
theorem rowC_n {tm : Int → Int} (h : ∀ c, 1 ≤ tm c ∧ tm c ≤ 1000000000) : ∀ cs : List Int, (rowC tm cs).n ≤ 1000000000 * (cs.length : Int)
  | [] => by show (0 : Int) ≤ _; omega
  | c :: t => by
    have a := rowC_n h t
    have b := h c
    have e : (rowC tm (c :: t)).n = (rowC tm t).n + tm c := rfl
    have l : (((c :: t).length : Nat) : Int) = (t.length : Int) + 1 := by rw [List.length_cons]; omega
    rw [e, l]
    omega
theorem cut_cells (k : Nat) (ns : List Int) : cutV (ns.map V.int) (some (3 : Int)) (some (3 + (manyK k : Int))) = (cellsK k ns).map V.int := by
  have e := cut_ints ns 3 (3 + manyK k)
  rw [show (((3 + manyK k : Nat)) : Int) = 3 + (manyK k : Int) from rfl] at e
  refine e.trans ?_
  unfold cellsK
  by_cases h : 3 ≤ ns.length
  · rw [Nat.min_eq_left h, show min (3 + manyK k) ns.length - 3 = min (manyK k) (ns.length - 3) by omega, ← List.length_drop, ← List.take_eq_take_min]
  · have e1 : ns.drop (min 3 ns.length) = [] := List.drop_of_length_le (by omega)
    have e2 : ns.drop 3 = [] := List.drop_of_length_le (by omega)
    rw [e1, e2, List.take_nil, List.take_nil]
section
variable {P : Program} {w : World} {K : PySem.W.Frag} {mg : Str → Option Value} {base : Heap} {C : Addr}
theorem ok_law {f : Addr} {fd : FuncData} (F : Fun K "law" "law" S_law f fd) (m_range : mg "range" = none) (m_int : mg "int" = none) (c_l_cell : Cal P w K mg base CX0 1 "_law_cell" ["_law_script", "_law_k"] (sp_l_cell K)) (c_l_keep : Cal P w K mg base CX0 1 "_law_keep" ["_law_cell_here"] sp_l_keep)
    (c_l_reading : Cal P w K mg base CX0 2 "_law_reading" ["_law_cell_here"] sp_l_reading) (c_l_times : Cal P w K mg base CX0 2 "_law_times" ["_law_cell_here", "_law_great"] sp_l_times) (c_l_dealt : Cal P w K mg base CX0 8 "_law_dealt" ["_law_script", "_law_keep_here", "_law_many"] (sp_l_dealt K C))
    (c_l_together : CalG P w K mg base CX0 8 "_law_together" ["_law_cups", "_law_cell_here", "_law_held_here"] (sp_l_together C)) (c_l_good : Cal P w K mg base CX0 7 "_law_good" ["_law_cup", "_law_row", "_law_cell_here"] (sp_l_good C)) (c_l_held : CalG P w K mg base CX0 1 "_law_held" ["_law_held_here"] sp_l_held) :
    FnG P w K mg base CX0 9 f fd ["_law_script"] (sp_law K) := by
  obtain ⟨f_l_cell, fd_l_cell, G_l_cell, m_l_cell, k_l_cell, b_l_cell⟩ := c_l_cell
  obtain ⟨f_l_keep, fd_l_keep, G_l_keep, m_l_keep, k_l_keep, b_l_keep⟩ := c_l_keep
  obtain ⟨f_l_reading, fd_l_reading, G_l_reading, m_l_reading, k_l_reading, b_l_reading⟩ := c_l_reading
  obtain ⟨f_l_times, fd_l_times, G_l_times, m_l_times, k_l_times, b_l_times⟩ := c_l_times
  obtain ⟨f_l_dealt, fd_l_dealt, G_l_dealt, m_l_dealt, k_l_dealt, b_l_dealt⟩ := c_l_dealt
  obtain ⟨f_l_together, fd_l_together, G_l_together, m_l_together, k_l_together, b_l_together⟩ := c_l_together
  obtain ⟨f_l_good, fd_l_good, G_l_good, m_l_good, k_l_good, b_l_good⟩ := c_l_good
  obtain ⟨f_l_held, fd_l_held, G_l_held, m_l_held, k_l_held, b_l_held⟩ := c_l_held
  refine okG F sc_law (fun vs H Q E h => ?_) (fun cdv A outer s H vs Q E hr quiet h => ?_)
  · obtain ⟨a, ns, rfl, _⟩ := h
    rfl
  · obtain ⟨a, ns, rfl, ha, hl, q⟩ := h
    have fin : ∀ H', Q (.bl true) H' := q
    clear q
    refine ⟨_, (pss_cons (ps_set (i := 1) sc_law.nd rfl (Or.inl rfl) (pe_call G_l_keep (hr.mono (by decide)) rfl m_l_keep k_l_keep b_l_keep .nil pass0 (pa_cons (pe_call G_l_cell (hr.mono (by decide)) rfl m_l_cell k_l_cell b_l_cell .nil pass0 (pa_cons (pv 0) (pa_cons pe_int pa_nil))) pa_nil)))
      (pss_cons (ps_set (i := 2) sc_law.nd rfl (Or.inl rfl) (pe_op op_add pe_int (pe_op op_mod (pe_call G_l_cell (hr.mono (by decide)) rfl m_l_cell k_l_cell b_l_cell .nil pass0 (pa_cons (pv 0) (pa_cons pe_int pa_nil))) pe_int)))
      (pss_cons (ps_set (i := 3) sc_law.nd rfl (Or.inl rfl) pe_dnewK)
      (pss_cons (ps_for PassesOwn.never rfl (pi_list (pe_slice sl_list (pv 0) (po_some pe_int) (po_some (pe_op op_add pe_int (pe_ix (ixL (K := K) rfl) (pe_lst (pa_cons pe_int (pa_cons pe_int pa_nil))) (pe_callTy call_int1 rfl m_int (by decide +kernel) (pa_cons (pe_cmpR op_gt (pv 1) pe_int (nomark _)) pa_nil)) (fun _ _ => rfl)))))) (pg_name (i := 4) sc_law.nd rfl (Or.inl rfl)) (pss_one (ps_dput (hu_of hr) (pv 3) (pe_call G_l_reading (hr.mono (by decide)) rfl m_l_reading k_l_reading b_l_reading .nil pass0 (pa_cons (pv 4) pa_nil)) (pe_op op_add (pe_dget2 (hu_of hr) (pv 3) (pe_call G_l_reading (hr.mono (by decide)) rfl m_l_reading k_l_reading b_l_reading .nil pass0 (pa_cons (pv 4) pa_nil)) pe_int ⟨rfl, rfl, rfl, rfl⟩) (pe_call G_l_times (hr.mono (by decide)) rfl m_l_times k_l_times b_l_times .nil pass0 (pa_cons (pv 4) (pa_cons (pe_chain op_lt op_lt pe_int (pv 1) pe_int) pa_nil)))) rfl)))
      (pss_cons (ps_set (i := 5) sc_law.nd rfl (Or.inl rfl) (pe_lst pa_nil))
      (pss_cons (ps_for PassesOwn.never rfl (pi_range1 rfl m_range (pa_cons pe_int pa_nil)) (pg_name (i := 6) sc_law.nd rfl (Or.inl rfl)) (pss_cons (ps_set (i := 7) sc_law.nd rfl (Or.inl rfl) (RB.pe_callG G_l_together quiet (hr.mono (by decide)) rfl m_l_together k_l_together b_l_together (pa_cons (pe_call G_l_dealt (hr.mono (by decide)) rfl m_l_dealt k_l_dealt b_l_dealt .nil pass0 (pa_cons (pv 0) (pa_cons (pv 1) (pa_cons (pv 2) pa_nil)))) (pa_cons (pe_op op_add (pe_call G_l_cell (hr.mono (by decide)) rfl m_l_cell k_l_cell b_l_cell .nil pass0 (pa_cons (pv 0) (pa_cons pe_int pa_nil))) (pv 6)) (pa_cons (pv 5) pa_nil)))))
      (pss_one (ps_if (PW.pt (pw_or (pt_cmp (pc_isN (pv 7))) (pw_or1 (pt_not (pt_val (pe_call G_l_good (hr.mono (by decide)) rfl m_l_good k_l_good b_l_good .nil pass0 (pa_cons (pv 7) (pa_cons (pv 3) (pa_cons (pe_op op_add (pe_op op_fdiv (pe_call G_l_cell (hr.mono (by decide)) rfl m_l_cell k_l_cell b_l_cell .nil pass0 (pa_cons (pv 0) (pa_cons pe_int pa_nil))) pe_int) (pv 6)) pa_nil))))))))) (pss_one (ps_ret pe_bl)) pss_nil))))
      (pss_one (ps_ret (pe_and (pe_call G_l_good (hr.mono (by decide)) rfl m_l_good k_l_good b_l_good .nil pass0 (pa_cons (pe_ix (ixL (K := K) rfl) (pe_call G_l_dealt (hr.mono (by decide)) rfl m_l_dealt k_l_dealt b_l_dealt .nil pass0 (pa_cons (pv 0) (pa_cons (pv 1) (pa_cons pe_int pa_nil)))) pe_int (fun _ _ => rfl)) (pa_cons (pv 3) (pa_cons (pe_call G_l_cell (hr.mono (by decide)) rfl m_l_cell k_l_cell b_l_cell .nil pass0 (pa_cons (pv 0) (pa_cons pe_int pa_nil))) pa_nil)))) (pe_one (RB.pe_callG G_l_held quiet (hr.mono (by decide)) rfl m_l_held k_l_held b_l_held (pa_cons (pv 5) pa_nil)))))))))))), ?_⟩
    walk_at "rd"
    refine ⟨a, ns, 0, rfl, ha, by decide, ?_⟩
    walk_at "rd"
    refine ⟨_, rfl, fun k hk1 hk2 => ?_⟩
    walk_at "rd"
    refine ⟨a, ns, 1, rfl, ha, by decide, ?_⟩
    generalize cellM ns 1 = c1 at *
    walk_at "rd"
    obtain ⟨M, hM, hM1, hM2⟩ : ∃ M : Nat, 1 + c1 % 6 = (M : Int) ∧ 1 ≤ M ∧ M ≤ 6 := ⟨(1 + c1 % 6).toNat, by omega, by omega, by omega⟩
    rw [hM]
    intro q hq
    have s1 := Same.new (o := .dK []) hq
    have hq1 : (upd H q (.dK [])) q = some (.dK (List.map kvI [])) := upd_same
    generalize upd H q (.dK []) = H1 at *
    walk_at "rd"
    refine ⟨by show 2 ≤ sizeLine; decide, fun p6 hp6 => ?_⟩
    have s6 := Same.new (o := .lst [.int 40, .int 5]) hp6
    have h6 : (upd H1 p6 (.lst [.int 40, .int 5])) p6 = some (.lst [.int 40, .int 5]) := upd_same
    have hq6 := s6 _ _ hq1
    have s16 := s1.trans s6
    generalize upd H1 p6 (.lst [.int 40, .int 5]) = H6 at *
    walk_at "rd"
    refine .inr ⟨_, rfl, ?_⟩
    walk_at "rd"
    have pick : ∀ {Q' : VK}, Q' (.int (manyK k : Int)) H6 → rIxL K (.ref p6) (.int (if decide (9 < (k : Int)) = true then (1 : Int) else 0)) H6 Q' := by
      intro Q' q'
      unfold manyK at q'
      by_cases c : 9 < (k : Int)
      · rw [if_pos c] at q'
        rw [if_pos (decide_eq_true c)]
        exact lst_at (j := 1) h6 rfl q'
      · rw [if_neg c] at q'
        rw [if_neg (by simpa using c)]
        exact lst_at (j := 0) h6 rfl q'
    refine pick ?_
    walk_at "rd"
    refine ⟨a, _, rfl, s16.seq ha, fun p7 hp7 => ?_⟩
    rw [cut_cells]
    have s7 := Same.new (o := .lst ((cellsK k ns).map V.int)) hp7
    have h7 : (upd H6 p7 (.lst ((cellsK k ns).map V.int))) p7 = some (.lst ((cellsK k ns).map V.int)) := upd_same
    have hq7 := s7 _ _ hq6
    have s17 := s16.trans s7
    have csl : (cellsK k ns).length ≤ 40 := by have := manyK_le k; rw [cellsK_len]; omega
    generalize hcs : cellsK k ns = cs at *
    generalize upd H6 p7 (.lst (cs.map V.int)) = H7 at *
    walk_at "rd"
    refine ⟨p7, rfl, ⟨_, SqL.of h7⟩, ?_⟩
    have hUin : ∀ x ∈ cs.map readM, InR x := fun x hx => by
      obtain ⟨c, _, rfl⟩ := List.mem_map.mp hx
      exact readM_in c
    refine for_go (walk_list (xs := cs.map V.int)) (fun j σ H' => ∃ Dr, H' q = some (.dK (Dr.map kvI)) ∧ FrB H7 H' q ∧ RowOk Dr (cs.map readM) ∧ rowD Dr = rowC (fun c => timesM c (greatK k)) (cs.take j) ∧ ∃ v4, σ = [some (.ref a), some (.int (k : Int)), some (.int (M : Int)), some (.ref q), v4, none, none, none])
      ⟨[], hq7, FrB.refl _ _, RowOk.nil _, rfl, _, rfl⟩ (fun j σ H' _ z => by obtain ⟨_, _, z1, _⟩ := z; exact SqL.of ((z1.imm hq7).1 _ _ h7)) (fun j x σ H8 H9 hj z Y => ?_) (fun σ H8 z => ?_)
    · obtain ⟨Dr, hqd, f8, okr, rowr, v4, rfl⟩ := z
      obtain ⟨rfl, ex⟩ := Y
      rw [List.length_map] at hj
      rw [List.getElem?_map, List.getElem?_eq_getElem hj] at ex
      cases ex
      have htk : cs.take (j + 1) = cs.take j ++ [cs[j]] := by rw [List.take_succ_eq_append_getElem hj]
      have hmem : readM cs[j] ∈ cs.map readM := List.mem_map.mpr ⟨_, List.getElem_mem hj, rfl⟩
      rw [htk, rowC_snoc]
      generalize cs[j] = c at *
      have hDl := okr.len
      rw [List.length_map] at hDl
      walk_at "rd"
      refine ⟨q, rfl, .inl ⟨_, .inl hqd⟩, ?_⟩
      walk_at "rd"
      refine ⟨c, rfl, fun Ha sa => ?_⟩
      walk_at "rd"
      refine ⟨_, DGet.k (k := Sum.inl (readM c)) (sa _ _ hqd), ?_⟩
      rw [getD_kvI]
      walk_at "rd"
      refine if_d (fun c9 => ?_) (fun c9 => ?_)
      · have eg : decide ((k : Int) < 16) = greatK k := by unfold greatK; rw [decide_eq_true c9]; rfl
        walk_at "rd"
        refine ⟨c, _, rfl, fun t ht t1 t2 Hb sb => ?_⟩
        rw [eg] at ht
        walk_at "rd"
        refine ⟨c, rfl, fun Hc sc => ?_⟩
        have hqc := sc _ _ (sb _ _ (sa _ _ hqd))
        walk_at "rd"
        refine ⟨q, _, rfl, DPut.k (k := Sum.inl (readM c)) hqc (by rw [List.length_map, sizeLine_eq]; omega), ?_⟩
        rw [put_kvI]
        have eb : putDD Dr (readM c) ((getDD Dr (readM c)).getD 0 + (t : Int)) = bump Dr (readM c) (t : Int) := rfl
        rw [eb]
        walk_at "rd"
        exact ⟨_, upd_same, ((((f8.trans (FrB.same sa q)).trans (FrB.same sb q)).trans (FrB.same sc q)).trans (FrB.upd _ _ _)), okr.bump hmem (by omega), by rw [bump_row okr.nd, rowr, ht], _, rfl⟩
      · have eg : false = greatK k := by unfold greatK; rw [decide_eq_false c9]; rfl
        walk_at "rd"
        refine ⟨c, _, rfl, fun t ht t1 t2 Hb sb => ?_⟩
        rw [eg] at ht
        walk_at "rd"
        refine ⟨c, rfl, fun Hc sc => ?_⟩
        have hqc := sc _ _ (sb _ _ (sa _ _ hqd))
        walk_at "rd"
        refine ⟨q, _, rfl, DPut.k (k := Sum.inl (readM c)) hqc (by rw [List.length_map, sizeLine_eq]; omega), ?_⟩
        rw [put_kvI]
        have eb : putDD Dr (readM c) ((getDD Dr (readM c)).getD 0 + (t : Int)) = bump Dr (readM c) (t : Int) := rfl
        rw [eb]
        walk_at "rd"
        exact ⟨_, upd_same, ((((f8.trans (FrB.same sa q)).trans (FrB.same sb q)).trans (FrB.same sc q)).trans (FrB.upd _ _ _)), okr.bump hmem (by omega), by rw [bump_row okr.nd, rowr, ht], _, rfl⟩
    · obtain ⟨Dr, hqd, f8, okr, rowr, v4, rfl⟩ := z
      rw [List.length_map, List.take_length] at rowr
      have hDl := okr.len
      rw [List.length_map] at hDl
      have sq8 : SqL K H8 a (ns.map V.int) := seq_frB hq7 f8 (s17.seq ha)
      walk_at "rd"
      refine ⟨by show 0 ≤ sizeLine; decide, fun ph hph => ?_⟩
      have s9 := Same.new (o := .lst []) hph
      have h9 : (upd H8 ph (.lst [])) ph = some (.lst []) := upd_same
      have hq9 := s9 _ _ hqd
      have nq : q ≠ ph := ne_of_none hqd hph
      have hna : (∀ H', SqL K H' a (ns.map V.int)) ∨ a ≠ ph := by
        rcases sq8 with (h | ⟨o, h⟩) | h
        · exact .inr (ne_of_none h hph)
        · exact .inr (ne_of_none h hph)
        · exact .inl fun _ => .inr h
      have sq9 := s9.seq sq8
      generalize upd H8 ph (.lst []) = H9 at *
      have hnC : (rowC (fun c => timesM c (greatK k)) cs).n < 2 ^ 63 := by
        have := rowC_n (tm := fun c => timesM c (greatK k)) (fun c => timesM_in c (greatK k)) cs
        omega
      walk_at "rd"
      refine ⟨2, rfl, by decide, by decide, ?_⟩
      refine for_go (walk_range0 (n := 2)) (fun j σ H' => ∃ xs hs, H' q = some (.dK (Dr.map kvI)) ∧ SqL K H' a (ns.map V.int) ∧ H' ph = some (.lst xs) ∧ HeldV H' ph xs hs ∧ xs.length ≤ 6 * j ∧ ∃ v6 v7, σ = [some (.ref a), some (.int (k : Int)), some (.int (M : Int)), some (.ref q), v4, some (.ref ph), v6, v7])
        ⟨[], [], hq9, sq9, h9, HeldV.nil, Nat.zero_le _, _, _, rfl⟩ (fun _ _ _ _ _ => trivial) (fun j y0 σ HA HB hj z Y => ?_) (fun σ HA z => ?_)
      · obtain ⟨xs, hs, hqA, sqA, hx, hv, hxl, v6, v7, rfl⟩ := z
        obtain ⟨rfl, rfl⟩ := Y
        walk_at "rd"
        refine ⟨a, ns, k, M, rfl, sqA, hl, hk1, hk2, hM1, hM2, fun pc A S R H2 hpc s2 hL dl sum => ?_⟩
        rw [hcs] at sum
        walk_at "rd"
        refine ⟨a, ns, 2, rfl, s2.seq sqA, by decide, ?_⟩
        generalize cellM ns 2 = c2 at *
        walk_at "rd"
        refine ⟨pc, ph, _, A, S, R, k, M, xs, hs, rfl, hM1, hM2, hL, dl.t, dl.g, dl.k, dl.ri, fun i hi => Nat.lt_of_le_of_lt (dl.c i hi) (by decide), by rw [sum]; exact hnC, s2 _ _ hx, hv.imm (fun a ys h _ => s2 _ _ h) (fun a ys h => s2 _ _ h), (fun i hi g => by have z := dl.own i hi _ g; rw [hx] at z; cases z), by omega,
          fun x d s H3 xs' hs' cx gx kx nx hh hv' hlen fr => ?_⟩
        rw [sum] at gx
        have nA : ∀ {b : Addr} {o : HO}, HB b = some o → ∀ i, i < M → b ≠ (A i).1 ∧ b ≠ (A i).2 := fun {b o} h i hi => ⟨ne_of_none h (dl.new i hi).1, ne_of_none h (dl.new i hi).2⟩
        have hq3 : H3 q = some (.dK (Dr.map kvI)) := fr _ _ (s2 _ _ hqA) nq (nA hqA)
        have sq3 : SqL K H3 a (ns.map V.int) := by
          rcases hna with h | hne
          · exact h H3
          · rcases sqA with (h | ⟨o, h⟩) | h
            · exact .inl (.inl (fr _ _ (s2 _ _ h) hne (nA h)))
            · exact .inl (.inr ⟨o, fr _ _ (s2 _ _ h) hne (nA h)⟩)
            · exact .inr h
        walk_at "rd"
        rw [show decide (V.ref x = V.non) = false from rfl]
        walk_at "rd"
        refine ⟨a, ns, 2, rfl, sq3, by decide, ?_⟩
        walk_at "rd"
        refine ⟨x, d, q, s, _, Dr, cs.map readM, _, rfl, cx, gx, nx, hq3, okr, by rw [List.length_map]; omega, rowr, fun H4 s4 => ?_⟩
        walk_at "rd"
        exact ⟨xs', hs', s4 _ _ hq3, s4.seq sq3, s4 _ _ hh, hv'.imm (fun a ys h _ => s4 _ _ h) (fun a ys h => s4 _ _ h), by omega, _, _, rfl⟩
      · obtain ⟨xs, hs, hqA, sqA, hx, hv, hxl, v6, v7, rfl⟩ := z
        walk_at "rd"
        refine ⟨a, ns, k, 1, rfl, sqA, hl, hk1, hk2, by decide, by decide, fun pc A S R H2 hpc s2 hL dl sum => ?_⟩
        rw [hcs] at sum
        have sum0 : R 0 = rowC (fun c => timesM c (greatK k)) cs := by rw [← sum]; exact (Row.add_nil _).symm
        walk_at "rd"
        refine up_at (i := 0) hL (by decide) ?_
        walk_at "rd"
        refine ⟨a, ns, 1, rfl, s2.seq sqA, by decide, ?_⟩
        walk_at "rd"
        refine ⟨_, _, q, S 0, R 0, Dr, cs.map readM, _, rfl, dl.t.c 0 (by decide), dl.g 0 (by decide), Nat.lt_of_le_of_lt (dl.c 0 (by decide)) (by decide), s2 _ _ hqA, okr, by rw [List.length_map]; omega, by rw [rowr, sum0], fun H3 s3 => ?_⟩
        have s23 := s2.trans s3
        walk_at "rd"
        exact ⟨ph, xs, hs, rfl, s23 _ _ hx, hv.imm (fun a ys h _ => s23 _ _ h) (fun a ys h => s23 _ _ h), by omega, fun H4 s4 => fin H4⟩
end
end RB

namespace RB
open PySem PySem.Spec PyProof.Rows L2
theorem all_mk {P : Program} {w : World} {K : PySem.W.Frag} {mg : Str → Option Value} {fa C C_BadKeep C_BadReading C_BadTimes C_NoPlace C_UnlikeCups : Addr} (hfa : mg "law" = some (.ref fa)) (D_law : LawAt K mg S_law)
    (U : CupC K mg C)
    (x_BadReading : ExcC K mg "BadReading" C_BadReading)
    (x_BadKeep : ExcC K mg "BadKeep" C_BadKeep)
    (x_BadTimes : ExcC K mg "BadTimes" C_BadTimes)
    (x_UnlikeCups : ExcC K mg "UnlikeCups" C_UnlikeCups)
    (x_NoPlace : ExcC K mg "NoPlace" C_NoPlace)
    (D_exact : DefAt K mg "exact" S_exact ["row"])
    (m_sorted : mg "sorted" = none)
    (m_enumerate : mg "enumerate" = none)
    (D_halved : DefAt K mg "halved" S_halved ["entries"])
    (D_upto : DefAt K mg "upto" S_upto ["entries", "reading"])
    (m_len : mg "len" = none)
    (D_below : DefAt K mg "below" S_below ["entries", "reading"])
    (D_least_of : DefAt K mg "least_of" S_least_of ["entries", "count"])
    (D_most_of : DefAt K mg "most_of" S_most_of ["entries", "count", "many"])
    (D_moved : DefAt K mg "moved" S_moved ["entries", "others", "more"])
    (D_joined : DefAt K mg "joined" S_joined ["ones", "many", "others", "more"])
    (D_reading_of : DefAt K mg "reading_of" S_reading_of ["entry"])
    (D_is_whole : DefAt K mg "is_whole" S_is_whole ["thing", "least", "most"])
    (m_isinstance : mg "isinstance" = none)
    (m_int : mg "int" = none)
    (m_bool : mg "bool" = none)
    (D_need_reading : DefAt K mg "need_reading" S_need_reading ["thing"])
    (h_MOST_READING : GlobI mg "MOST_READING" 1000000000000000000)
    (D_doubled : DefAt K mg "doubled" S_doubled ["number", "times"])
    (m_range : mg "range" = none)
    (D_digits : DefAt K mg "digits" S_digits ["number"])
    (D_Cup_size : MethAt K C "size" "Cup.size" S_Cup_size ["self", "place"])
    (D_Cup_lay : MethAt K C "lay" "Cup.lay" S_Cup_lay ["self", "place", "entries"])
    (D_Cup_fill : MethAt K C "fill" "Cup.fill" S_Cup_fill ["self", "reading", "times"])
    (D_Cup_raised : MethAt K C "raised" "Cup.raised" S_Cup_raised ["self", "block", "place"])
    (D_Cup___init__ : MethAt K C "__init__" "Cup.__init__" S_Cup___init__ ["self", "keep"])
    (h_MOST_KEEP : GlobI mg "MOST_KEEP" 64)
    (D_Cup_add : MethAt K C "add" "Cup.add" S_Cup_add ["self", "reading", "times"])
    (m_min : mg "min" = none)
    (h_MOST_TIMES : GlobI mg "MOST_TIMES" 1000000000)
    (D_Cup_pour : MethAt K C "pour" "Cup.pour" S_Cup_pour ["self", "other"])
    (m_list : mg "list" = none)
    (D_Cup_count : MethAt K C "count" "Cup.count" S_Cup_count ["self"])
    (m_sum : mg "sum" = none)
    (D_Cup_off : MethAt K C "off" "Cup.off" S_Cup_off ["self"])
    (D_Cup_bound : MethAt K C "bound" "Cup.bound" S_Cup_bound ["self"])
    (D_Cup_kept : MethAt K C "kept" "Cup.kept" S_Cup_kept ["self"])
    (D_nearest : DefAt K mg "nearest" S_nearest ["entries", "place"])
    (m_max : mg "max" = none)
    (D_Cup_answer : MethAt K C "answer" "Cup.answer" S_Cup_answer ["self", "place"])
    (D_l_cell : DefAt K mg "_law_cell" S_l_cell ["_law_script", "_law_k"])
    (D_l_mixed : DefAt K mg "_law_mixed" S_l_mixed ["_law_cell_here", "_law_k"])
    (D_l_reading : DefAt K mg "_law_reading" S_l_reading ["_law_cell_here"])
    (D_l_times : DefAt K mg "_law_times" S_l_times ["_law_cell_here", "_law_great"])
    (D_l_keep : DefAt K mg "_law_keep" S_l_keep ["_law_cell_here"])
    (D_l_off : DefAt K mg "_law_off" S_l_off ["_law_count", "_law_keep_here"])
    (D_l_bound : DefAt K mg "_law_bound" S_l_bound ["_law_count", "_law_keep_here"])
    (D_l_less : DefAt K mg "_law_less" S_l_less ["_law_row", "_law_reading_here"])
    (D_l_kept_right : DefAt K mg "_law_kept_right" S_l_kept_right ["_law_found", "_law_row", "_law_most"])
    (m_tuple : mg "tuple" = none)
    (D_l_answer_right : DefAt K mg "_law_answer_right" S_l_answer_right ["_law_found", "_law_row", "_law_place", "_law_off_here"])
    (D_l_good : DefAt K mg "_law_good" S_l_good ["_law_cup", "_law_row", "_law_cell_here"])
    (D_l_held : DefAt K mg "_law_held" S_l_held ["_law_held_here"])
    (m_repr : mg "repr" = none)
    (m_all : mg "all" = none)
    (D_l_dealt : DefAt K mg "_law_dealt" S_l_dealt ["_law_script", "_law_keep_here", "_law_many"])
    (Mk : MkC K C)
    (D_l_together : DefAt K mg "_law_together" S_l_together ["_law_cups", "_law_cell_here", "_law_held_here"])
    : ∃ fd : FuncData, (∀ (s : Shared) (v : Value), BindsTo s fd ⟨[v], []⟩ [("_law_script", v)]) ∧ ∀ base : Heap, K.In base → base.Ns mainGlobals mg → FnG P w K mg base CX0 9 fa fd ["_law_script"] (sp_law K) := by
  obtain ⟨f, fd, F, hm, hb⟩ := D_law.ex
  have e := hfa.symm.trans hm
  cases e
  refine ⟨fd, hb, fun base _ _ => ?_⟩
  have c_exact := ok_exact (P := P) (w := w) (base := base) D_exact m_sorted m_enumerate
  have c_halved := ok_halved (P := P) (w := w) (base := base) D_halved
  have c_upto := ok_upto (P := P) (w := w) (base := base) D_upto m_len
  have c_below := ok_below (P := P) (w := w) (base := base) D_below c_upto
  have c_least_of := ok_least_of (P := P) (w := w) (base := base) D_least_of
  have c_most_of := ok_most_of (P := P) (w := w) (base := base) D_most_of m_len
  have c_moved := ok_moved (P := P) (w := w) (base := base) D_moved c_upto c_below c_least_of c_most_of
  have c_joined := ok_joined (P := P) (w := w) (base := base) D_joined D_reading_of m_sorted c_moved
  have c_is_whole := ok_is_whole (P := P) (w := w) (base := base) D_is_whole m_isinstance m_int m_bool
  have c_need_reading := ok_need_reading (P := P) (w := w) (base := base) D_need_reading h_MOST_READING x_BadReading c_is_whole
  have c_doubled := ok_doubled (P := P) (w := w) (base := base) D_doubled m_range
  have c_digits := ok_digits (P := P) (w := w) (base := base) D_digits
  have c_Cup_size := ok_Cup_size (P := P) (w := w) (base := base) D_Cup_size U c_doubled
  have c_Cup_lay := ok_Cup_lay (P := P) (w := w) (base := base) D_Cup_lay U c_Cup_size c_joined c_halved
  have c_Cup_fill := ok_Cup_fill (P := P) (w := w) (base := base) D_Cup_fill U m_len c_Cup_lay c_exact
  have c_Cup_raised := ok_Cup_raised (P := P) (w := w) (base := base) D_Cup_raised U m_range c_Cup_size c_joined c_halved
  have c_Cup___init__ := ok_Cup___init__ (P := P) (w := w) (base := base) D_Cup___init__ U h_MOST_KEEP x_BadKeep c_is_whole
  have c_Cup_add := ok_Cup_add (P := P) (w := w) (base := base) D_Cup_add U m_len m_min h_MOST_TIMES x_BadTimes c_is_whole c_need_reading c_exact c_digits c_Cup_fill c_Cup_lay c_Cup_raised
  have c_Cup_pour := ok_Cup_pour (P := P) (w := w) (base := base) D_Cup_pour U m_list m_sorted x_UnlikeCups c_Cup_fill c_Cup_lay
  have c_Cup_count := ok_Cup_count (P := P) (w := w) (base := base) D_Cup_count U m_len m_sum c_Cup_size
  have c_Cup_off := ok_Cup_off (P := P) (w := w) (base := base) D_Cup_off U m_sum c_Cup_count c_digits c_doubled
  have c_Cup_bound := ok_Cup_bound (P := P) (w := w) (base := base) D_Cup_bound U m_len c_Cup_count c_digits
  have c_Cup_kept := ok_Cup_kept (P := P) (w := w) (base := base) D_Cup_kept U m_len m_sorted c_Cup_size c_exact c_joined
  have c_nearest := ok_nearest (P := P) (w := w) (base := base) D_nearest m_max
  have c_Cup_answer := ok_Cup_answer (P := P) (w := w) (base := base) D_Cup_answer x_NoPlace U c_is_whole c_Cup_count c_Cup_kept c_nearest
  have c_l_cell := ok_l_cell (P := P) (w := w) (base := base) D_l_cell m_len
  have c_l_mixed := ok_l_mixed (P := P) (w := w) (base := base) D_l_mixed
  have c_l_reading := ok_l_reading (P := P) (w := w) (base := base) D_l_reading c_l_mixed
  have c_l_times := ok_l_times (P := P) (w := w) (base := base) D_l_times c_l_mixed
  have c_l_keep := ok_l_keep (P := P) (w := w) (base := base) D_l_keep
  have c_l_off := ok_l_off (P := P) (w := w) (base := base) D_l_off
  have c_l_bound := ok_l_bound (P := P) (w := w) (base := base) D_l_bound
  have c_l_less := ok_l_less (P := P) (w := w) (base := base) D_l_less m_sum
  have c_l_kept_right := ok_l_kept_right (P := P) (w := w) (base := base) D_l_kept_right m_len m_isinstance m_int m_bool m_list m_tuple c_l_less
  have c_l_answer_right := ok_l_answer_right (P := P) (w := w) (base := base) D_l_answer_right m_isinstance m_int m_bool c_l_less
  have c_l_good := ok_l_good (P := P) (w := w) (base := base) D_l_good m_sum m_range m_max U c_Cup_kept c_Cup_count c_Cup_off c_Cup_bound c_Cup_answer c_l_mixed c_l_off c_l_bound c_l_answer_right c_l_kept_right
  have c_l_held := ok_l_held (P := P) (w := w) (base := base) D_l_held m_repr m_all
  have c_l_dealt := ok_l_dealt (P := P) (w := w) (base := base) D_l_dealt m_range m_min m_max m_int m_len U Mk c_Cup___init__ c_Cup_add c_l_mixed c_l_reading c_l_times
  have c_l_together := ok_l_together (P := P) (w := w) (base := base) D_l_together m_list m_len m_repr U c_Cup_kept c_Cup_pour c_l_mixed
  exact ok_law F m_range m_int c_l_cell c_l_keep c_l_reading c_l_times c_l_dealt c_l_together c_l_good c_l_held
theorem walk {l : PySem.W.OpenLaw} {q : Program} {loose : List Str} {XP : (Str → Option Value) → Heap → Prop} {YP : World → Heap → Prop} {d : DefRec} {K : Params → PySem.W.Frag} (hn : l.most = some 63) (hdf : d.params.defaults = [])
    (hY : ∀ (w : World) (h : Heap), YP w h → (K w.params).In h)
    (F : ∀ (w : World) (mg : Str → Option Value) (fa : Addr) (h : Heap), (K w.params).In h → h.Ns mainGlobals mg → XP mg h → mg d.name = some (.ref fa) →
      ∃ fd : FuncData, (∀ (s : Shared) (u : Value), BindsTo s fd ⟨[u], []⟩ [("_law_script", u)]) ∧ ∀ base : Heap, (K w.params).In base → base.Ns mainGlobals mg → FnG l.prog w (K w.params) mg base CX0 9 fa fd ["_law_script"] (sp_law (K w.params))) :
    PySem.W.WalkO q loose XP YP l.row.toRowW d [] (fun f vs => PySem.call f vs) :=
  RB.walk_ofG (n := 63) (k := 9) (x := "_law_script") (sp := fun w => sp_law (K w.params)) hn (by decide) hdf ⟨rfl, by decide, by decide⟩ hY F (fun _ _ a ns hl _ hS => ⟨a, ns, rfl, hS, hl, fun _ => rfl⟩)
end RB
open PySem PySem.W PyProof.Rows
set_option maxRecDepth 100000 in
set_option maxHeartbeats 0 in
theorem PySem.Challenge.cw_rankbounds_k09_whole_any_pouring_holds : PySem.Challenge.rw_rankbounds_k09_whole_any_pouring.Holds := by
  w_on; o_law; k_head; (case hw => w_witness2)
  k_fill
  refine RB.walk (l := PySem.Challenge.rw_rankbounds_k09_whole_any_pouring) rfl rfl (fun w h Y => PySem.W.kIn_of Y) ?F
  case F =>
    intro w mg fa h KX G X hmg
    refine' RB.all_mk hmg ?D_law ?U ?x_BadReading ?x_BadKeep ?x_BadTimes ?x_UnlikeCups ?x_NoPlace ?D_exact ?m_sorted ?m_enumerate ?D_halved ?D_upto ?m_len ?D_below ?D_least_of ?D_most_of ?D_moved ?D_joined ?D_reading_of ?D_is_whole ?m_isinstance ?m_int ?m_bool ?D_need_reading ?h_MOST_READING ?D_doubled ?m_range ?D_digits ?D_Cup_size ?D_Cup_lay ?D_Cup_fill ?D_Cup_raised ?D_Cup___init__ ?h_MOST_KEEP ?D_Cup_add ?m_min ?h_MOST_TIMES ?D_Cup_pour ?m_list ?D_Cup_count ?m_sum ?D_Cup_off ?D_Cup_bound ?D_Cup_kept ?D_nearest ?m_max ?D_Cup_answer ?D_l_cell ?D_l_mixed ?D_l_reading ?D_l_times ?D_l_keep ?D_l_off ?D_l_bound ?D_l_less ?D_l_kept_right ?m_tuple ?D_l_answer_right ?D_l_good ?D_l_held ?m_repr ?m_all ?D_l_dealt ?Mk ?D_l_together
    (case D_law => (refine' RB.law_mk KX G ?a ?l ?c ?k (fun _ _ _ _ _ _ _ _ => .of_eq rfl); (case a => k_is); (case l => k_is); (case c => k_is); (case k => k_is)))
    (case U => (refine' RB.cup_mk KX G ?a ?pg ?hd ?po ?sa ?nk ?nl ?nb; (case a => k_is); (case pg => k_is); (case hd => k_is); (case po => k_is); (case sa => k_is); (case nk => k_is); (case nl => k_is); (case nb => k_is)))
    (case x_BadReading => (refine' RB.exc_mk KX G ?a ?e ?k ?b ?t; (case a => k_is); (case e => k_exc); (case k => k_is); (case b => k_is); (case t => k_is)))
    (case x_BadKeep => (refine' RB.exc_mk KX G ?a ?e ?k ?b ?t; (case a => k_is); (case e => k_exc); (case k => k_is); (case b => k_is); (case t => k_is)))
    (case x_BadTimes => (refine' RB.exc_mk KX G ?a ?e ?k ?b ?t; (case a => k_is); (case e => k_exc); (case k => k_is); (case b => k_is); (case t => k_is)))
    (case x_UnlikeCups => (refine' RB.exc_mk KX G ?a ?e ?k ?b ?t; (case a => k_is); (case e => k_exc); (case k => k_is); (case b => k_is); (case t => k_is)))
    (case x_NoPlace => (refine' RB.exc_mk KX G ?a ?e ?k ?b ?t; (case a => k_is); (case e => k_exc); (case k => k_is); (case b => k_is); (case t => k_is)))
    (case D_exact => (refine' RB.def_mk KX G ?a ?l ?c ?k (fun _ _ _ _ _ _ us hl => match us, hl with | [_], _ => rfl); (case a => k_is); (case l => k_is); (case c => k_is); (case k => k_is)))
    (case m_sorted => (refine' PySem.W.mg_none_of KX G ?z; (case z => k_is)))
    (case m_enumerate => (refine' PySem.W.mg_none_of KX G ?z; (case z => k_is)))
    (case D_halved => (refine' RB.def_mk KX G ?a ?l ?c ?k (fun _ _ _ _ _ _ us hl => match us, hl with | [_], _ => rfl); (case a => k_is); (case l => k_is); (case c => k_is); (case k => k_is)))
    (case D_upto => (refine' RB.def_mk KX G ?a ?l ?c ?k (fun _ _ _ _ _ _ us hl => match us, hl with | [_, _], _ => rfl); (case a => k_is); (case l => k_is); (case c => k_is); (case k => k_is)))
    (case m_len => (refine' PySem.W.mg_none_of KX G ?z; (case z => k_is)))
    (case D_below => (refine' RB.def_mk KX G ?a ?l ?c ?k (fun _ _ _ _ _ _ us hl => match us, hl with | [_, _], _ => rfl); (case a => k_is); (case l => k_is); (case c => k_is); (case k => k_is)))
    (case D_least_of => (refine' RB.def_mk KX G ?a ?l ?c ?k (fun _ _ _ _ _ _ us hl => match us, hl with | [_, _], _ => rfl); (case a => k_is); (case l => k_is); (case c => k_is); (case k => k_is)))
    (case D_most_of => (refine' RB.def_mk KX G ?a ?l ?c ?k (fun _ _ _ _ _ _ us hl => match us, hl with | [_, _, _], _ => rfl); (case a => k_is); (case l => k_is); (case c => k_is); (case k => k_is)))
    (case D_moved => (refine' RB.def_mk KX G ?a ?l ?c ?k (fun _ _ _ _ _ _ us hl => match us, hl with | [_, _, _], _ => rfl); (case a => k_is); (case l => k_is); (case c => k_is); (case k => k_is)))
    (case D_joined => (refine' RB.def_mk KX G ?a ?l ?c ?k (fun _ _ _ _ _ _ us hl => match us, hl with | [_, _, _, _], _ => rfl); (case a => k_is); (case l => k_is); (case c => k_is); (case k => k_is)))
    (case D_reading_of => (refine' RB.def_mk KX G ?a ?l ?c ?k (fun _ _ _ _ _ _ us hl => match us, hl with | [_], _ => rfl); (case a => k_is); (case l => k_is); (case c => k_is); (case k => k_is)))
    (case D_is_whole => (refine' RB.def_mk KX G ?a ?l ?c ?k (fun _ _ _ _ _ _ us hl => match us, hl with | [_, _, _], _ => rfl); (case a => k_is); (case l => k_is); (case c => k_is); (case k => k_is)))
    (case m_isinstance => (refine' PySem.W.mg_none_of KX G ?z; (case z => k_is)))
    (case m_int => (refine' PySem.W.mg_none_of KX G ?z; (case z => k_is)))
    (case m_bool => (refine' PySem.W.mg_none_of KX G ?z; (case z => k_is)))
    (case D_need_reading => (refine' RB.def_mk KX G ?a ?l ?c ?k (fun _ _ _ _ _ _ us hl => match us, hl with | [_], _ => rfl); (case a => k_is); (case l => k_is); (case c => k_is); (case k => k_is)))
    (case h_MOST_READING => (refine' RB.glob_mk X ?a; (case a => (first | decide | simp))))
    (case D_doubled => (refine' RB.def_mk KX G ?a ?l ?c ?k (fun _ _ _ _ _ _ us hl => match us, hl with | [_, _], _ => rfl); (case a => k_is); (case l => k_is); (case c => k_is); (case k => k_is)))
    (case m_range => (refine' PySem.W.mg_none_of KX G ?z; (case z => k_is)))
    (case D_digits => (refine' RB.def_mk KX G ?a ?l ?c ?k (fun _ _ _ _ _ _ us hl => match us, hl with | [_], _ => rfl); (case a => k_is); (case l => k_is); (case c => k_is); (case k => k_is)))
    (case D_Cup_size => (refine' RB.meth_mk ?a ?i ?l ?c ?k (fun _ _ _ _ _ _ us hl => match us, hl with | [_, _], _ => rfl); (case a => k_is); (case i => k_is); (case l => k_is); (case c => k_is); (case k => k_is)))
    (case D_Cup_lay => (refine' RB.meth_mk ?a ?i ?l ?c ?k (fun _ _ _ _ _ _ us hl => match us, hl with | [_, _, _], _ => rfl); (case a => k_is); (case i => k_is); (case l => k_is); (case c => k_is); (case k => k_is)))
    (case D_Cup_fill => (refine' RB.meth_mk ?a ?i ?l ?c ?k (fun _ _ _ _ _ _ us hl => match us, hl with | [_, _, _], _ => rfl); (case a => k_is); (case i => k_is); (case l => k_is); (case c => k_is); (case k => k_is)))
    (case D_Cup_raised => (refine' RB.meth_mk ?a ?i ?l ?c ?k (fun _ _ _ _ _ _ us hl => match us, hl with | [_, _, _], _ => rfl); (case a => k_is); (case i => k_is); (case l => k_is); (case c => k_is); (case k => k_is)))
    (case D_Cup___init__ => (refine' RB.meth_mk ?a ?i ?l ?c ?k (fun _ _ _ _ _ _ us hl => match us, hl with | [_, _], _ => rfl); (case a => k_is); (case i => k_is); (case l => k_is); (case c => k_is); (case k => k_is)))
    (case h_MOST_KEEP => (refine' RB.glob_ns KX G ?a; (case a => k_is)))
    (case D_Cup_add => (refine' RB.meth_mk ?a ?i ?l ?c ?k (fun _ _ _ _ _ _ us hl => match us, hl with | [_, _, _], _ => rfl); (case a => k_is); (case i => k_is); (case l => k_is); (case c => k_is); (case k => k_is)))
    (case m_min => (refine' PySem.W.mg_none_of KX G ?z; (case z => k_is)))
    (case h_MOST_TIMES => (refine' RB.glob_mk X ?a; (case a => (first | decide | simp))))
    (case D_Cup_pour => (refine' RB.meth_mk ?a ?i ?l ?c ?k (fun _ _ _ _ _ _ us hl => match us, hl with | [_, _], _ => rfl); (case a => k_is); (case i => k_is); (case l => k_is); (case c => k_is); (case k => k_is)))
    (case m_list => (refine' PySem.W.mg_none_of KX G ?z; (case z => k_is)))
    (case D_Cup_count => (refine' RB.meth_mk ?a ?i ?l ?c ?k (fun _ _ _ _ _ _ us hl => match us, hl with | [_], _ => rfl); (case a => k_is); (case i => k_is); (case l => k_is); (case c => k_is); (case k => k_is)))
    (case m_sum => (refine' PySem.W.mg_none_of KX G ?z; (case z => k_is)))
    (case D_Cup_off => (refine' RB.meth_mk ?a ?i ?l ?c ?k (fun _ _ _ _ _ _ us hl => match us, hl with | [_], _ => rfl); (case a => k_is); (case i => k_is); (case l => k_is); (case c => k_is); (case k => k_is)))
    (case D_Cup_bound => (refine' RB.meth_mk ?a ?i ?l ?c ?k (fun _ _ _ _ _ _ us hl => match us, hl with | [_], _ => rfl); (case a => k_is); (case i => k_is); (case l => k_is); (case c => k_is); (case k => k_is)))
    (case D_Cup_kept => (refine' RB.meth_mk ?a ?i ?l ?c ?k (fun _ _ _ _ _ _ us hl => match us, hl with | [_], _ => rfl); (case a => k_is); (case i => k_is); (case l => k_is); (case c => k_is); (case k => k_is)))
    (case D_nearest => (refine' RB.def_mk KX G ?a ?l ?c ?k (fun _ _ _ _ _ _ us hl => match us, hl with | [_, _], _ => rfl); (case a => k_is); (case l => k_is); (case c => k_is); (case k => k_is)))
    (case m_max => (refine' PySem.W.mg_none_of KX G ?z; (case z => k_is)))
    (case D_Cup_answer => (refine' RB.meth_mk ?a ?i ?l ?c ?k (fun _ _ _ _ _ _ us hl => match us, hl with | [_, _], _ => rfl); (case a => k_is); (case i => k_is); (case l => k_is); (case c => k_is); (case k => k_is)))
    (case D_l_cell => (refine' RB.def_mk KX G ?a ?l ?c ?k (fun _ _ _ _ _ _ us hl => match us, hl with | [_, _], _ => rfl); (case a => k_is); (case l => k_is); (case c => k_is); (case k => k_is)))
    (case D_l_mixed => (refine' RB.def_mk KX G ?a ?l ?c ?k (fun _ _ _ _ _ _ us hl => match us, hl with | [_, _], _ => rfl); (case a => k_is); (case l => k_is); (case c => k_is); (case k => k_is)))
    (case D_l_reading => (refine' RB.def_mk KX G ?a ?l ?c ?k (fun _ _ _ _ _ _ us hl => match us, hl with | [_], _ => rfl); (case a => k_is); (case l => k_is); (case c => k_is); (case k => k_is)))
    (case D_l_times => (refine' RB.def_mk KX G ?a ?l ?c ?k (fun _ _ _ _ _ _ us hl => match us, hl with | [_, _], _ => rfl); (case a => k_is); (case l => k_is); (case c => k_is); (case k => k_is)))
    (case D_l_keep => (refine' RB.def_mk KX G ?a ?l ?c ?k (fun _ _ _ _ _ _ us hl => match us, hl with | [_], _ => rfl); (case a => k_is); (case l => k_is); (case c => k_is); (case k => k_is)))
    (case D_l_off => (refine' RB.def_mk KX G ?a ?l ?c ?k (fun _ _ _ _ _ _ us hl => match us, hl with | [_, _], _ => rfl); (case a => k_is); (case l => k_is); (case c => k_is); (case k => k_is)))
    (case D_l_bound => (refine' RB.def_mk KX G ?a ?l ?c ?k (fun _ _ _ _ _ _ us hl => match us, hl with | [_, _], _ => rfl); (case a => k_is); (case l => k_is); (case c => k_is); (case k => k_is)))
    (case D_l_less => (refine' RB.def_mk KX G ?a ?l ?c ?k (fun _ _ _ _ _ _ us hl => match us, hl with | [_, _], _ => rfl); (case a => k_is); (case l => k_is); (case c => k_is); (case k => k_is)))
    (case D_l_kept_right => (refine' RB.def_mk KX G ?a ?l ?c ?k (fun _ _ _ _ _ _ us hl => match us, hl with | [_, _, _], _ => rfl); (case a => k_is); (case l => k_is); (case c => k_is); (case k => k_is)))
    (case m_tuple => (refine' PySem.W.mg_none_of KX G ?z; (case z => k_is)))
    (case D_l_answer_right => (refine' RB.def_mk KX G ?a ?l ?c ?k (fun _ _ _ _ _ _ us hl => match us, hl with | [_, _, _, _], _ => rfl); (case a => k_is); (case l => k_is); (case c => k_is); (case k => k_is)))
    (case D_l_good => (refine' RB.def_mk KX G ?a ?l ?c ?k (fun _ _ _ _ _ _ us hl => match us, hl with | [_, _, _], _ => rfl); (case a => k_is); (case l => k_is); (case c => k_is); (case k => k_is)))
    (case D_l_held => (refine' RB.def_mk KX G ?a ?l ?c ?k (fun _ _ _ _ _ _ us hl => match us, hl with | [_], _ => rfl); (case a => k_is); (case l => k_is); (case c => k_is); (case k => k_is)))
    (case m_repr => (refine' PySem.W.mg_none_of KX G ?z; (case z => k_is)))
    (case m_all => (refine' PySem.W.mg_none_of KX G ?z; (case z => k_is)))
    (case D_l_dealt => (refine' RB.def_mk KX G ?a ?l ?c ?k (fun _ _ _ _ _ _ us hl => match us, hl with | [_, _, _], _ => rfl); (case a => k_is); (case l => k_is); (case c => k_is); (case k => k_is)))
    (case Mk => (refine' RB.MkC.mk ?a ?b; (case a => k_is); (case b => k_is)))
    (case D_l_together => (refine' RB.def_mk KX G ?a ?l ?c ?k (fun _ _ _ _ _ _ us hl => match us, hl with | [_, _, _], _ => rfl); (case a => k_is); (case l => k_is); (case c => k_is); (case k => k_is)))
