import PyProof.Rows.All
import Wide.All
import OpenK.AllK
import Wide.FinOn
import KE.KExcSuper
import HandS.ForMost
import HandS.ExcInit
import HandS.Nested
import HandS.Star
import HandS.ExcField
import HandS.ExcIs
import HandS.Defaults
import HandS.IsInst
import KE.KIsAll
import KE.KTryMore
import HandS.OwnEq
import HandS.Zip
import PySem.Challenge.RW_partsinparts_k00_errors_and_papers_kept
import HandS.Walk
import KE.KAssignIn
import HandS.SlotsOwn
import KE.KTypeName
import PyProof.ReprRoads
import PyProof.CallFns
import HandS.MakeKwOnly
import HandS.Ends
section K00Math_text
set_option Elab.async false
set_option linter.all false
set_option maxRecDepth 100000
/-! k00: the data that are drawn, their tuples, their texts, likeness. Plain Lean. -/
namespace K00
open PySem PyProof.Rows

/-! ### lists as tuples, likeness -/
mutual
def tupd : PyData → PyData
  | .none => .none
  | .bool b => .bool b
  | .int i => .int i
  | .str s => .str s
  | .list xs => .tuple (tupdAll xs)
  | .tuple xs => .tuple (tupdAll xs)
  | .dict kvs => .dict kvs
def tupdAll : List PyData → List PyData
  | [] => []
  | x :: xs => tupd x :: tupdAll xs
end
def isB : PyData → Bool
  | .bool _ => true
  | _ => false
mutual
def like : PyData → PyData → Bool
  | .tuple xs, .tuple ys => likeAll xs ys
  | d, e => if isB d != isB e then false else PyData.eqv d e
def likeAll : List PyData → List PyData → Bool
  | [], [] => true
  | x :: xs, y :: ys => like x y && likeAll xs ys
  | _, _ => false
end

/-! ### the leaves that are drawn -/
def atoms : List PyData := [.none, .bool true, .bool false, .int 0, .int 1, .int (-3), .int (10 ^ 30), .str "", .str "word", .str "1"]
/-- tuples of leaves, at any depth -/
inductive Tup : PyData → Prop
  | at_ {d : PyData} : d ∈ atoms → Tup d
  | tup {xs : List PyData} : (∀ x ∈ xs, Tup x) → Tup (.tuple xs)

/-! ### their texts as lists of codes -/
abbrev cs (s : Str) : List Nat := s.cps.toList
theorem cs_app (a b : Str) : cs (a ++ b) = cs a ++ cs b := by
  show (a.cps ++ b.cps).toList = _
  simp
def tailT : List (List Nat) → List Nat
  | [] => [41]
  | t :: ts => [44, 32] ++ t ++ tailT ts
def bodyT : List (List Nat) → List Nat
  | [] => [41]
  | [t] => t ++ [44, 41]
  | t :: u :: ts => t ++ tailT (u :: ts)
theorem join_tail : ∀ (t : Str) (ts : List Str), cs (Str.join ", " (t :: ts)) ++ [41] = cs t ++ tailT (ts.map cs)
  | t, [] => rfl
  | t, u :: ts => by
    have ih := join_tail u ts
    show cs (t ++ ", " ++ Str.join ", " (u :: ts)) ++ [41] = _
    rw [cs_app, cs_app, List.append_assoc, List.append_assoc, ih]
    have e : cs ((", " : String) : Str) = [44, 32] := by decide +kernel
    rw [e]
    simp [tailT]
theorem tuple_cs : ∀ ts : List Str, cs (tupleText ts) = [40] ++ bodyT (ts.map cs)
  | [] => by decide +kernel
  | [t] => by
    show cs ((("(" : String) : Str) ++ t ++ ((",)" : String) : Str)) = _
    rw [cs_app, cs_app]
    have e : cs (("(" : String) : Str) = [40] := by decide +kernel
    have e2 : cs ((",)" : String) : Str) = [44, 41] := by decide +kernel
    rw [e, e2]
    simp [bodyT]
  | t :: u :: ts => by
    show cs ((("(" : String) : Str) ++ Str.join ", " (t :: u :: ts) ++ ((")" : String) : Str)) = _
    rw [cs_app, cs_app]
    have e : cs (("(" : String) : Str) = [40] := by decide +kernel
    have e2 : cs ((")" : String) : Str) = [41] := by decide +kernel
    rw [e, e2, List.append_assoc, join_tail]
    rfl

/-- what may stand behind a text -/
def delim : List Nat → Prop
  | [] => True
  | c :: _ => c = 44 ∨ c = 41
def T (d : PyData) : List Nat := cs d.shown
theorem T_none : T .none = [78, 111, 110, 101] := by decide +kernel
theorem T_true : T (.bool true) = [84, 114, 117, 101] := by decide +kernel
theorem T_false : T (.bool false) = [70, 97, 108, 115, 101] := by decide +kernel
theorem T_0 : T (.int 0) = [48] := by decide +kernel
theorem T_1 : T (.int 1) = [49] := by decide +kernel
theorem T_3 : T (.int (-3)) = [45, 51] := by decide +kernel
theorem T_30 : T (.int (10 ^ 30)) = 49 :: 48 :: List.replicate 29 48 := by decide +kernel
theorem T_e : T (.str "") = [39, 39] := by decide +kernel
theorem T_w : T (.str "word") = [39, 119, 111, 114, 100, 39] := by decide +kernel
theorem T_s : T (.str "1") = [39, 49, 39] := by decide +kernel
theorem T_tup (xs : List PyData) : T (.tuple xs) = 40 :: bodyT (xs.map T) := by
  have h : ∀ ys : List PyData, (PyData.shownAll ys).map cs = ys.map T := by
    intro ys
    induction ys with
    | nil => simp [PyData.shownAll]
    | cons y ys ih => simp [PyData.shownAll, ih, T]
  show cs (PyData.shown (.tuple xs)) = _
  rw [PyData.shown, tuple_cs, h]
  rfl

/-! ### a text tells its datum -/
theorem atom_cases {d : PyData} (h : d ∈ atoms) : d = .none ∨ d = .bool true ∨ d = .bool false ∨ d = .int 0 ∨ d = .int 1 ∨ d = .int (-3) ∨ d = .int (10 ^ 30) ∨ d = .str "" ∨ d = .str "word" ∨ d = .str "1" := by
  simpa [atoms] using h
set_option maxHeartbeats 4000000 in
theorem atom_inj {d e : PyData} (hd : d ∈ atoms) (he : e ∈ atoms) {r r' : List Nat} (dr : delim r) (dr' : delim r') (h : T d ++ r = T e ++ r') : d = e ∧ r = r' := by
  rcases atom_cases hd with rfl | rfl | rfl | rfl | rfl | rfl | rfl | rfl | rfl | rfl <;>
  rcases atom_cases he with rfl | rfl | rfl | rfl | rfl | rfl | rfl | rfl | rfl | rfl <;>
  first
    | exact ⟨rfl, List.append_cancel_left h⟩
    | (exfalso; simp only [T_none, T_true, T_false, T_0, T_1, T_3, T_30, T_e, T_w, T_s, List.cons_append, List.nil_append, List.cons.injEq, Nat.reduceEqDiff, false_and, and_false] at h; done)
    | (exfalso; simp only [T_none, T_true, T_false, T_0, T_1, T_3, T_30, T_e, T_w, T_s, List.cons_append, List.nil_append, List.cons.injEq, Nat.reduceEqDiff, false_and, and_false, true_and] at h
       first
         | (rw [h] at dr; simp [delim] at dr; done)
         | (rw [← h] at dr'; simp [delim] at dr'; done)
         | (subst h; simp [delim] at dr; done)
         | (subst h; simp [delim] at dr'; done)
         | (obtain ⟨h1, h2⟩ := h; simp at h1; done))
theorem atom_head {d : PyData} (h : d ∈ atoms) : ∃ c l, T d = c :: l ∧ c ≠ 40 ∧ c ≠ 41 ∧ c ≠ 44 ∧ c ≠ 32 := by
  rcases atom_cases h with rfl | rfl | rfl | rfl | rfl | rfl | rfl | rfl | rfl | rfl <;>
  simp only [T_none, T_true, T_false, T_0, T_1, T_3, T_30, T_e, T_w, T_s] <;> exact ⟨_, _, rfl, by decide, by decide, by decide, by decide⟩
theorem tup_head {d : PyData} (h : Tup d) : ∃ c l, T d = c :: l ∧ c ≠ 41 ∧ c ≠ 44 ∧ c ≠ 32 := by
  cases h with
  | at_ h =>
    obtain ⟨c, l, e, _, h2, h3, h4⟩ := atom_head h
    exact ⟨c, l, e, h2, h3, h4⟩
  | tup _ =>
    rename_i xs _
    exact ⟨40, _, T_tup xs, by decide, by decide, by decide⟩
end K00
end K00Math_text
section K00Math2_text
set_option Elab.async false
set_option linter.all false
set_option maxRecDepth 100000
namespace K00
open PySem PyProof.Rows

/-! ### a text tells its datum: tuples -/
theorem delim_tail (ts : List (List Nat)) (r : List Nat) : delim (tailT ts ++ r) := by
  cases ts with
  | nil => exact Or.inr rfl
  | cons t ts => exact Or.inl rfl
theorem delim_c (r : List Nat) : delim ([44, 41] ++ r) := Or.inl rfl
theorem tail_inj : ∀ (xs ys : List PyData), (∀ x ∈ xs, ∀ e, Tup e → ∀ r r', delim r → delim r' → T x ++ r = T e ++ r' → x = e ∧ r = r') → (∀ y ∈ ys, Tup y) →
    ∀ r r', tailT (xs.map T) ++ r = tailT (ys.map T) ++ r' → xs = ys ∧ r = r'
  | [], [], _, _, r, r', h => by
    simp only [List.map_nil, tailT, List.cons_append, List.nil_append, List.cons.injEq, true_and] at h
    exact ⟨rfl, h⟩
  | [], y :: ys, _, _, r, r', h => by
    exfalso
    simp only [List.map_nil, List.map_cons, tailT, List.cons_append, List.nil_append, List.cons.injEq] at h
    exact absurd h.1 (by decide)
  | x :: xs, [], _, _, r, r', h => by
    exfalso
    simp only [List.map_nil, List.map_cons, tailT, List.cons_append, List.nil_append, List.cons.injEq] at h
    exact absurd h.1 (by decide)
  | x :: xs, y :: ys, ih, hy, r, r', h => by
    simp only [List.map_cons, tailT, List.cons_append, List.nil_append, List.append_assoc, List.cons.injEq, true_and] at h
    obtain ⟨e1, h2⟩ := ih x (List.mem_cons_self ..) y (hy y (List.mem_cons_self ..)) _ _ (delim_tail _ _) (delim_tail _ _) h
    obtain ⟨e2, e3⟩ := tail_inj xs ys (fun x hx => ih x (List.mem_cons_of_mem _ hx)) (fun y hy' => hy y (List.mem_cons_of_mem _ hy')) r r' h2
    exact ⟨by rw [e1, e2], e3⟩
theorem body_inj (xs ys : List PyData) (ih : ∀ x ∈ xs, ∀ e, Tup e → ∀ r r', delim r → delim r' → T x ++ r = T e ++ r' → x = e ∧ r = r') (hx : ∀ x ∈ xs, Tup x) (hy : ∀ y ∈ ys, Tup y)
    (r r' : List Nat) (h : bodyT (xs.map T) ++ r = bodyT (ys.map T) ++ r') : xs = ys ∧ r = r' := by
  match xs, ys, ih, hx, hy, h with
  | [], [], _, _, _, h =>
    simp only [List.map_nil, bodyT, List.cons_append, List.nil_append, List.cons.injEq, true_and] at h
    exact ⟨rfl, h⟩
  | [], [y], _, _, hy, h =>
    exfalso
    obtain ⟨c, l, e, n1, _, _⟩ := tup_head (hy y (List.mem_cons_self ..))
    simp only [List.map_nil, List.map_cons, bodyT, e, List.cons_append, List.nil_append, List.cons.injEq] at h
    exact n1 h.1.symm
  | [], y :: y2 :: ys, _, _, hy, h =>
    exfalso
    obtain ⟨c, l, e, n1, _, _⟩ := tup_head (hy y (List.mem_cons_self ..))
    simp only [List.map_nil, List.map_cons, bodyT, e, List.cons_append, List.nil_append, List.cons.injEq] at h
    exact n1 h.1.symm
  | [x], [], _, hx, _, h =>
    exfalso
    obtain ⟨c, l, e, n1, _, _⟩ := tup_head (hx x (List.mem_cons_self ..))
    simp only [List.map_nil, List.map_cons, bodyT, e, List.cons_append, List.nil_append, List.cons.injEq] at h
    exact n1 h.1
  | x :: x2 :: xs, [], _, hx, _, h =>
    exfalso
    obtain ⟨c, l, e, n1, _, _⟩ := tup_head (hx x (List.mem_cons_self ..))
    simp only [List.map_nil, List.map_cons, bodyT, e, List.cons_append, List.nil_append, List.cons.injEq] at h
    exact n1 h.1
  | [x], [y], ih, _, hy, h =>
    simp only [List.map_nil, List.map_cons, bodyT, List.append_assoc] at h
    obtain ⟨e1, h2⟩ := ih x (List.mem_cons_self ..) y (hy y (List.mem_cons_self ..)) _ _ (delim_c _) (delim_c _) h
    exact ⟨by rw [e1], List.append_cancel_left h2⟩
  | [x], y :: y2 :: ys, ih, _, hy, h =>
    exfalso
    simp only [List.map_nil, List.map_cons, bodyT, List.append_assoc] at h
    obtain ⟨e1, h2⟩ := ih x (List.mem_cons_self ..) y (hy y (List.mem_cons_self ..)) _ _ (delim_c _) (delim_tail _ _) h
    simp only [tailT, List.cons_append, List.nil_append, List.cons.injEq] at h2
    exact absurd h2.2.1 (by decide)
  | x :: x2 :: xs, [y], ih, _, hy, h =>
    exfalso
    simp only [List.map_nil, List.map_cons, bodyT, List.append_assoc] at h
    obtain ⟨e1, h2⟩ := ih x (List.mem_cons_self ..) y (hy y (List.mem_cons_self ..)) _ _ (delim_tail _ _) (delim_c _) h
    simp only [tailT, List.cons_append, List.nil_append, List.cons.injEq] at h2
    exact absurd h2.2.1 (by decide)
  | x :: x2 :: xs, y :: y2 :: ys, ih, _, hy, h =>
    simp only [List.map_cons, bodyT, List.append_assoc] at h
    obtain ⟨e1, h2⟩ := ih x (List.mem_cons_self ..) y (hy y (List.mem_cons_self ..)) _ _ (delim_tail _ _) (delim_tail _ _) h
    obtain ⟨e2, e3⟩ := tail_inj (x2 :: xs) (y2 :: ys) (fun x hx => ih x (List.mem_cons_of_mem _ hx)) (fun y hy' => hy y (List.mem_cons_of_mem _ hy')) r r' h2
    exact ⟨by rw [e1, e2], e3⟩
theorem T_inj {d : PyData} (hd : Tup d) : ∀ e, Tup e → ∀ r r', delim r → delim r' → T d ++ r = T e ++ r' → d = e ∧ r = r' := by
  induction hd with
  | at_ hd =>
    intro e he r r' dr dr' h
    cases he with
    | at_ he => exact atom_inj hd he dr dr' h
    | tup hy =>
      exfalso
      obtain ⟨c, l, e1, n1, _⟩ := atom_head hd
      rw [T_tup, e1, List.cons_append, List.cons_append, List.cons.injEq] at h
      exact n1 h.1
  | tup hx ih =>
    intro e he r r' dr dr' h
    cases he with
    | at_ he =>
      exfalso
      obtain ⟨c, l, e1, n1, _⟩ := atom_head he
      rw [T_tup, e1, List.cons_append, List.cons_append, List.cons.injEq] at h
      exact n1 h.1.symm
    | tup hy =>
      rw [T_tup, T_tup, List.cons_append, List.cons_append, List.cons.injEq] at h
      obtain ⟨e1, e2⟩ := body_inj _ _ (fun x hx => ih x hx) hx hy r r' h.2
      exact ⟨by rw [e1], e2⟩
theorem shown_inj {d e : PyData} (hd : Tup d) (he : Tup e) : d.shown = e.shown ↔ d = e :=
  ⟨fun h => (T_inj hd e he [] [] True.intro True.intro (by rw [List.append_nil, List.append_nil]; show cs d.shown = cs e.shown; rw [h])).1, fun h => by rw [h]⟩

/-! ### likeness is equality -/
set_option maxHeartbeats 4000000 in
theorem like_atoms {d e : PyData} (hd : d ∈ atoms) (he : e ∈ atoms) : like d e = true ↔ d = e := by
  rcases atom_cases hd with rfl | rfl | rfl | rfl | rfl | rfl | rfl | rfl | rfl | rfl <;>
  rcases atom_cases he with rfl | rfl | rfl | rfl | rfl | rfl | rfl | rfl | rfl | rfl <;>
  simp [like, isB, PyData.eqv] <;> decide +kernel
theorem like_at_tup {d : PyData} {ys : List PyData} (hd : d ∈ atoms) : like d (.tuple ys) = false ∧ like (.tuple ys) d = false := by
  rcases atom_cases hd with rfl | rfl | rfl | rfl | rfl | rfl | rfl | rfl | rfl | rfl <;>
  exact ⟨by simp [like, isB, PyData.eqv], by simp [like, isB, PyData.eqv]⟩
theorem likeAll_eq : ∀ (xs ys : List PyData), (∀ x ∈ xs, ∀ e, Tup e → (like x e = true ↔ x = e)) → (∀ y ∈ ys, Tup y) → (likeAll xs ys = true ↔ xs = ys)
  | [], [], _, _ => by simp [likeAll]
  | [], _ :: _, _, _ => by simp [likeAll]
  | _ :: _, [], _, _ => by simp [likeAll]
  | x :: xs, y :: ys, ih, hy => by
    have h1 := ih x (List.mem_cons_self ..) y (hy y (List.mem_cons_self ..))
    have h2 := likeAll_eq xs ys (fun x hx => ih x (List.mem_cons_of_mem _ hx)) (fun y hy' => hy y (List.mem_cons_of_mem _ hy'))
    simp only [likeAll, Bool.and_eq_true, h1, h2, List.cons.injEq]
theorem like_eq {d : PyData} (hd : Tup d) : ∀ e, Tup e → (like d e = true ↔ d = e) := by
  induction hd with
  | at_ hd =>
    intro e he
    cases he with
    | at_ he => exact like_atoms hd he
    | tup hy =>
      rw [(like_at_tup hd).1]
      constructor
      · intro h; cases h
      · intro h
        subst h
        simp [atoms] at hd
  | tup hx ih =>
    intro e he
    cases he with
    | at_ he =>
      rw [(like_at_tup he).2]
      constructor
      · intro h; cases h
      · intro h
        subst h
        simp [atoms] at he
    | tup hy =>
      have q := likeAll_eq _ _ (fun x hx => ih x hx) hy
      simp only [like, PyData.tuple.injEq]
      exact q
theorem like_shown {d e : PyData} (hd : Tup d) (he : Tup e) : like d e = decide (d.shown = e.shown) := by
  by_cases h : d = e
  · rw [(like_eq hd e he).mpr h, h]
    simp
  · have h1 : like d e = false := Bool.eq_false_iff.mpr fun q => h ((like_eq hd e he).mp q)
    rw [h1, decide_eq_false fun q => h ((shown_inj hd he).mp q)]

/-! ### what is drawn -/
inductive Dr : Nat → PyData → Prop
  | at_ {n : Nat} {d : PyData} : d ∈ atoms → Dr n d
  | lst {n : Nat} {xs : List PyData} : xs.length ≤ 3 → (∀ x ∈ xs, Dr n x) → Dr (n + 1) (.list xs)
  | tup {n : Nat} {xs : List PyData} : xs.length ≤ 3 → (∀ x ∈ xs, Dr n x) → Dr (n + 1) (.tuple xs)
theorem Dr.up {n : Nat} {d : PyData} (h : Dr n d) : Dr (n + 1) d := by
  induction h with
  | at_ h => exact .at_ h
  | lst h _ ih => exact .lst h ih
  | tup h _ ih => exact .tup h ih
theorem tupd_atom {d : PyData} (h : d ∈ atoms) : tupd d = d := by
  rcases atom_cases h with rfl | rfl | rfl | rfl | rfl | rfl | rfl | rfl | rfl | rfl <;> simp [tupd]
theorem tupdAll_map : ∀ xs : List PyData, tupdAll xs = xs.map tupd
  | [] => by simp [tupdAll]
  | x :: xs => by simp [tupdAll, tupdAll_map xs]
theorem Dr.tupd {n : Nat} {d : PyData} (h : Dr n d) : Dr n (K00.tupd d) := by
  induction h with
  | at_ h => rw [tupd_atom h]; exact .at_ h
  | lst h _ ih =>
    simp only [K00.tupd, tupdAll_map]
    refine .tup (by rw [List.length_map]; exact h) fun x hx => ?_
    obtain ⟨y, hy, rfl⟩ := List.mem_map.mp hx
    exact ih y hy
  | tup h _ ih =>
    simp only [K00.tupd, tupdAll_map]
    refine .tup (by rw [List.length_map]; exact h) fun x hx => ?_
    obtain ⟨y, hy, rfl⟩ := List.mem_map.mp hx
    exact ih y hy
theorem Dr.tup_of {n : Nat} {d : PyData} (h : Dr n d) : Tup (K00.tupd d) := by
  induction h with
  | at_ h => rw [tupd_atom h]; exact .at_ h
  | lst h _ ih =>
    simp only [K00.tupd, tupdAll_map]
    refine .tup fun x hx => ?_
    obtain ⟨y, hy, rfl⟩ := List.mem_map.mp hx
    exact ih y hy
  | tup h _ ih =>
    simp only [K00.tupd, tupdAll_map]
    refine .tup fun x hx => ?_
    obtain ⟨y, hy, rfl⟩ := List.mem_map.mp hx
    exact ih y hy
theorem tupd_tup {d : PyData} (h : Tup d) : tupd d = d := by
  induction h with
  | at_ h => exact tupd_atom h
  | tup _ ih =>
    rename_i xs _
    simp only [tupd, tupdAll_map, PyData.tuple.injEq]
    have q : ∀ ys : List PyData, (∀ x ∈ ys, tupd x = x) → ys.map tupd = ys := by
      intro ys
      induction ys with
      | nil => intro _; rfl
      | cons y ys ih2 =>
        intro h
        rw [List.map_cons, h y (List.mem_cons_self ..), ih2 fun x hx => h x (List.mem_cons_of_mem _ hx)]
    exact q xs ih

/-! ### what repr and == ask of data -/
structure Fine (n w : Nat) (d : PyData) : Prop where
  lay : d.canLay0 = true
  show_ : d.showable = true
  shrt : d.leavesShort 40 = true
  dep : d.depth ≤ n
  wt : d.weight ≤ w
theorem Fine.mono {n w n' w' : Nat} {d : PyData} (h : Fine n w d) (hn : n ≤ n') (hw : w ≤ w') : Fine n' w' d := ⟨h.lay, h.show_, h.shrt, Nat.le_trans h.dep hn, Nat.le_trans h.wt hw⟩
theorem fine_all : ∀ {xs : List PyData} {n w : Nat}, (∀ x ∈ xs, Fine n w x) → PyData.canLayAll0 xs = true ∧ PyData.showableAll xs = true ∧ PyData.leavesShortAll 40 xs = true ∧ PyData.depthAll xs ≤ n ∧ PyData.weightAll xs ≤ xs.length * (w + 1)
  | [], n, w, _ => ⟨by simp [PyData.canLayAll0], by simp [PyData.showableAll], by simp [PyData.leavesShortAll], by simp [PyData.depthAll], by simp [PyData.weightAll]⟩
  | x :: xs, n, w, h => by
    obtain ⟨a, b, c, d, e⟩ := h x (List.mem_cons_self ..)
    obtain ⟨a', b', c', d', e'⟩ := fine_all fun y hy => h y (List.mem_cons_of_mem _ hy)
    refine ⟨by simp [PyData.canLayAll0, a, a'], by simp [PyData.showableAll, b, b'], by simp [PyData.leavesShortAll, c, c'], ?_, ?_⟩
    · simp only [PyData.depthAll]; omega
    · simp only [PyData.weightAll, List.length_cons, Nat.add_mul, Nat.one_mul]; omega
theorem fine_list {xs : List PyData} {n w : Nat} (h : ∀ x ∈ xs, Fine n w x) : Fine (n + 1) (xs.length * (w + 1)) (.list xs) := by
  obtain ⟨a, b, c, d, e⟩ := fine_all h
  exact ⟨by simp [PyData.canLay0, a], by simp [PyData.showable, b], by simp [PyData.leavesShort, c], by simp only [PyData.depth]; omega, by simp only [PyData.weight]; exact e⟩
theorem fine_tuple {xs : List PyData} {n w : Nat} (h : ∀ x ∈ xs, Fine n w x) : Fine (n + 1) (xs.length * (w + 1)) (.tuple xs) := by
  obtain ⟨a, b, c, d, e⟩ := fine_all h
  exact ⟨by simp [PyData.canLay0, a], by simp [PyData.showable, b], by simp [PyData.leavesShort, c], by simp only [PyData.depth]; omega, by simp only [PyData.weight]; exact e⟩
theorem fine_atom {d : PyData} (h : d ∈ atoms) : Fine 0 100 d := by
  rcases atom_cases h with rfl | rfl | rfl | rfl | rfl | rfl | rfl | rfl | rfl | rfl <;> exact ⟨by decide +kernel, by decide +kernel, by decide +kernel, by decide +kernel, by decide +kernel⟩
def wOf : Nat → Nat
  | 0 => 100
  | n + 1 => 3 * (wOf n + 1)
theorem wOf_ge : ∀ n, 100 ≤ wOf n
  | 0 => Nat.le_refl _
  | n + 1 => by have := wOf_ge n; simp only [wOf]; omega
theorem Dr.fine {n : Nat} {d : PyData} (h : Dr n d) : Fine n (wOf n) d := by
  induction h with
  | at_ h => exact (fine_atom h).mono (Nat.zero_le _) (wOf_ge _)
  | lst h _ ih => exact (fine_list ih).mono (Nat.le_refl _) (Nat.mul_le_mul_right _ h)
  | tup h _ ih => exact (fine_tuple ih).mono (Nat.le_refl _) (Nat.mul_le_mul_right _ h)
theorem Fine.len {n w : Nat} {d : PyData} (h : Fine n w d) : d.shown.length ≤ 42 * w + 40 := by
  have q := PyData.shown_le 40 (by decide) d h.shrt
  have q2 := h.wt
  omega
theorem Fine.shaped {n w : Nat} {d : PyData} (h : Fine n w d) (hn : n ≤ 64) : SeqAt.shaped d = true := by
  show (d.canLay0 && decide (d.depth ≤ 64)) = true
  rw [h.lay, Bool.true_and]
  exact decide_eq_true (Nat.le_trans h.dep hn)
theorem Fine.fits {n w : Nat} {d : PyData} (h : Fine n w d) (hw : w ≤ 100000) : d.shown.length ≤ sizeLine := by
  have q := h.len
  rw [sizeLine_eq]
  omega
end K00
end K00Math2_text
section K00Sup_text
set_option Elab.async false
set_option linter.all false
set_option maxRecDepth 100000
set_option maxHeartbeats 4000000
/-! k00: a def whose first statement is super().__init__(..). -/
namespace L2
open PySem PySem.Spec PyProof.Rows
open PySem.W (Looks)

/-- what the written part tells of a method that says super() -/
structure SupTxt (P : Program) (K : PySem.W.Frag) (mg : Str → Option Value) (f c cc D : Addr) (fd : FuncData) : Prop where
  fn : ∃ oc od osl, K.lookup f = some (⟨oc, od, .func fd, osl⟩ : Obj)
  self_ : ∃ ar : Arg, (fd.params.posonlyargs ++ fd.params.args).head? = some ar ∧ ar.arg = "self"
  code : ∃ cl dd vs sl file tf, K.lookup c = some (⟨cl, dd, .fields vs, sl⟩ : Obj) ∧ vs[2]? = some (.str file tf) ∧ ((P.main.file : Str) == file) = true
  cell : ∃ cl dd sl, K.lookup cc = some (⟨cl, dd, .cell (some (.ref D)), sl⟩ : Obj)
  cls : ∃ cd, PySem.W.clsIn K D = some cd
  free : mg "super" = none
  top : (P.main.scope.names.lookup ("super" : Str)).isSome = false
  any_ : PySem.W.nsIn K cStatics "thirdparty.any" = some none

section
variable {X : Cx} {pins : List (Addr × Obj)} {σ : St} {H : Hp} {s : Shared} {E : Value → Shared → Prop}
theorem sup_obj {qual : Str} {scope : Scope} {body : List Stmt} {f c cc D x C L : Addr} {fd : FuncData} {ox : Obj} {p0 p1 : Pos} {attr : Str} {whole : Sem Value} {Q : Value → Shared → Prop}
    (T : SupTxt X.prog X.K X.mg f c cc D fd) (hE : X.env = PySem.W.envX qual scope L f (.ref c) [("__class__", cc)])
    (hks : scope.names.lookup ("super" : Str) = some .globalImplicit) (hkc : scope.names.lookup ("__class__" : Str) = some .free) (hka : scope.names.lookup ("self" : Str) = some .local) (hk : scope.kind = .function)
    (hat : (attr == ("__class__" : Str)) = false) (hN : X.N[0]? = some ("self" : Str)) (hσ : σ[0]? = some (some (.ref x)))
    (I : Inv X pins σ H s) (hx : s.heap.get? x = some ox) (hxc : ox.cls = .ref C) (hnc : ∀ q, ox.data ≠ .cls q) (hsub : PySem.W.mroIn X.K C (.ref D) = some true)
    (h : ∀ so h', Inv X pins σ H { s with heap := h' } → h'.get? so = some { cls := .type "super", dict := none, data := .fields #[.ref D, .ref x, .ref C], slots := #[] } → (∀ b o, s.heap.get? b = some o → h'.get? b = some o) → Q (.ref so) { s with heap := h' }) :
    _root_.PySem.wpAt (model X.prog X.w) X.A (.func body X.env) (attributeBase (.Call (.Name "super" p0) [] [] p1) attr X.env whole) Q E s := by
  obtain ⟨oc, od, osl, hf⟩ := T.fn
  obtain ⟨ar, hp, har⟩ := T.self_
  obtain ⟨kl, kdd, vs, ksl, file, tf, hcode, hvs, hfile⟩ := T.code
  obtain ⟨el, edd, esl, hcell⟩ := T.cell
  obtain ⟨cd, hD⟩ := T.cls
  have KX : X.K.In s.heap := I.kIn
  obtain ⟨mb, hb1, hb2⟩ := I.mod.blt
  have hks' : X.env.kindOf "super" = some .globalImplicit := by rw [hE]; exact hks
  have hkc' : X.env.kindOf "__class__" = some .free := by rw [hE]; exact hkc
  have hka' : X.env.kindOf "self" = some .local := by rw [hE]; exact hka
  have hkk : X.env.scope.kind = .function := I.ok.kind
  obtain ⟨m, hn, hl⟩ := id I.loc
  obtain ⟨u, ru, lu⟩ := hl 0 "self" (.ref x) hN hσ (.inl (by rw [hE]; exact hka))
  obtain rfl : u = Value.ref x := ru
  have hm : m "self" = some (.ref x) := by
    rcases lu with ⟨_, e⟩ | ⟨e, _⟩
    · exact e
    · rw [hka'] at e
      rcases e with e | e <;> cases e
  obtain ⟨oD, hD1, hD2⟩ : ∃ oD, s.heap.get? D = some oD ∧ oD.data = .cls cd := by
    unfold PySem.W.clsIn at hD
    split at hD
    · rename_i c d cd' sl ho
      cases hD
      exact ⟨_, KX _ _ ho, rfl⟩
    · cases hD
  refine ks_wpAt_super_base (env := X.env) hks' hkc' hat (by rw [hE]) (KX _ _ hf) rfl hp (by rw [hE]) (KX _ _ hcode) rfl hvs hfile T.top ?_
  refine PySem.W.ks_loadName_global hkk hks' (Calls.loadGlobal_builtin (by rw [I.ok.glob]; exact I.mod.glob.keeps I.bk) T.free (by rw [I.ok.blt]; exact hb1.keeps I.bk) ((hb2 _ (by decide +kernel)).trans (show bootBuiltins "super" = some (.type "super") by decide +kernel)) ⟨rfl, ?_⟩)
  refine wpAny_loadName_free hkk hkc' (c := cc) (by rw [hE]; rfl) ⟨_, KX _ _ hcell, rfl⟩ ?_
  rw [har]
  refine wpAny_loadName_local hkk hka' hn hm ?_
  obtain ⟨hp', g, d, t, os⟩ := s
  refine ks_wpAny_isType_cls hD1 hD2 ⟨rfl, ?_⟩
  refine ks_wpAny_call_super hD1 hD2 hx hxc hnc (PySem.W.looks_mroIn KX hsub) (fun h' e k => ?_)
  exact h _ h' (I.kept (t' := t) k) e k
end
end L2
end K00Sup_text
section K00SupE_text
set_option Elab.async false
set_option linter.all false
set_option maxRecDepth 100000
set_option maxHeartbeats 4000000
/-! k00: super().__init__(..) in an exception's __init__, in a paper's. -/
namespace L2
open PySem PySem.Spec PyProof.Rows
open PySem.W (Looks)

/-- the class C of self and the class D of the method: what super() finds -/
structure SupExc (K : PySem.W.Frag) (C D : Addr) : Prop where
  oex : OexC K C
  sub : PySem.W.mroIn K C (.ref D) = some true
  ini : PySem.W.ks_superIn K C D "__init__" = some (some (.builtin "ValueError.__init__"))
  isVE : PySem.W.subIn K (.ref C) (.type "ValueError") = some true

section
variable {X : Cx} {pins : List (Addr × Obj)} {σ : St} {H : Hp} {s : Shared}
theorem sup_exc {qual : Str} {scope : Scope} {body : List Stmt} {f c cc D x C L : Addr} {fd : FuncData} {p0 p1 p2 p3 p4 : Pos} {e : Expr} {es : List Expr} {ta : TA} {k : Hp → Prop} {pl : Sem Bool}
    (T : SupTxt X.prog X.K X.mg f c cc D fd) (TE : SupExc X.K C D) (hE : X.env = PySem.W.envX qual scope L f (.ref c) [("__class__", cc)])
    (hks : scope.names.lookup ("super" : Str) = some .globalImplicit) (hkc : scope.names.lookup ("__class__" : Str) = some .free) (hka : scope.names.lookup ("self" : Str) = some .local) (hk : scope.kind = .function)
    (hN : X.N[0]? = some ("self" : Str)) (hσ : σ[0]? = some (some (.ref x)))
    (I : Inv X pins σ H s) (hx : H x = some (exo x C none)) (ha : PA X (e :: es) ta)
    (h : ta σ H fun ws H1 => ws.length ≤ 1000 ∧ H1 x = some (exo x C none) ∧ k H1)
    (he : starEach (e :: es) X.env = (false, eval e X.env) :: starEach es X.env) (hpl : (backTo p3 (starEach es X.env)).any (·.1) = false)
    (hc : eval (.Call (.Attribute (.Call (.Name "super" p0) [] [] p1) "__init__" p2) (e :: es) [] p3) X.env = (do
      let ov ← attributeBase (.Call (.Name "super" p0) [] [] p1) "__init__" X.env (eval (.Call (.Name "super" p0) [] [] p1) X.env)
      standAt p2.atName
      let (f, first) ← holding [ov] (getMethod ov "__init__" pl)
      callWith p3 f first (backTo p3 (starEach (e :: es) X.env)) []))
    (hi : interactive X.env = false) (hsw : swapsWith (.Call (.Attribute (.Call (.Name "super" p0) [] [] p1) "__init__" p2) (e :: es) [] p3) none p4.line X.env = pure false) :
    _root_.PySem.wpAt (model X.prog X.w) X.A (.func body X.env) (exec (.Expr (.Call (.Attribute (.Call (.Name "super" p0) [] [] p1) "__init__" p2) (e :: es) [] p3) p4) X.env)
      (fun fl s' => fl = .next ∧ ∃ H1, Inv X pins σ H1 s' ∧ k H1) X.xe s := by
  obtain ⟨t1, ho⟩ := exo_at I.hok hx
  refine ks_wpAt_Expr_any (ks_wpAt_MethodCall (pl := pl) ?_ hc) hi hsw
  refine sup_obj T hE hks hkc hka hk (by decide) hN hσ I ho rfl (fun q => nofun) TE.sub (fun so h1 J eso k1 => ?_)
  obtain ⟨hp, g, d, t, os⟩ := s
  have hx1 := k1 _ _ ho
  have II : PySem.W.InstAt h1 x { cls := .ref C, dict := none, data := .fields #[.ref t1, .none, .none, .none, .bool false, .none] } C none := ⟨hx1, rfl, rfl, trivial⟩
  have KX1 : X.K.In h1 := J.kIn
  have hI : Looks (model X.prog X.w) h1 (isInstance (.ref x) (.type "ValueError")) true := II.type.andThen (PySem.W.looks_subIn KX1 TE.isVE)
  have hm := TE.ini
  cases hcC : PySem.W.clsIn X.K C with
  | none => unfold PySem.W.ks_superIn at hm; rw [hcC] at hm; cases hm
  | some cd =>
    unfold PySem.W.ks_superIn at hm
    rw [hcC] at hm
    refine PySem.W.kxs_getMethod PySem.W.kxs_ValueError eso (PySem.W.looks_opaque KX1 T.any_) (l₀ := cd.mro) ?_ rfl KX1 hm hI (PySem.W.ks_ne KX1 II hcC) (by decide) ?_
    · exact fun A Q E s k q => wpAny_bind ((PySem.W.looks_clsIn KX1 hcC) A _ E s k (wpAny_pure q))
    · have hpush : (h1.push (PySem.W.kxs_mw "ValueError.__init__" x)).get? h1.objs.size = some (PySem.W.kxs_mw "ValueError.__init__" x) := Heap.get?_push_at rfl rfl
      have J2 := J.kept (t' := t + 1) (h' := h1.push (PySem.W.kxs_mw "ValueError.__init__" x)) (fun b o e => Heap.get?_push_of_some _ e)
      have J3 : Inv X ((h1.objs.size, PySem.W.kxs_mw "ValueError.__init__" x) :: pins) σ H _ := J2.pins_of fun p hp => by
        rcases List.mem_cons.mp hp with rfl | hp
        · exact ⟨hpush, J.hok.fresh (Nat.le_refl _), Nat.ne_of_gt J.lt, J.nofs (Nat.le_refl _), fun v => nofun⟩
        · exact J2.pin p (List.mem_append_right _ hp)
      have R := ha.run p3 _ _ σ H _ J3 h
      rw [he] at R ⊢
      refine PySem.W.kxs_callWith (i := "ValueError.__init__") (x := x) (by show (false || (backTo p3 (starEach es X.env)).any (·.1)) = false; rw [hpl]; rfl) ?_
      refine Calls.evalArgs_plain (thn R fun us s3 ⟨ws, H1, I3, r, hlen, hx3, hk3⟩ => ?_)
      obtain ⟨hu, _⟩ := I3.pin (h1.objs.size, PySem.W.kxs_mw "ValueError.__init__" x) (List.mem_append_right _ (List.mem_cons_self ..))
      refine ⟨hu, ?_⟩
      obtain ⟨nm, q, N, bs, bm, sn, sub, ab, col, dd, k0, k1', k2, k3, k5, hC, hbm⟩ := TE.oex.cls
      obtain ⟨t3, ho3⟩ := exo_at I3.hok hx3
      have hz : us.length ≤ sizeLine := by
        rw [← Paired.length r, sizeLine_eq]
        omega
      obtain ⟨hp3, g3, d3, tk3, os3⟩ := s3
      refine wpAny_call (codeAny_of_tree ?_)
      show wpAny _ X.A.in1 (callAny (.ref h1.objs.size) ⟨us, []⟩) _ _ _
      simp only [callAny]
      refine wpAny_bind (wpAny_load hu ?_)
      simp only [PySem.W.kxs_mw, show (Value.type "method-wrapper" == Value.type "method" || Value.type "method-wrapper" == Value.type "builtin_function_or_method" || Value.type "method-wrapper" == Value.type "method-wrapper") = true by decide, if_true]
      refine PySem.W.KFB.if_so (by decide) ?_
      refine wpAny_bind (PySem.W.check_bound_init PySem.F.excBase_ValueError.toExcCallFacts (I3.kIn _ _ hC) ho3 rfl ?_)
      refine wpAny_bind (wpAny_pure (wpAny_pure ?_))
      refine ⟨plainId_quiet PySem.F.excBase_ValueError.init.plain _, codeAny_builtin PySem.F.excBase_ValueError.initEntry ?_⟩
      refine PySem.W.exc_init_tree (cls := .ref C) (t0 := t3) (dv := none) (c2 := .none) (c3 := .none) (b4 := .bool false) ho3 hz fun h' kk e' t' => ?_
      have J4 := I3.write (t' := tk3) (x := x) (e := x) (o := exo x C none) (by rw [hx3]; exact True.intro) (.inl rfl) kk ⟨_, e'⟩ (exo_ok e')
      have eu : upd H1 x (exo x C none) = H1 := by
        funext b
        by_cases hb : b = x
        · rw [hb, upd_same, hx3]
        · rw [upd_ne hb]
      rw [eu] at J4
      exact ⟨by first | trivial | exact rfl, H1, J4.pins_of fun p hp => J4.pin p (by
        rcases List.mem_append.mp (List.mem_append_right X.pn hp) with z | z
        · exact List.mem_append_left _ z
        · exact List.mem_append_right _ (List.mem_cons_of_mem _ z)), hk3⟩
end
end L2
end K00SupE_text
section K00Fn_text
set_option Elab.async false
set_option linter.all false
set_option maxRecDepth 100000
set_option maxHeartbeats 4000000
/-! k00: the promise of a def with the cell __class__ whose first statement is walked apart. -/
namespace L2
open PySem PySem.Spec PyProof.Rows
open PySem.W (Looks)
open NdefX StX

theorem cells_cls {K : PySem.W.Frag} {P : Program} {w : World} {mg : Str → Option Value} {base : Heap} {A : Around} {outer : List Env} {s : Shared} {H : Hp} {cc : Addr} {v : Option Value} {cl : Value} {cd : Option Addr} {sl : Array (Option Value)}
    (e0 : Env0 P w K mg base A outer s H) (hcell : K.lookup cc = some (⟨cl, cd, .cell v, sl⟩ : Obj)) : CellsAt [("__class__", cc)] ["__class__"] [none] s.heap H := by
  have hb := e0.mod.kin _ _ hcell
  obtain ⟨h1, h2⟩ := e0.bs _ _ hb
  have one : ∀ {y : Str} {c : Addr}, List.lookup y [(("__class__" : Str), cc)] = some c → y = ("__class__" : Str) ∧ c = cc := by
    intro y c e
    by_cases hy : y = ("__class__" : Str)
    · subst hy
      have q : List.lookup ("__class__" : Str) [(("__class__" : Str), cc)] = some cc := by simp [List.lookup]
      rw [q] at e
      exact ⟨rfl, (Option.some.inj e).symm⟩
    · have q : (y == ("__class__" : Str)) = false := by simpa using hy
      simp [List.lookup, q] at e
  refine ⟨rfl, fun y c e => ?_, fun x y c e1 e2 => ?_, fun i y e => ?_⟩
  · obtain ⟨_, rfl⟩ := one e
    exact ⟨h2, v, _, h1, rfl⟩
  · rw [(one e1).1, (one e2).1]
  · match i, e with
    | 0, e =>
      have ey : ("__class__" : Str) = y := Option.some.inj e
      subst ey
      refine ⟨cc, by simp [List.lookup], fun v e2 => ?_⟩
      have z : (some none : Option (Option V)) = some (some v) := e2
      cases z
    | i + 1, e => simp at e

section
variable {P : Program} {w : World} {K : PySem.W.Frag} {mg : Str → Option Value} {base : Heap}
theorem fn_at {F : NF} {f cc : Addr} {k : Nat} {N ps : List Str} {sp : Sp} {oc kV doc pm ctv : Value} {od an : Option Addr} {osl : Array (Option Value)} {st0 : Stmt} {rest : List Stmt}
    (hcl : F.cl = [(("__class__" : Str), cc)]) (hbd : F.body = st0 :: rest)
    (lk : K.lookup f = some (⟨oc, od, .func (PySem.W.fnX F.name F.qual F.params F.body F.scope F.cl .none kV doc pm an (.ref F.c) ctv), osl⟩ : Obj)) (hcd : PySem.W.codeIn K (.ref F.c) F.qual = true)
    {cl : Value} {cd : Option Addr} {sl : Array (Option Value)} {cv : Option Value} (hcell : K.lookup cc = some (⟨cl, cd, .cell cv, sl⟩ : Obj))
    (S : NScope N ps ["__class__"] F.scope) (len : ∀ vs H Q E, sp vs H Q E → vs.length = ps.length)
    (hbody : ∀ (A : Around) (outer : List Env) (s : Shared) (H : Hp) (vs : List V) (Q : VK) (E : XK), Room k (A.deeper (envF F f s.heap.objs.size)) → sp vs H Q E → ∀ s1, Inv (ncx CX0 P w K mg base N F f A outer s H E) [] (startF N vs [none]) H s1 →
      _root_.PySem.wpAt (model P w) (A.deeper (envF F f s.heap.objs.size)) (.func F.body (envF F f s.heap.objs.size)) (exec st0 (envF F f s.heap.objs.size))
        (fun fl s' => fl = .next ∧ ∃ H1, Inv (ncx CX0 P w K mg base N F f A outer s H E) [] (startF N vs [none]) H1 s' ∧
          ∃ t, PSs (ncx CX0 P w K mg base N F f A outer s H E) rest t ∧ t { nx := fun _ H' => Q .non H', rt := Q } (startF N vs [none]) H1) (ncx CX0 P w K mg base N F f A outer s H E).xe s1) :
    FnOk P w K mg base CX0 (k + 1) f (PySem.W.fnX F.name F.qual F.params F.body F.scope F.cl .none kV doc pm an (.ref F.c) ctv) ps sp := by
  refine ⟨len, fun A outer s H args us vs Q E hr e0 hb r hsp => ?_⟩
  have hl := len _ _ _ _ hsp
  have KX : K.In s.heap := e0.mod.kin.keeps fun b o e => (e0.bs b o e).1
  have lim : s.heap.NoLimit := e0.mod.nolimit.keeps fun b o e => (e0.bs b o e).1
  refine codeAny_call_function hr.depth (KX _ _ lk) rfl S.co S.gen rfl (PySem.W.codeRec_of KX hcd) (hb _ _ _ _ ?_)
  refine wpAny_newFunctionEnv S.nocell (fun ⟨n, _⟩ hy => S.par n (List.of_mem_zip hy).1) (fun h₁ hns hsb => ⟨lim.fresh _ hsb, ?_⟩) S.kind
  have kp : ∀ b o, s.heap.get? b = some o → h₁.get? b = some o := fun b o e => hsb.extBut b o (Nat.ne_of_lt (Heap.lt_size e)) (Heap.get?_push_of_some _ e)
  have C : CellsAt F.cl ["__class__"] [none] s.heap H := by rw [hcl]; exact cells_cls e0 hcell
  have I : Inv (ncx CX0 P w K mg base N F f A outer s H E) [] (startF N vs [none]) H { s with heap := h₁, toks := s.toks + (ps.zip us).length } := inv_startN S hr.hd e0 hl r C hns kp
  have B := hbody A outer s H vs Q E (hr.deeper _) hsp _ I
  show codeAny _ _ (.func F.body (envF F f s.heap.objs.size)) _ _
  refine ks_codeAny_funcAt ?_
  rw [hbd] at B ⊢
  refine ks_wpAt_execs_cons (ks_wpAt_mono B (fun fl s' hs => ?_) fun e s' hs => hs)
  obtain ⟨rfl, H1, J, t, ht, hq⟩ := hs
  show _root_.PySem.wpAt _ _ _ (execs rest _) _ _ s'
  refine wpAt_of_wpAny (wpAny_mono (ht.run [] _ (startF N vs [none]) H1 _ J hq) (fun fl s2 hs => ?_) fun e s2 hs => hs)
  have fin : ∀ {σ' : L2.St} {H' : Hp} {v : V} {u : Value}, Inv (ncx CX0 P w K mg base N F f A outer s H E) [] σ' H' s2 → L2.RelV v u → Q v H' → CE outer P w H s Q u s2 :=
    fun {σ' H' v u} J rv q => ⟨v, H', J.os, J.bare, J.base, J.hok, rv, q⟩
  cases fl with
  | ret u =>
    obtain ⟨v, σ', H', J, rv, q⟩ := hs
    exact fin J rv q
  | next =>
    obtain ⟨σ', H', J, q⟩ := hs
    exact fin (v := V.non) (u := Value.none) J rfl q
  | brk =>
    obtain ⟨_, _, _, q⟩ := hs
    exact False.elim q
  | cont =>
    obtain ⟨_, _, _, q⟩ := hs
    exact False.elim q
end
end L2
end K00Fn_text
section K00ExcV_text
set_option Elab.async false
set_option linter.all false
set_option maxRecDepth 100000
set_option maxHeartbeats 4000000
/-! k00: an own exception with its own __init__ as a value, with values by place and by name. -/
namespace PySem
namespace HandSPX
open PySem.W PySem.Calls PyProof.Rows
section
variable {M : Model} {A : Around} {E : Value → Shared → Prop} {h : Heap} {g : Array GenState} {d : Drawn} {t : Nat} {os : OsState}
variable {nm q : Str} {C N : Addr} {bs bm bmB : List Value} {hdct : Bool} {sn : List Str} {sub : List Value} {ab : Bool} {col : Option Bool} {dd : Option Addr} {k0 k1 k2 k3 k5 : Option Value} {B newId initId : String}
theorem kw_check_new (F : ExcBaseFacts B newId initId bmB) (hT : ∀ X : String, bm.contains (.type X) = bmB.contains (.type X)) {rest : List Value} {kw : List (Str × Value)} {Q : Unit → Shared → Prop}
    (hC : h.get? C = some (excClassObj nm q C N bs bm hdct sn sub ab col dd k0 k1 k2 k3 k5 newId)) (hq : Q () ⟨h, g, d, t, os⟩) : wpAny M A (checkBuiltinCall newId ⟨.ref C :: rest, kw⟩) Q E ⟨h, g, d, t, os⟩ := by
  have hcont : (Value.ref C :: bm).contains (.type B) = true := by rw [List.contains_cons, hT, F.hasB, Bool.or_true]
  have hstar := F.noStar
  simp only [checkBuiltinCall, F.newKind, F.newSplit, F.newRow]
  repeat (first | refine wpAny_loadPart_at hC ?_ | (refine wpAny_isSubtype_exc hC ?_; rw [hcont]) | refine wpAny_staticBase_exc hC ?_ | refine wpAny_madeBy_exc hC ?_ | simp only [bne_self_eq_false, Bool.false_eq_true, if_false] | wp_step)
  exact hq
theorem kw_check_tc {kw : List (Str × Value)} {rest : List Value} {Q : Unit → Shared → Prop} (hC : h.get? C = some (excClassObj nm q C N bs bm hdct sn sub ab col dd k0 k1 k2 k3 k5 newId))
    (hq : Q () ⟨h, g, d, t, os⟩) : wpAny M A (checkBuiltinCall "type.__call__" ⟨.ref C :: rest, kw⟩) Q E ⟨h, g, d, t, os⟩ := by
  have f3 := tc_sub
  have hT : (⟨h, g, d, t, os⟩ : Shared).TypeIs (.ref C) "type" := ⟨_, hC, rfl⟩
  simp only [checkBuiltinCall, tc_kind, tc_split]
  repeat (any_goals (first | assumption | with_reducible refine wpAny_loadPart_at hC ?_ | with_reducible refine wpAny_onRaise ?_ | with_reducible refine wpAny_map ?_ | wp_step))
end
section
variable {prog : Program} {w : World} {A : Around} {E : Value → Shared → Prop} {R : Result → Shared → Prop} {h : Heap} {g : Array GenState} {d : Drawn} {t : Nat} {os : OsState}
variable {nm q : Str} {C N : Addr} {bs bm bmB : List Value} {hdct : Bool} {sn : List Str} {sub : List Value} {ab : Bool} {col : Option Bool} {dd : Option Addr} {k0 k1 k2 k3 k5 : Option Value} {B newId initId : String}
theorem kw_new (F : ExcBaseFacts B newId initId bmB) (hT : ∀ X : String, bm.contains (.type X) = bmB.contains (.type X)) {rest : List Value} {kw : List (Str × Value)}
    (hC : h.get? C = some (excClassObj nm q C N bs bm hdct sn sub ab col dd k0 k1 k2 k3 k5 newId))
    (hq : R (.ok (.ret (.ref (h.objs.size + 1)))) ⟨(h.push { cls := .type "tuple", data := .seq rest.toArray }).push
      { cls := .ref C, data := .fields #[.ref h.objs.size, .none, .none, .none, .bool false, .none] }, g, d, t, os⟩) (hrest : rest.length ≤ sizeLine) :
    codeAny (model prog w) A (.builtin newId ⟨.ref C :: rest, kw⟩) R ⟨h, g, d, t, os⟩ := by
  have hends := F.ends
  have hcB : (Value.ref C :: bm).contains (.type B) = true := by rw [List.contains_cons, hT, F.hasB, Bool.or_true]
  have hcA : (Value.ref C :: bm).contains (.type "AttributeError") = false := by rw [List.contains_cons, hT, F.noAttr]; rfl
  have hcN : (Value.ref C :: bm).contains (.type "NameError") = false := by rw [List.contains_cons, hT, F.noName]; rfl
  refine codeAny_builtinAt F.entry ?_
  unfold Builtin.«BaseException.__new__»
  refine wpAt_bind ?_
  show wpAt _ _ _ (stack >>= _) _ _ _
  refine wpAt_bind (wpAt_stack fun p below => wpAt_of_wpAny ?_)
  wp_walk
  refine wpAt_of_wpAny ?_
  rw [F.owner]
  repeat (first | with_reducible refine wpAny_madeHere_exc F.canon hC ?_ | with_reducible refine wpAny_loadPart_at hC ?_ | (with_reducible refine wpAny_isSubtype_exc hC ?_; first | rw [hcB] | rw [hcA] | rw [hcN]) | wp_step)
  show R _ _
  rw [Heap.size_push]
  exact hq
theorem kw_type_call (F : ExcBaseFacts B newId initId bmB) (hT : ∀ X : String, bm.contains (.type X) = bmB.contains (.type X)) {rest : List Value} {kw : List (Str × Value)} {fI : Addr} {Q : Fin → Shared → Prop}
    (hC : h.get? C = some (excClassObj nm q C N bs bm hdct sn sub ab col dd k0 k1 k2 k3 k5 newId))
    (hi : W.Looks (model prog w) h (typeLookup (.ref C) "__init__") (some (.ref fI))) (hb : ∀ self, W.Looks (model prog w) h (bindSpecial (.ref fI) self) (.ref fI, [self])) (hrest : rest.length ≤ sizeLine)
    (hq : codeAny (model prog w) A (.call (.ref fI) ⟨.ref (h.objs.size + 1) :: rest, kw⟩)
      (fun r s' => match r with | .ok (.ret v) => v = .none ∧ Q (.done (.ret (.ref (h.objs.size + 1)))) s' | .ok _ => False | .error e => E e s')
      ⟨(h.push (W.kdv_tup rest)).push (excO C h.objs.size), g, d, t, os⟩) :
    wpAny (model prog w) A (Builtin.«type.__call__» ⟨.ref C :: rest, kw⟩) Q E ⟨h, g, d, t, os⟩ := by
  repeat (first | with_reducible refine wpAny_loadPart_at hC ?_ | with_reducible refine wpAny_madeBy_exc hC ?_ | wp_step)
  refine codeAny_call_builtin_code (Code.quiet_builtin _ F.quiet) (kw_check_new F hT hC ?_)
  refine kw_new F hT hC ?_ hrest
  show wpAny _ _ _ _ _ _
  have k : ∀ b o, h.get? b = some o → ((h.push (W.kdv_tup rest)).push (excO C h.objs.size)).get? b = some o := fun b o e => Heap.get?_push_of_some _ (Heap.get?_push_of_some _ e)
  have hC₁ := k _ _ hC
  have hget : ((h.push (W.kdv_tup rest)).push (excO C h.objs.size)).get? (h.objs.size + 1) = some (excO C h.objs.size) := by heap_get
  have hcC : (Value.ref C :: bm).contains (.ref C) = true := by simp
  have i1 := hi.keeps k
  have b1 := (hb (.ref (h.objs.size + 1))).keeps k
  unfold isInstance
  repeat (first | with_reducible refine wpAny_loadPart_at hget ?_ | (with_reducible refine wpAny_isSubtype_exc hC₁ ?_; rw [hcC]) | wp_step)
  show wpAny _ _ (typeLookup (.ref C) _) _ _ _
  refine i1.at ?_
  refine wpAny_holding (wpAny_bind (b1.at ?_))
  refine wpAny_bind (wpAny_call (codeAny_mono hq fun r s' z => ?_))
  rcases r with e | (v | _ | _ | _) <;> first | exact z | exact z.elim | skip
  obtain ⟨rfl, z⟩ := z
  first
    | exact wpAny_pure (wpAny_pure z)
    | (wp_walk; exact z)
theorem kw_call (F : ExcBaseFacts B newId initId bmB) (hT : ∀ X : String, bm.contains (.type X) = bmB.contains (.type X)) {rest : List Value} {kw : List (Str × Value)} {fI : Addr}
    (hC : h.get? C = some (excClassObj nm q C N bs bm hdct sn sub ab col dd k0 k1 k2 k3 k5 newId))
    (hi : W.Looks (model prog w) h (typeLookup (.ref C) "__init__") (some (.ref fI))) (hb : ∀ self, W.Looks (model prog w) h (bindSpecial (.ref fI) self) (.ref fI, [self])) (hrest : rest.length ≤ sizeLine)
    (hq : codeAny (model prog w) (A.under (.builtin "type.__call__" ⟨.ref C :: rest, kw⟩)) (.call (.ref fI) ⟨.ref (h.objs.size + 1) :: rest, kw⟩) (W.InitBack (h.objs.size + 1) R)
      ⟨(h.push (W.kdv_tup rest)).push (excO C h.objs.size), g, d, t, os⟩) :
    codeAny (model prog w) A (.call (.ref C) ⟨rest, kw⟩) R ⟨h, g, d, t, os⟩ := by
  have f1 := tc_lookup
  have f2 := tc_bind (.ref C)
  have hTy : (⟨h, g, d, t, os⟩ : Shared).TypeIs (.ref C) "type" := ⟨_, hC, rfl⟩
  refine codeAny_of_tree ?_
  show wpAny _ _ (callAny (.ref C) _) _ _ _
  repeat (any_goals (first | assumption | with_reducible refine wpAny_loadPart_at hC ?_ | wp_step))
  refine ⟨rfl, ?_⟩
  refine codeAny_call_builtin_at (Code.quiet_builtin _ (by decide +kernel)) entry_typeCall (kw_check_tc hC (kw_type_call F hT hC hi hb hrest ?_))
  refine codeAny_mono hq fun r s' z => ?_
  rcases r with e | (v | _ | _ | _) <;> exact z
end
end HandSPX
end PySem
end K00ExcV_text
section K00ExcR_text
set_option Elab.async false
set_option linter.all false
set_option maxRecDepth 100000
set_option maxHeartbeats 4000000
/-! k00: rules over exceptions that are held as values. -/
namespace L2
open PySem PySem.Spec PyProof.Rows
open PySem.W (Looks)

/-- what the written part tells of an exception class with its own __init__ -/
structure OexM (K : PySem.W.Frag) (C fI : Addr) : Prop where
  oex : OexC K C
  ini : PySem.W.findIn K (.ref C) "__init__" = some (some (.ref fI))
  tyI : PySem.W.typeIn K (.ref fI) = some (.type "function")

def tMkV (C : Addr) (sp : Sp) (ta : TA) : TE := fun σ H Q => ta σ H fun vs H1 => vs.length ≤ 1000 ∧ ∀ a, H1 a = none → sp (.ref a :: vs) (upd H1 a (exo a C none)) (fun v H2 => v = .non ∧ Q (.ref a) H2) (fun _ _ _ => False)
def tMkVK (C : Addr) (m : Nat) (sp : Sp) (gV : List V → List V → List V) (tk : TA) : TE := fun σ H Q => tk σ H fun zs H1 => zs.length = m ∧ ∀ a, H1 a = none → sp (gV [.ref a] zs) (upd H1 a (exo a C none)) (fun v H2 => v = .non ∧ Q (.ref a) H2) (fun _ _ _ => False)

section
variable {X : Cx} {CX : CXT} {x : Str} {C fI : Addr} {k : Nat} {fd : FuncData} {ps ks : List Str} {sp : Sp} {e : Expr} {es : List Expr} {kws : List Keyword} {ta tk : TA} {p pos : Pos} {g : List Value → List Value → List Value} {gV : List V → List V → List V}
theorem run_mkv {pins : List (Addr × Obj)} {σ : St} {H1 : Hp} {s1 : Shared} {Q : VK} {us : List Value} {kw : List (Str × Value)} (T : OexM X.K C fI) (F1 : FnOk X.prog X.w X.K X.mg X.base CX k fI fd ps sp) (hr : Room (k + 1) X.A) (hx : Passes CX X (fun _ _ _ => False))
    (I1 : Inv X pins σ H1 s1) (hz : us.length ≤ sizeLine) {bs : Value → List Value} {vv : Addr → List V} (hb : ∀ (a : Addr) (s : Shared), X.K.In s.heap → BindsTo s fd ⟨.ref a :: us, kw⟩ (ps.zip (bs (.ref a)))) (r : ∀ a, Vals (vv a) (bs (.ref a)))
    (q1 : ∀ a, H1 a = none → sp (vv a) (upd H1 a (exo a C none)) (fun v H2 => v = .non ∧ Q (.ref a) H2) (fun _ _ _ => False)) :
    wpAny (model X.prog X.w) X.A (call (.ref C) us kw) (EP X pins σ Q) X.xe s1 := by
  obtain ⟨nm, q, N, bbs, bm, sn, sub, ab, col, dd, k0, k1, k2, k3, k5, hC, hbm⟩ := T.oex.cls
  obtain ⟨hp, gg, dr, tk, os⟩ := s1
  have hsz : hp.objs.size ≤ hp.objs.size + 1 := Nat.le_succ _
  have hn : H1 (hp.objs.size + 1) = none := I1.hok.fresh hsz
  have hq := q1 (hp.objs.size + 1) hn
  have kk : ∀ b o, hp.get? b = some o → ((hp.push (PySem.W.kdv_tup us)).push (PySem.HandSPX.excO C hp.objs.size)).get? b = some o := fun b o e => Heap.get?_push_of_some _ (Heap.get?_push_of_some _ e)
  have hget : ((hp.push (PySem.W.kdv_tup us)).push (PySem.HandSPX.excO C hp.objs.size)).get? (hp.objs.size + 1) = some (PySem.HandSPX.excO C hp.objs.size) := by heap_get
  have I2 : Inv X pins σ (upd H1 (hp.objs.size + 1) (exo (hp.objs.size + 1) C none)) ⟨(hp.push (PySem.W.kdv_tup us)).push (PySem.HandSPX.excO C hp.objs.size), gg, dr, tk, os⟩ :=
    I1.laid (t' := tk) (a := hp.objs.size + 1) (o := exo (hp.objs.size + 1) C none) (h' := (hp.push (PySem.W.kdv_tup us)).push (PySem.HandSPX.excO C hp.objs.size)) kk hsz (exo_ok hget)
  refine wpAny_call (PySem.HandSPX.kw_call F.excBase_ValueError (fun Y => PySem.HandSPX.refsVE_contains Y bm hbm) (I1.kIn _ _ hC) (PySem.W.looks_findIn I1.kIn T.ini) (fun self => PySem.W.bind_fn I1.kIn self T.tyI) hz
    (codeAny_mono (F1.run _ X.stack _ _ ⟨Value.ref (hp.objs.size + 1) :: us, kw⟩ (bs (.ref (hp.objs.size + 1))) _ _ (fun _ _ _ => False) (hr.make C us kw) (I2.env0.make C us kw) (hb _ _ I2.kIn) (r _) hq) fun rr s' hq' => ?_))
  cases rr with
  | error er => exact hx pins σ _ _ er s' I2 hq'
  | ok fl =>
    cases fl with
    | ret u =>
      obtain ⟨v, H', I3, rv, ev, q3⟩ := I2.after hq'
      subst ev
      exact ⟨rv, ⟨V.ref (hp.objs.size + 1), H', I3, rfl, q3⟩⟩
    | next => exact False.elim hq'
    | brk => exact False.elim hq'
    | cont => exact False.elim hq'
/-- C(e, ..), held as a value -/
theorem pe_mkv (T : OexM X.K C fI) (F1 : FnOk X.prog X.w X.K X.mg X.base CX k fI fd ps sp) (hr : Room (k + 1) X.A) (hb : Binds X.K fd ps []) (hx : Passes CX X (fun _ _ _ => False)) (hg : Gl X x) (hm : X.mg x = some (.ref C)) (ha : PA X (e :: es) ta)
    (hdb : (x == ("__debug__" : Str)) = false := by decide) (he : starEach (e :: es) X.env = (false, eval e X.env) :: starEach es X.env := by rfl) (hpl : (backTo pos (starEach es X.env)).any (·.1) = false := by rfl) :
    PE X (.Call (.Name x p) (e :: es) [] pos) (tMkV C sp ta) := by
  refine ⟨fun pins s σ H Q I h => ?_⟩
  refine wpAny_Call_Name_kw (ld_glob I hg hm ?_ hdb)
  refine PySem.W.callWith_K (h₀ := X.base) I.ok.mod.kin T.oex.kC (thn (ha.run pos pins s σ H _ I h) fun us s1 ⟨vs, H1, I1, r1, hz, q1⟩ => ⟨I1.kIn, ?_⟩) he hpl
  have hus : us.length ≤ sizeLine := by
    rw [← Paired.length r1, sizeLine_eq]
    omega
  have hl : ∀ a : Addr, (Value.ref a :: us ++ []).length = ps.length := fun a => by
    have hq := q1 (s1.heap.objs.size + 1) (I1.hok.fresh (Nat.le_succ _))
    have e := F1.len _ _ _ _ hq
    rw [List.append_nil, ← e, List.length_cons, List.length_cons, r1.length]
  exact run_mkv (bs := fun v => v :: us ++ []) (vv := fun a => V.ref a :: vs) T F1 hr hx I1 hus (fun a s' KI => hb s' (.ref a :: us) KI (hl a)) (fun a => by rw [List.append_nil]; exact .cons rfl r1) q1
/-- C(k = v, ..), held as a value -/
theorem pe_mkvK (T : OexM X.K C fI) (F1 : FnOk X.prog X.w X.K X.mg X.base CX k fI fd ps sp) (hr : Room (k + 1) X.A) (hb : KBn X.K fd ps 1 ks g gV) (hx : Passes CX X (fun _ _ _ => False)) (hg : Gl X x) (hm : X.mg x = some (.ref C)) (hkw : PK X kws tk)
    (hall : (backToKw pos (keywordEach kws X.env)).all (·.1.isSome) = true := by rfl) (hks : (backToKw pos (keywordEach kws X.env)).filterMap (·.1) = ks := by rfl) (hdb : (x == ("__debug__" : Str)) = false := by decide)
    (hpl : ((backTo pos (starEach [] X.env)).any (·.1) || (backToKw pos (keywordEach kws X.env)).any (·.1.isNone)) = false := by rfl) :
    PE X (.Call (.Name x p) [] kws pos) (tMkVK C ks.length sp gV tk) := by
  refine ⟨fun pins s σ H Q I h => ?_⟩
  refine wpAny_Call_Name_kw (ld_glob I hg hm ?_ hdb)
  refine PySem.W.callWith_KW0 (h₀ := X.base) I.ok.mod.kin T.oex.kC hall ?_ hpl
  refine thn (hkw.run pos pins s σ H _ I h) fun ws s2 ⟨zs, H2, I2, rz, l2, q2⟩ => ⟨I2.kIn, ?_⟩
  rw [hks]
  show wpAny _ _ (call (.ref C) [] (ks.zip ws)) _ _ _
  exact run_mkv (us := []) (bs := fun v => g [v] ws) (vv := fun a => gV [V.ref a] zs) T F1 hr hx I2 (Nat.zero_le _) (fun a s' KI => hb.to s' [.ref a] ws KI rfl (rz.length.symm.trans l2)) (fun a => hb.rel (.cons rfl .nil) rz) q2

/-- e.n, e an exception that is held: its dict's field -/
def tXv (K : PySem.W.Frag) (n : Str) (te : TE) : TE := fun σ H Q => te σ H fun y H1 => ∃ (a C d : Addr) (fs : List (Str × V)) (v : V), y = .ref a ∧ H1 a = some (exo a C (some d)) ∧ H1 d = some (exd d fs) ∧ XfC K C ∧ PySem.W.findIn K (.ref C) n = some none ∧ fs.lookup n = some v ∧ Q v H1
theorem pe_xv {o : Expr} {te : TE} {n : Str} (he : PE X o te) (hb : attributeBase o n X.env (eval o X.env) = eval o X.env := by rfl) : PE X (.Attribute o n pos) (tXv X.K n te) := by
  refine ⟨fun pins s σ H Q I h => ?_⟩
  refine attr_of hb (thn (he.run pins s σ H _ I h) fun u s1 hh => ?_)
  obtain ⟨y, H1, I1, ry, a, C, d, fs, v, ey, ea, ed, T, hno, l, q⟩ := hh
  subst ey
  obtain rfl : u = Value.ref a := ry
  obtain ⟨t1, ho⟩ := exo_at I1.hok ea
  obtain ⟨mA, hns, hr⟩ := exd_at I1.hok ed
  obtain ⟨od, hod, hl⟩ := lookIn_ns hns
  obtain ⟨u, hu, ru⟩ := RelO.some_of (v := v) (o := mA n) (by rw [← l]; exact hr n)
  have J : PySem.W.InstAt s1.heap a { cls := .ref C, dict := some d, data := .fields #[.ref t1, .none, .none, .none, .bool false, .none] } C (some od) := ⟨ho, rfl, rfl, hod⟩
  exact HandSPX.exc_get I1.kIn J T.ga T.gg T.exC (PySem.W.findObj_own T.hdC hno rfl (by rw [hl, hu])) (handed_of ru) ⟨v, H1, I1.tok _, ru, q⟩
end
end L2
end K00ExcR_text
section K00ExcI_text
set_option Elab.async false
set_option linter.all false
set_option maxRecDepth 100000
set_option maxHeartbeats 4000000
/-! k00: isinstance of an exception that is held, with its dict. -/
namespace PySem.W
open PySem PySem.Spec PySem.Calls PyProof.Rows
section
variable {prog : Program} {w : World} {A : Around} {E : Value → Shared → Prop} {s : Shared} {K : Frag} {x D : Addr} {ox od : Obj}
theorem kin_classD {Q : Option Value → Shared → Prop} (hga : findIn K (.ref D) "__getattribute__" = some (some (.builtin "BaseException.__getattribute__"))) (hgt : findIn K (.ref D) "__getattr__" = some none) (hsub : subIn K (.ref D) (.type "BaseException") = some true)
    (hdct : hasDictIn K D = true) (ha : findIn K (.ref D) "__class__" = some (some (.builtin "object.__class__")))
    (hn : specialIn K (.builtin "object.__class__") "__get__" = some (some (.builtin "getset_descriptor.__get__"))) (htk : takesIn K (.builtin "object.__class__") = some true) (hm : mroIn K D (.type "object") = some true)
    (X : K.In s.heap) (I : InstAt s.heap x ox D (some od)) (h : Q (some (.ref D)) { s with toks := s.toks + 1 }) : wpAny (model prog w) A (getAttr? (.ref x) "__class__") Q E s := by
  have hf : findObj K D (some od) "__class__" = some (.bind (.builtin "getset_descriptor.__get__") (.builtin "object.__class__")) := findObj_data (by obtain ⟨cd, hc, _⟩ := any_some hdct; rw [hc]; rfl) ha hn htk
  obtain ⟨hp, g, d, t, os⟩ := s
  have L0 := I.type (M := model prog w)
  have L1 := looks_findIn (M := model prog w) X hga
  have L2 := looks_findIn (M := model prog w) X hgt
  have L3 := looks_find (M := model prog w) X I hf
  have sub : Looks (model prog w) hp (isInstance (.ref x) (.type "BaseException")) true := L0.andThen (looks_subIn X hsub)
  have hx0 : (false && onTheHeap (Value.builtin "BaseException.__getattribute__")) = false := rfl
  have hx2 : (Value.builtin "BaseException.__getattribute__" == Value.builtin "object.__getattribute__") = false := by decide +kernel
  have hx1 : (onTheHeap (Value.ref D) && Value.builtin "BaseException.__getattribute__" == Value.builtin "object.__getattribute__") = false := by rw [hx2]; rfl
  unfold getAttr? getAttrBy? getAttrBy
  refine wpAny_bind (wpAny_mkText (wpAny_bind (wpAny_attempt (wpAny_holding (wpAny_bind (L0.at (wpAny_bind (L1.at ?_))))))))
  show wpAny _ _ (if (onTheHeap (Value.ref D) && Value.builtin "BaseException.__getattribute__" == Value.builtin "object.__getattribute__") = true then _ else _) _ _ _
  rw [hx1, if_neg Bool.false_ne_true]
  unfold getAttrByItsOwn hookBefore
  refine wpAny_bind ?_
  rw [if_pos (show onTheHeap (Value.ref D) = true from rfl)]
  refine L2.at ?_
  refine wpAny_bind (wpAny_attempt (wpAny_holding ?_))
  unfold callGetattribute
  rw [hx0, if_neg Bool.false_ne_true]
  unfold boundAndCalled
  rw [PySem.F.excAttr_ValueError.ga.bind (.ref x)]
  refine wpAny_bind (wpAny_pure ?_)
  show wpAny _ _ (call (.builtin "BaseException.__getattribute__") [.ref x, .str "__class__" t]) _ _ _
  refine wpAny_call (codeAny_call_builtin PySem.F.excAttr_ValueError.ga.plain PySem.F.entry_bexc_ga ?_)
  refine @check_slot (model prog w) _ _ ⟨hp, g, d, t + 1, os⟩ "BaseException.__getattribute__" "BaseException" "__getattribute__" (.ref x) [.str "__class__" t] [] _ (by decide +kernel) (by decide +kernel) sub (PySem.F.args_bexc_ga (.ref x) (.str "__class__" t)) ?_
  unfold Builtin.«object.__getattribute__»
  refine wpAny_bind (wpAny_of_eq (a := ((Value.ref x : Value), [Value.str "__class__" t])) (by first | rfl | (simp only [slotArgs]; rfl)) ?_)
  refine wpAny_bind (wpAny_pure (wpAny_bind (L0.at (wpAny_bind (L3.at ?_)))))
  show wpAny _ _ (holding [Value.builtin "object.__class__"] (call (.builtin "getset_descriptor.__get__") [.builtin "object.__class__", .ref x, .ref D]) >>= ret) _ _ _
  refine wpAny_bind (wpAny_holding (wpAny_call (class_get (s := ⟨hp, g, d, t + 1, os⟩) (ox := ox) (od := some od) X I hm ?_)))
  refine wpAny_pure ?_
  show wpAny _ _ (handedOut (.ref D)) _ _ _
  rw [handedOut_of (v := .ref D) rfl]
  first
    | exact wpAny_pure (wpAny_pure h)
    | exact wpAny_pure h
    | exact wpAny_pure (wpAny_bind (wpAny_pure (wpAny_pure h)))
theorem kitx_excD (hga : findIn K (.ref D) "__getattribute__" = some (some (.builtin "BaseException.__getattribute__"))) (hgt : findIn K (.ref D) "__getattr__" = some none) (hsub : subIn K (.ref D) (.type "BaseException") = some true) (hdct : hasDictIn K D = true) (ha : findIn K (.ref D) "__class__" = some (some (.builtin "object.__class__")))
    (hn : specialIn K (.builtin "object.__class__") "__get__" = some (some (.builtin "getset_descriptor.__get__"))) (htk : takesIn K (.builtin "object.__class__") = some true) (hm : mroIn K D (.type "object") = some true) :
    KitX K (.ref x) (.ref D) (fun h => ∃ ox od, InstAt h x ox D (some od)) where
  ty := fun _ _ _ ⟨_, _, I⟩ => I.type
  it := fun _ _ X _ => by
    obtain ⟨cdD, hcD, _⟩ := any_some hdct
    unfold clsIn at hcD
    split at hcD
    · rename_i c' d' cd' sl' ho
      intro A' Q' E' s' k q
      unfold isType loadHead
      exact wpAny_bind (wpAny_loadPart (k _ _ (X _ _ ho)) (wpAny_pure q))
    · cases hcD
  ne := fun h tp dd its n sl X htp => by
    obtain ⟨cdD, hcD, _⟩ := any_some hdct
    refine Bool.eq_false_iff.mpr fun q => ?_
    have e : D = tp := Value.ref.inj (beq_iff_eq.mp q)
    subst e
    unfold clsIn at hcD
    split at hcD
    · rename_i c' d' cd' sl' ho
      have z := (X _ _ ho).symm.trans htp
      cases z
    · cases hcD
  ca := fun X ⟨_, _, I⟩ k => kin_classD hga hgt hsub hdct ha hn htk hm X I k
end
end PySem.W
namespace L2
open PySem PySem.Spec PyProof.Rows
/-- isinstance(e, c), e an exception that is held -/
def rIsX (K : PySem.W.Frag) : List V → Hp → VK → Prop := fun xs H Q => ∃ (a D d : Addr) (fs : List (Str × V)) (c : V) (cv : Value) (b : Bool), xs = [.ref a, c] ∧ H a = some (exo a D (some d)) ∧ H d = some (exd d fs) ∧ ExcC K D ∧ ClsV c cv ∧ PySem.W.kitOne K (.ref D) cv = some b ∧ Q (.bl b) H
theorem call_isX {X : Cx} : CallR X (.builtin "isinstance") (rIsX X.K) := by
  intro pins s σ H xs us Q I r h
  obtain ⟨a, D, d, fs, c, cv, b, rfl, ea, ed, C, hcv, e, q⟩ := h
  cases r with
  | cons rx rr =>
    cases rr with
    | cons rt rr =>
      cases rr
      cases rx
      have ec := hcv.eq rt
      subst ec
      obtain ⟨t1, ho⟩ := exo_at I.hok ea
      obtain ⟨mA, hns, hr⟩ := exd_at I.hok ed
      obtain ⟨od, hod, hl⟩ := lookIn_ns hns
      exact PySem.W.kia_one (PySem.W.kitx_excD C.hg C.hk C.hs C.hd C.ha C.hn C.ht C.hm) I.kIn ⟨_, od, ⟨ho, rfl, rfl, hod⟩⟩ e (fun z => nomatch z) fun tk => ⟨.bl b, H, I.kept (t' := tk) fun _ _ z => z, rfl, q⟩
end L2
end K00ExcI_text
section K00Bad_text
set_option Elab.async false
set_option linter.all false
set_option maxRecDepth 100000
set_option maxHeartbeats 4000000
/-! k00: the promise of the errors' __init__. -/
namespace L2
open PySem PySem.Spec PyProof.Rows
open PySem.W (Looks)
open NdefX StX

/-- a wrong value's error: one field -/
def spBad (C : Addr) (f : Str) : Sp := fun vs H Q _ => ∃ (a : Addr) (v : V), vs = [.ref a, v] ∧ H a = some (exo a C none) ∧ ∀ d, H d = none → d ≠ a → Q .non (upd (upd H d (exd d [(f, v)])) a (exo a C (some d)))
/-- too many: two fields -/
def spBad2 (C : Addr) (f g : Str) : Sp := fun vs H Q _ => ∃ (a : Addr) (v u : V), vs = [.ref a, v, u] ∧ H a = some (exo a C none) ∧ ∀ d, H d = none → d ≠ a → Q .non (upd (upd (upd H d (exd d [(f, v)])) a (exo a C (some d))) d (exd d [(g, u), (f, v)]))

abbrev badCall (nm : Str) (n p0 p1 p2 p3 p4 : Pos) (j : Nat) : Stmt := .Expr (.Call (.Attribute (.Call (.Name "super" p0) [] [] p1) "__init__" p2) [.Constant (.str nm) j n] [] p3) p4
abbrev badSet (f : Str) (q0 q1 q2 q3 : Pos) : Stmt := .Assign [.Attribute (.Name "self" q0) f q1] (.Name f q2) q3

/-- what the written part tells of such a class and its __init__ at fI -/
structure BadTxt (P : Program) (K : PySem.W.Frag) (mg : Str → Option Value) (F : NF) (C fI cc : Addr) (fd : FuncData) : Prop where
  cl : F.cl = [(("__class__" : Str), cc)]
  fdEq : ∃ doc pm an ctv kV, fd = PySem.W.fnX F.name F.qual F.params F.body F.scope F.cl .none kV doc pm an (.ref F.c) ctv
  lk : ∃ oc od osl, K.lookup fI = some (⟨oc, od, .func fd, osl⟩ : Obj)
  hcd : PySem.W.codeIn K (.ref F.c) F.qual = true
  cell : ∃ cl cd cv sl, K.lookup cc = some (⟨cl, cd, .cell cv, sl⟩ : Obj)
  hks : F.scope.names.lookup ("super" : Str) = some .globalImplicit
  hkc : F.scope.names.lookup ("__class__" : Str) = some .free
  hka : F.scope.names.lookup ("self" : Str) = some .local
  T : SupTxt P K mg fI F.c cc C fd
  E : SupExc K C C

/-- how the call super().__init__(..) is read -/
abbrev SupRd (o : Expr) (es : List Expr) (p2 p3 : Pos) : Prop := ∃ pl : Sem Bool, ∀ env : Env, eval (.Call (.Attribute o "__init__" p2) es [] p3) env = (do
      let ov ← attributeBase o "__init__" env (eval o env)
      standAt p2.atName
      let (f, first) ← holding [ov] (getMethod ov "__init__" pl)
      callWith p3 f first (backTo p3 (starEach es env)) [])
section
variable {P : Program} {w : World} {K : PySem.W.Frag} {mg : Str → Option Value} {base : Heap} {C fI cc : Addr} {fd : FuncData}
theorem ok_bad {F : NF} {nm f : Str} {n p0 p1 p2 p3 p4 q0 q1 q2 q3 : Pos} {j : Nat} (B : BadTxt P K mg F C fI cc fd) (hb : F.body = [badCall nm n p0 p1 p2 p3 p4 j, badSet f q0 q1 q2 q3]) (hrd : SupRd (.Call (.Name "super" p0) [] [] p1) [.Constant (.str nm) j n] p2 p3)
    (S : NScope ["self", f, "__class__"] ["self", f] ["__class__"] F.scope) (hf : F.scope.names.lookup f = some .local) (hno : PySem.W.findIn K (.ref C) f = some none) (hd1 : (f == ("__debug__" : Str)) = false) (hd2 : (f == ("__classdict__" : Str)) = false) : FnOk P w K mg base CX0 1 fI fd ["self", f] (spBad C f) := by
  obtain ⟨pl, hrd⟩ := hrd
  obtain ⟨name, qual, params, body, scope, cl, c⟩ := F
  obtain ⟨cl', fdEq, lk, hcd, cell, hks, hkc, hka, T, E⟩ := B
  dsimp only at cl' fdEq lk hcd hks hkc hka T hb S hf
  subst cl' hb
  obtain ⟨doc, pm, an, ctv, kV, rfl⟩ := fdEq
  obtain ⟨oc, od, osl, lk⟩ := lk
  obtain ⟨ecl, ecd, cv, esl, cell⟩ := cell
  refine fn_at (F := ⟨name, qual, params, _, scope, [(("__class__" : Str), cc)], c⟩) (N := ["self", f, "__class__"]) rfl rfl lk hcd cell S (fun vs H Q E h => ?_) fun A outer s H vs Q Ex hr h s1 I => ?_
  · obtain ⟨a, v, rfl, _⟩ := h
    rfl
  · obtain ⟨a, v, rfl, ea, k⟩ := h
    refine _root_.PySem.wpAt_mono (sup_exc (k := fun H1 => H1 = H) (ta := tCons (tC (.str nm)) tNil) T E rfl hks hkc hka S.kind rfl rfl I ea (pa_cons pe_str pa_nil) ?_ (by rfl) (by rfl) (hrd _) (by unfold interactive; simp [ncx, S.kind]) (by rfl)) (fun fl s' hs => ?_) fun e s' hs => hs
    · exact ⟨(by show 1 ≤ 1000; decide), ea, rfl⟩
    · obtain ⟨rfl, H1, J, rfl⟩ := hs
      refine ⟨rfl, H1, J, tOst K f (tVar 0) (tVar 1), pss_one (ps_ost (pe_var (i := 0) rfl (.inl hka)) (pe_var (i := 1) rfl (.inl hf) hd1 hd2)), ?_⟩
      exact ⟨_, rfl, _, rfl, a, C, rfl, E.oex, hno, .inl ⟨ea, fun dx n1 n2 => k dx n1 n2⟩⟩
theorem ok_bad2 {F : NF} {nm f g : Str} {n p0 p1 p2 p3 p4 q0 q1 q2 q3 r0 r1 r2 r3 : Pos} {j : Nat} (B : BadTxt P K mg F C fI cc fd) (hb : F.body = [badCall nm n p0 p1 p2 p3 p4 j, badSet f q0 q1 q2 q3, badSet g r0 r1 r2 r3]) (hrd : SupRd (.Call (.Name "super" p0) [] [] p1) [.Constant (.str nm) j n] p2 p3)
    (S : NScope ["self", f, g, "__class__"] ["self", f, g] ["__class__"] F.scope) (hf : F.scope.names.lookup f = some .local) (hg : F.scope.names.lookup g = some .local) (hno : PySem.W.findIn K (.ref C) f = some none) (hno2 : PySem.W.findIn K (.ref C) g = some none) (hd1 : (f == ("__debug__" : Str)) = false) (hd2 : (f == ("__classdict__" : Str)) = false) (hd3 : (g == ("__debug__" : Str)) = false) (hd4 : (g == ("__classdict__" : Str)) = false) : FnOk P w K mg base CX0 1 fI fd ["self", f, g] (spBad2 C f g) := by
  obtain ⟨pl, hrd⟩ := hrd
  obtain ⟨name, qual, params, body, scope, cl, c⟩ := F
  obtain ⟨cl', fdEq, lk, hcd, cell, hks, hkc, hka, T, E⟩ := B
  dsimp only at cl' fdEq lk hcd hks hkc hka T hb S hf hg
  subst cl' hb
  obtain ⟨doc, pm, an, ctv, kV, rfl⟩ := fdEq
  obtain ⟨oc, od, osl, lk⟩ := lk
  obtain ⟨ecl, ecd, cv, esl, cell⟩ := cell
  refine fn_at (F := ⟨name, qual, params, _, scope, [(("__class__" : Str), cc)], c⟩) (N := ["self", f, g, "__class__"]) rfl rfl lk hcd cell S (fun vs H Q E h => ?_) fun A outer s H vs Q Ex hr h s1 I => ?_
  · obtain ⟨a, v, u, rfl, _⟩ := h
    rfl
  · obtain ⟨a, v, u, rfl, ea, k⟩ := h
    refine _root_.PySem.wpAt_mono (sup_exc (k := fun H1 => H1 = H) (ta := tCons (tC (.str nm)) tNil) T E rfl hks hkc hka S.kind rfl rfl I ea (pa_cons pe_str pa_nil) ?_ (by rfl) (by rfl) (hrd _) (by unfold interactive; simp [ncx, S.kind]) (by rfl)) (fun fl s' hs => ?_) fun e s' hs => hs
    · exact ⟨(by show 1 ≤ 1000; decide), ea, rfl⟩
    · obtain ⟨rfl, H1, J, rfl⟩ := hs
      refine ⟨rfl, H1, J, tSeq (tOst K f (tVar 0) (tVar 1)) (tOst K g (tVar 0) (tVar 2)), pss_cons (ps_ost (pe_var (i := 0) rfl (.inl hka)) (pe_var (i := 1) rfl (.inl hf) hd1 hd2)) (pss_one (ps_ost (pe_var (i := 0) rfl (.inl hka)) (pe_var (i := 2) rfl (.inl hg) hd3 hd4))), ?_⟩
      exact ⟨_, rfl, _, rfl, a, C, rfl, E.oex, hno, .inl ⟨ea, fun dx n1 n2 => ⟨_, rfl, _, rfl, a, C, rfl, E.oex, hno2, .inr ⟨dx, [(f, v)], upd_same, (upd_ne n2).trans upd_same, (by show 1 ≤ 900; decide), k dx n1 n2⟩⟩⟩⟩
end
end L2
end K00Bad_text
section K00Fix_text
set_option Elab.async false
set_option linter.all false
set_option maxRecDepth 100000
set_option maxHeartbeats 4000000
/-! k00: fixed, are_like, the law's own tupled: by induction on the depth. -/
namespace K00
open PySem PySem.Spec PyProof.Rows L2

def top (i : Nat) : Stmt := PySem.Challenge.pw_partsinparts_k00_errors_and_papers_kept.main.body.getD i (.Pass ⟨0, 0, 0, 0⟩)
abbrev sFixed : Stmt := top 14
abbrev sLike : Stmt := top 15
abbrev sTupled : Stmt := top 31

/-- the names of built-ins stand free -/
structure Free (mg : Str → Option Value) : Prop where
  isi : mg "isinstance" = none
  list : mg "list" = none
  tuple : mg "tuple" = none
  bool : mg "bool" = none
  len : mg "len" = none
  all : mg "all" = none
  zip : mg "zip" = none
  int : mg "int" = none
  abs : mg "abs" = none
  repr : mg "repr" = none
  range : mg "range" = none
  enum : mg "enumerate" = none
  ve : mg "ValueError" = none

/-! ### what stands in a grown heap -/
mutual
theorem dp_ext {K : PySem.W.Frag} {H H' : Hp} (e : Ext H H') : ∀ {d : PyData} {v : V}, Dp K H v d → Dp K H' v d
  | .none, _, h => by cases h; exact .non
  | .bool b, _, h => by cases h; exact .bl b
  | .int i, _, h => by cases h; exact .int i
  | .str x, _, h => by cases h; exact .str x
  | .list ds, _, h => by
    cases h with
    | lst hs ha => exact .lst (hs.ext e) (dpAll_ext e ha)
  | .tuple ds, _, h => by
    cases h with
    | tup hs ha => exact .tup (hs.ext e) (dpAll_ext e ha)
  | .dict _, _, h => by cases h
theorem dpAll_ext {K : PySem.W.Frag} {H H' : Hp} (e : Ext H H') : ∀ {ds : List PyData} {vs : List V}, DpAll K H vs ds → DpAll K H' vs ds
  | [], _, h => by cases h; exact .nil
  | d :: ds, _, h => by
    cases h with
    | cons a b => exact .cons (dp_ext e a) (dpAll_ext e b)
end
theorem dpAll_len {K : PySem.W.Frag} {H : Hp} : ∀ {vs : List V} {ds : List PyData}, DpAll K H vs ds → vs.length = ds.length
  | _, [], h => by cases h; rfl
  | _, d :: ds, h => by
    cases h with
    | cons a b => simp [dpAll_len b]
theorem dpAll_get {K : PySem.W.Frag} {H : Hp} : ∀ {vs : List V} {ds : List PyData}, DpAll K H vs ds → ∀ {i : Nat} {v : V}, vs[i]? = some v → ∃ d, ds[i]? = some d ∧ Dp K H v d
  | _, [], h, i, v, e => by cases h; simp at e
  | _, d :: ds, h, i, v, e => by
    cases h with
    | cons a b =>
      cases i with
      | zero => simp at e; subst e; exact ⟨d, rfl, a⟩
      | succ i =>
        simp at e
        obtain ⟨d', h1, h2⟩ := dpAll_get b e
        exact ⟨d', by simpa using h1, h2⟩
theorem dpAll_snoc {K : PySem.W.Frag} {H : Hp} {v : V} {d : PyData} : ∀ {vs : List V} {ds : List PyData}, DpAll K H vs ds → Dp K H v d → DpAll K H (vs ++ [v]) (ds ++ [d])
  | _, [], h, k => by cases h; exact .cons k .nil
  | _, d :: ds, h, k => by
    cases h with
    | cons a b => exact .cons a (dpAll_snoc b k)
/-- a datum's type, for isinstance -/
def tyD : PyData → String
  | .none => "NoneType"
  | .bool _ => "bool"
  | .int _ => "int"
  | .str _ => "str"
  | .list _ => "list"
  | .tuple _ => "tuple"
  | .dict _ => "dict"

/-! ### parts of fine data -/
theorem fineAll_get : ∀ {xs : List PyData} {n w : Nat}, PyData.canLayAll0 xs = true → PyData.showableAll xs = true → PyData.leavesShortAll 40 xs = true → PyData.depthAll xs ≤ n → PyData.weightAll xs ≤ w → xs.length ≤ w ∧ ∀ x ∈ xs, Fine n w x
  | [], _, _, _, _, _, _, _ => ⟨Nat.zero_le _, fun _ h => by cases h⟩
  | x :: xs, n, w, a, b, c, d, e => by
    simp only [PyData.canLayAll0, Bool.and_eq_true] at a
    simp only [PyData.showableAll, Bool.and_eq_true] at b
    simp only [PyData.leavesShortAll, Bool.and_eq_true] at c
    simp only [PyData.depthAll] at d
    simp only [PyData.weightAll] at e
    obtain ⟨l, h⟩ := fineAll_get (n := n) (w := w) a.2 b.2 c.2 (by omega) (by omega)
    have l2 : PyData.weightAll xs + 1 ≤ w := by omega
    obtain ⟨l3, _⟩ := fineAll_get (n := n) (w := w - 1) a.2 b.2 c.2 (by omega) (by omega)
    refine ⟨by simp only [List.length_cons]; omega, fun y hy => ?_⟩
    rcases List.mem_cons.mp hy with rfl | hy
    · exact ⟨a.1, b.1, c.1, by omega, by omega⟩
    · exact h y hy
theorem Fine.of_list {xs : List PyData} {n w : Nat} (h : Fine n w (.list xs)) : 1 ≤ n ∧ xs.length ≤ w ∧ ∀ x ∈ xs, Fine (n - 1) w x := by
  obtain ⟨a, b, c, d, e⟩ := h
  simp only [PyData.canLay0] at a
  simp only [PyData.showable] at b
  simp only [PyData.leavesShort] at c
  simp only [PyData.depth] at d
  simp only [PyData.weight] at e
  exact ⟨by omega, fineAll_get a b c (by omega) (by omega)⟩
theorem Fine.of_tuple {xs : List PyData} {n w : Nat} (h : Fine n w (.tuple xs)) : 1 ≤ n ∧ xs.length ≤ w ∧ ∀ x ∈ xs, Fine (n - 1) w x := by
  obtain ⟨a, b, c, d, e⟩ := h
  simp only [PyData.canLay0] at a
  simp only [PyData.showable] at b
  simp only [PyData.leavesShort] at c
  simp only [PyData.depth] at d
  simp only [PyData.weight] at e
  exact ⟨by omega, fineAll_get a b c (by omega) (by omega)⟩
end K00
end K00Fix_text
section K00Fix2_text
set_option Elab.async false
set_option linter.all false
set_option maxRecDepth 100000
set_option maxHeartbeats 4000000
/-! k00: fixed by induction on the depth. -/
namespace K00
open PySem PySem.Spec PyProof.Rows L2

theorem dp_ty {K : PySem.W.Frag} {H : Hp} {v : V} {d : PyData} (h : Dp K H v d) : TyX K H v (.type (tyD d)) := by
  cases h with
  | non => exact .base .non
  | bl b => exact .base (.bl b)
  | int i => exact .base (.int i)
  | str x => exact .base (.str x)
  | lst hs _ =>
    rcases hs with (e | ⟨o, e⟩) | ⟨o, its, n, e, c, _⟩
    · exact .base (.lst e)
    · exact .base (.frz e)
    · exact .kList e c
  | tup hs _ =>
    rcases hs with (e | ⟨o, e⟩) | ⟨o, its, n, e, c, _⟩
    · exact .base (.tup e)
    · exact .fTuple e
    · exact .kTuple e c

/-- a list or a tuple walked -/
def iSeq (K : PySem.W.Frag) (te : TE) : TI := fun σ H R => te σ H fun x H1 => (∃ a, x = .ref a ∧ (∃ xs, SqL K H1 a xs) ∧ R (Itl K a) H1) ∨ (∃ a, x = .ref a ∧ (∃ xs, SqT K H1 a xs) ∧ R (Itt K a) H1)
theorem pi_seq {X : Cx} {tg l : Expr} {tl : TE} (hl : PE X l tl) : PI X tg l (iSeq X.K tl) := by
  refine ⟨fun pins s σ H R I h => ?_⟩
  refine thn (hl.run pins s σ H _ I h) fun v s1 ⟨x, H1, I1, r1, q1⟩ => ?_
  rcases q1 with ⟨a, e, ⟨xs, hq⟩, q⟩ | ⟨a, e, ⟨xs, hq⟩, q⟩
  · subst e
    cases r1
    obtain ⟨its, rv, p, hz⟩ := I1.list hq
    refine wpAny_pyIter_list p.isList ?_
    refine ⟨s1.heap.objs.size, [s1.heap.objs.size], _, _, H1, rfl, I1.kept (t' := s1.toks) fun b o e => Heap.get?_push_of_some _ e, turn_list a _, ⟨_, Heap.get?_push_size _ rfl, rfl, rfl⟩, fun b hb => ?_, q⟩
    have e : b = s1.heap.objs.size := by simpa using hb
    subst e
    exact I1.fpOk (Nat.le_refl _) (I1.hok.fresh (Nat.le_refl _))
  · subst e
    cases r1
    obtain ⟨its, rv, p, hz⟩ := I1.tuple hq
    refine wpAny_pyIter_tuple (show s1.heap.IsTuple a its.toArray from p) ?_
    refine ⟨s1.heap.objs.size, [s1.heap.objs.size], _, _, H1, rfl, I1.kept (t' := s1.toks) fun b o e => Heap.get?_push_of_some _ e, turn_tuple a _, ⟨_, Heap.get?_push_size _ rfl, rfl, rfl⟩, fun b hb => ?_, q⟩
    have e : b = s1.heap.objs.size := by simpa using hb
    subst e
    exact I1.fpOk (Nat.le_refl _) (I1.hok.fresh (Nat.le_refl _))

/-- what is new in H' beside H stands in H'' -/
def Mk2 (H H' H'' : Hp) : Prop := ∀ a o, H a = none → H' a = some o → H'' a = some o
/-- v is the datum d by new objects alone -/
def New (K : PySem.W.Frag) (H H' : Hp) (v : V) (d : PyData) : Prop := ∀ H'', Mk2 H H' H'' → Dp K H'' v d
theorem New.dp {K : PySem.W.Frag} {H H' : Hp} {v : V} {d : PyData} (h : New K H H' v d) : Dp K H' v d := h H' fun _ _ _ e => e
/-- what fixed (and the law's own tupled) promise of data so deep -/
def spFix (K : PySem.W.Frag) (n : Nat) : Sp := fun vs H Q _ => ∃ (v : V) (d : PyData), vs = [v] ∧ Dp K H v d ∧ Fine n 100000 d ∧ ∀ v' H', Ext H H' → New K H H' v' (tupd d) → Q v' H'

section
variable {P : Program} {w : World} {K : PySem.W.Frag} {mg : Str → Option Value} {base : Heap}
/-- what the walk over a sequence of data has made behind i items: at D the list of the items' tuples, all of them new -/
def Pv (K : PySem.W.Frag) (H0 : Hp) (D : Addr) (f : PyData → PyData) (ds : List PyData) : Nat → Hp → Prop := fun i H => Ext H0 H ∧ H0 D = none ∧ ∃ acc : List V, H D = some (.lst acc) ∧
  ∀ H'', (∀ a o, H0 a = none → a ≠ D → H a = some o → H'' a = some o) → DpAll K H'' acc ((ds.take i).map f)
theorem pv_zero {H0 : Hp} {D : Addr} {f : PyData → PyData} {ds : List PyData} (hD : H0 D = none) : Pv K H0 D f ds 0 (upd H0 D (.lst [])) :=
  ⟨Ext.upd hD, hD, [], upd_same, fun H'' _ => .nil⟩
theorem pv_len {H0 H : Hp} {D : Addr} {f : PyData → PyData} {ds : List PyData} {i : Nat} {acc : List V} (p : Pv K H0 D f ds i H) (e : H D = some (.lst acc)) : acc.length = (ds.take i).length := by
  obtain ⟨_, _, acc', e', h⟩ := p
  rw [e] at e'
  cases e'
  have z := dpAll_len (h H fun _ _ _ _ q => q)
  rw [List.length_map] at z
  exact z
/-- one item more: v was made by new objects -/
theorem pv_step {H0 H H' : Hp} {D : Addr} {f : PyData → PyData} {ds : List PyData} {i : Nat} {v : V} {d : PyData} {acc : List V} (p : Pv K H0 D f ds i H) (hd : ds[i]? = some d) (e : Ext H H') (hv : New K H H' v (f d)) (ea : H' D = some (.lst acc)) :
    Pv K H0 D f ds (i + 1) (upd H' D (.lst (acc ++ [v]))) := by
  obtain ⟨x, hD, acc', e', h⟩ := p
  have ea' := e _ _ e'
  rw [ea] at ea'
  cases ea'
  refine ⟨fun a o q => ?_, hD, _, upd_same, fun H'' k => ?_⟩
  · rw [upd_ne (ne_of_none q hD)]
    exact e _ _ (x _ _ q)
  · have e2 : (ds.take (i + 1)).map f = (ds.take i).map f ++ [f d] := by
      rw [List.take_add_one, hd]
      simp
    rw [e2]
    refine dpAll_snoc (h H'' fun a o h0 hne q => k a o h0 hne ?_) (hv H'' fun a o h0 q => ?_)
    · rw [upd_ne hne]
      exact e _ _ q
    · have hne : a ≠ D := fun z => by
        rw [z, e'] at h0
        cases h0
      refine k a o ?_ hne ?_
      · cases q0 : H0 a with
        | none => rfl
        | some o0 =>
          rw [x _ _ q0] at h0
          cases h0
      · rw [upd_ne hne]
        exact q
theorem pv_tup {H0 H : Hp} {D T : Addr} {f : PyData → PyData} {ds : List PyData} {acc : List V} (p : Pv K H0 D f ds ds.length H) (ea : H D = some (.lst acc)) (hT : H T = none) : Ext H0 (upd H T (.tup acc)) ∧ New K H0 (upd H T (.tup acc)) (.ref T) (.tuple (ds.map f)) := by
  obtain ⟨x, hD, acc', e', h⟩ := p
  rw [ea] at e'
  cases e'
  have h0T : H0 T = none := by
    cases q0 : H0 T with
    | none => rfl
    | some o0 =>
      rw [x _ _ q0] at hT
      cases hT
  refine ⟨x.upd' hT, fun H'' k => ?_⟩
  refine .tup (.inl (.inl (k T _ h0T upd_same))) ?_
  have z := h H'' fun a o h0 hne q => k a o h0 (by rw [upd_ne (ne_of_none q hT)]; exact q)
  rw [List.take_length] at z
  exact z
theorem pv_lst {H0 H : Hp} {D : Addr} {f : PyData → PyData} {ds : List PyData} {acc : List V} (p : Pv K H0 D f ds ds.length H) (ea : H D = some (.lst acc)) : Ext H0 H ∧ New K H0 H (.ref D) (.list (ds.map f)) := by
  obtain ⟨x, hD, acc', e', h⟩ := p
  rw [ea] at e'
  cases e'
  refine ⟨x, fun H'' k => ?_⟩
  refine .lst (.inl (.inl (k D _ hD ea))) ?_
  have z := h H'' fun a o h0 hne q => k a o h0 q
  rw [List.take_length] at z
  exact z

theorem scF : FnScope ["value", "part"] ["value"] (defScope sFixed) := ⟨rfl, rfl, rfl, by decide +kernel, rfl, by decide +kernel, by decide +kernel⟩
theorem scT : FnScope ["value", "one"] ["value"] (defScope sTupled) := ⟨rfl, rfl, rfl, by decide +kernel, rfl, by decide +kernel, by decide +kernel⟩

/-- the comprehension over a list or a tuple of data -/
theorem fix_lc {n : Nat} {v : V} {d : PyData} {H0 : Hp} {Q : VK} {ds : List PyData} (hv : Dp K H0 v d) (hd : d = .list ds ∨ d = .tuple ds) (hf : ∀ x ∈ ds, Fine n 100000 x) (hl : ds.length ≤ 100000)
    (k : ∀ D H1 acc, Pv K H0 D tupd ds ds.length H1 → H1 D = some (.lst acc) → Q (.ref D) H1) :
    tLc (iSeq K (tVar 0)) (gName 1) tYes (tCall (spFix K n) [] E0 (tCons (tVar 1) tNil)) [1] [some v, none] H0 Q := by
  have step : ∀ (a : Addr) (xs : List V) (D : Addr), v = .ref a → DpAll K H0 xs ds → H0 D = none → ∀ i x H, xs[i]? = some x → Pv K H0 D tupd ds i H →
      gName 1 x (wipe [some v, none] [1]) H fun σ2 H2 => wipe σ2 [1] = wipe [some v, none] [1] ∧ tYes σ2 H2 fun b H3 =>
        if b = true then tCall (spFix K n) [] E0 (tCons (tVar 1) tNil) σ2 H3 fun y H4 => ∃ acc, H4 D = some (.lst acc) ∧ acc.length < sizeLine ∧ Pv K H0 D tupd ds (i + 1) (upd H4 D (.lst (acc ++ [y]))) else Pv K H0 D tupd ds (i + 1) H3 := by
    intro a xs D ev ha hD i x H hi p
    obtain ⟨dd, hdd, hx⟩ := dpAll_get ha hi
    obtain ⟨x0, _⟩ := id p
    refine ⟨rfl, ?_⟩
    refine ⟨_, rfl, ?_⟩
    refine ⟨x, dd, rfl, dp_ext x0 hx, hf dd (List.mem_of_getElem? hdd), fun v' H' e hn => ?_⟩
    obtain ⟨_, _, acc, ea, _⟩ := id p
    have ea' := e _ _ ea
    refine ⟨acc, ea', ?_, pv_step p hdd e hn ea'⟩
    rw [pv_len p ea, sizeLine_eq]
    have : (ds.take i).length ≤ ds.length := by simp; omega
    omega
  rcases hd with rfl | rfl
  · cases hv with
    | @lst a xs _ hs ha =>
      have hlen := dpAll_len ha
      refine ⟨_, rfl, .inl ⟨a, rfl, ⟨xs, hs⟩, fun D hD => ?_⟩⟩
      refine lc_list (K := K) (a := a) (xs := xs) (Pv K H0 D tupd ds) (pv_zero hD) (fun i H _ p => hs.ext p.1) (fun i x H hi p => step a xs D rfl ha hD i x H hi p) fun H p => ?_
      rw [hlen] at p
      obtain ⟨_, _, acc, ea, _⟩ := id p
      exact k D H acc p ea
  · cases hv with
    | @tup a xs _ hs ha =>
      have hlen := dpAll_len ha
      refine ⟨_, rfl, .inr ⟨a, rfl, ⟨xs, hs⟩, fun D hD => ?_⟩⟩
      refine lc_tup (K := K) (a := a) (xs := xs) (Pv K H0 D tupd ds) (pv_zero hD) (fun i H _ p => hs.ext p.1) (fun i x H hi p => step a xs D rfl ha hD i x H hi p) fun H p => ?_
      rw [hlen] at p
      obtain ⟨_, _, acc, ea, _⟩ := id p
      exact k D H acc p ea
end
end K00
end K00Fix2_text
section K00Fix3_text
set_option Elab.async false
set_option linter.all false
set_option maxRecDepth 100000
set_option maxHeartbeats 4000000
/-! k00: fixed, the law's own tupled: their promises. -/
namespace K00
open PySem PySem.Spec PyProof.Rows L2
section
variable {P : Program} {w : World} {K : PySem.W.Frag} {mg : Str → Option Value} {base : Heap}
theorem new_flat {H H' : Hp} {v : V} {d : PyData} (h : Dp K H v d) (hl : ∀ ds, d ≠ .list ds) (ht : ∀ ds, d ≠ .tuple ds) : New K H H' v (tupd d) := fun H'' _ => by
  cases h with
  | non => exact .non
  | bl b => exact .bl b
  | int i => exact .int i
  | str x => exact .str x
  | lst _ _ => exact absurd rfl (hl _)
  | tup _ _ => exact absurd rfl (ht _)
theorem New.back {H H' H1 : Hp} {v : V} {d : PyData} (e : Ext H H') (h : New K H' H1 v d) : New K H H1 v d := fun H'' z => h H'' fun a o h0 q => z a o (by
  cases q0 : H a with
  | none => rfl
  | some o0 =>
    rw [e _ _ q0] at h0
    cases h0) q
/-- is it a list or a tuple -/
def isSeq : PyData → Bool
  | .list _ => true
  | .tuple _ => true
  | _ => false
theorem kit_no (a : String) (h1 : kitB a "list" = some false) (h2 : kitB a "tuple" = some false) : PySem.W.kitAny K (.type a) [.type "list", .type "tuple"] = some false :=
  kitAny_cons (b := false) (kit_ty h1) (fun _ => kitAny_cons (b := false) (kit_ty h2) (fun _ => kitAny_nil) (fun z => by cases z)) (fun z => by cases z)
theorem kit_seq (d : PyData) (h : ∀ kvs, d ≠ .dict kvs) : PySem.W.kitAny K (.type (tyD d)) [.type "list", .type "tuple"] = some (isSeq d) := by
  cases d with
  | dict kvs => exact absurd rfl (h kvs)
  | list ds => exact kitAny_cons (b := true) (kit_ty (show kitB "list" "list" = some true by decide +kernel)) (fun z => by cases z) (fun _ => rfl)
  | tuple ds => exact kitAny_cons (b := false) (kit_ty (show kitB "tuple" "list" = some false by decide +kernel)) (fun _ => kitAny_cons (b := true) (kit_ty (show kitB "tuple" "tuple" = some true by decide +kernel)) (fun z => by cases z) (fun _ => rfl)) (fun z => by cases z)
  | none => exact kit_no "NoneType" (by decide +kernel) (by decide +kernel)
  | bool b => exact kit_no "bool" (by decide +kernel) (by decide +kernel)
  | int i => exact kit_no "int" (by decide +kernel) (by decide +kernel)
  | str x => exact kit_no "str" (by decide +kernel) (by decide +kernel)
theorem dp_nodict {H : Hp} {v : V} {d : PyData} (h : Dp K H v d) : ∀ kvs, d ≠ .dict kvs := fun kvs e => by
  subst e
  cases h

theorem ret_cb1 {r : List V → Hp → VK → Prop} {te : TE} {D : Ends} {σ : L2.St} {H : Hp} (h : te σ H (fun x H1 => r [x] H1 D.rt)) : tRet (tCB r (tCons te tNil)) D σ H := h
theorem cb1 {r : List V → Hp → VK → Prop} {te : TE} {Q : VK} {σ : L2.St} {H : Hp} (h : te σ H (fun x H1 => r [x] H1 Q)) : tCB r (tCons te tNil) σ H Q := h
/-- the reading of isinstance(v, (list, tuple)) -/
theorem isi_seq {v : V} {d : PyData} {H : Hp} {Q : VK} (h : Dp K H v d) (k : ∀ H', Ext H H' → Q (.bl (isSeq d)) H') (σ : L2.St) (te : TE) (hte : ∀ R : VK, R v H → te σ H R) :
    tCB (rIsiT K) (tCons te (tCons (tTup (tCons (tC (.ty "list")) (tCons (tC (.ty "tuple")) tNil))) tNil)) σ H Q := by
  refine hte _ ?_
  refine ⟨by show 2 ≤ sizeLine; rw [sizeLine_eq]; omega, fun p hp => ?_⟩
  exact ⟨v, p, _, _, _, isSeq d, rfl, upd_same, .cons (.ty "list") (.cons (.ty "tuple") .nil), dp_ty (dp_ext (Ext.upd hp) h), kit_seq d (dp_nodict h), k _ (Ext.upd hp)⟩

/-- an expression that is never reached -/
def tNo : TE := fun _ _ _ => False
theorem pe_no {X : Cx} {e : Expr} : PE X e tNo := ⟨fun _ _ _ _ _ _ h => h.elim⟩
theorem ok_fix {f : Addr} {fd : FuncData} (F : Fun K "fixed" "fixed" sFixed f fd) (b : Binds K fd ["value"] []) (T : Free mg) (g : mg "fixed" = some (.ref f)) : ∀ n, FnOk P w K mg base CX0 (n + 1) f fd ["value"] (spFix K n) := by
  intro n
  induction n with
  | zero =>
    refine F.ok scF (fun vs H Q E h => ?_) (fun cdv A outer s H vs Q E hr h => ?_)
    · obtain ⟨v, d, rfl, _⟩ := h
      rfl
    · obtain ⟨v, d, rfl, hv, hf, k⟩ := h
      refine ⟨_, pss_cons (ps_if (pt_val (pe_callB call_isiT (by rfl) T.isi (by decide +kernel) (pa_cons (pv 0) (pa_cons (pe_tup (pa_cons (pe_bltn (v := .ty "list") (by rfl) T.list (by decide +kernel) rfl) (pa_cons (pe_bltn (v := .ty "tuple") (by rfl) T.tuple (by decide +kernel) rfl) pa_nil))) pa_nil)))) (pss_one ps_never) pss_nil) (pss_one (ps_ret (pv 0))), ?_⟩
      refine isi_seq hv (fun H' e => ?_) _ _ (fun R q => ⟨v, rfl, q⟩)
      have hs : isSeq d = false := by
        cases d with
        | list ds => exact absurd (Fine.of_list hf).1 (by omega)
        | tuple ds => exact absurd (Fine.of_tuple hf).1 (by omega)
        | _ => rfl
      refine ⟨_, rfl, ?_⟩
      rw [hs]
      refine iteF ⟨v, rfl, k v H' e (new_flat hv (fun ds z => ?_) (fun ds z => ?_))⟩
      · subst z; cases hs
      · subst z; cases hs
  | succ n ih =>
    refine F.ok scF (fun vs H Q E h => ?_) (fun cdv A outer s H vs Q E hr h => ?_)
    · obtain ⟨v, d, rfl, _⟩ := h
      rfl
    · obtain ⟨v, d, rfl, hv, hf, k⟩ := h
      refine ⟨_, pss_cons (ps_if (pt_val (pe_callB call_isiT (by rfl) T.isi (by decide +kernel) (pa_cons (pv 0) (pa_cons (pe_tup (pa_cons (pe_bltn (v := .ty "list") (by rfl) T.list (by decide +kernel) rfl) (pa_cons (pe_bltn (v := .ty "tuple") (by rfl) T.tuple (by decide +kernel) rfl) pa_nil))) pa_nil))))
          (pss_one (ps_ret (pe_callTy call_tuple_of (by rfl) T.tuple (by decide +kernel) (pa_cons (pe_lc (own := [("part", 1)]) (g := gName 1) (tt := tYes) rfl scF.nd (pi_seq (pv 0)) (blkOk_by (N := ["value", "part"]) (sc := defScope sFixed) (by decide +kernel)) (fun _ _ _ _ _ => pg_name (i := 1) scF.nd rfl (Or.inl rfl)) (fun _ _ _ _ _ => pts_nil) (fun _ _ _ _ _ => pe_call ih hr (by rfl) g F.kp b .nil pass0 (pa_cons (pv 1) pa_nil))) pa_nil)))) pss_nil)
        (pss_one (ps_ret (pv 0))), ?_⟩
      refine isi_seq hv (fun H' e => ?_) _ _ (fun R q => ⟨v, rfl, q⟩)
      refine ⟨_, rfl, ?_⟩
      by_cases hs : isSeq d = true
      · rw [hs]
        refine iteT ?_
        obtain ⟨ds, hd⟩ : ∃ ds, d = .list ds ∨ d = .tuple ds := by
          cases d with
          | list ds => exact ⟨ds, .inl rfl⟩
          | tuple ds => exact ⟨ds, .inr rfl⟩
          | _ => cases hs
        obtain ⟨hl, hx⟩ : ds.length ≤ 100000 ∧ ∀ x ∈ ds, Fine n 100000 x := by
          rcases hd with rfl | rfl
          · exact (Fine.of_list hf).2
          · exact (Fine.of_tuple hf).2
        have ed : tupd d = .tuple (ds.map tupd) := by
          rcases hd with rfl | rfl <;> simp only [tupd, tupdAll_map]
        refine ret_cb1 ?_
        refine fix_lc (dp_ext e hv) hd hx hl fun D H1 acc p ea => ?_
        refine ⟨D, acc, rfl, .inl ⟨.inl (.inl ea), fun T hT => ?_⟩⟩
        obtain ⟨e2, n2⟩ := pv_tup p ea hT
        rw [← ed] at n2
        exact k _ _ (e.trans e2) (n2.back e)
      · rw [Bool.eq_false_iff.mpr hs]
        refine iteF ⟨v, rfl, k v H' e (new_flat hv (fun ds z => ?_) (fun ds z => ?_))⟩
        · subst z; exact hs rfl
        · subst z; exact hs rfl
theorem ok_tupled {f : Addr} {fd : FuncData} (F : Fun K "_law_tupled" "_law_tupled" sTupled f fd) (b : Binds K fd ["value"] []) (T : Free mg) (g : mg "_law_tupled" = some (.ref f)) : ∀ n, FnOk P w K mg base CX0 (n + 1) f fd ["value"] (spFix K n) := by
  intro n
  induction n with
  | zero =>
    refine F.ok scT (fun vs H Q E h => ?_) (fun cdv A outer s H vs Q E hr h => ?_)
    · obtain ⟨v, d, rfl, _⟩ := h
      rfl
    · obtain ⟨v, d, rfl, hv, hf, k⟩ := h
      refine ⟨_, pss_one (ps_ret (pe_ifExp (pt_val (pe_callB call_isiT (by rfl) T.isi (by decide +kernel) (pa_cons (pv 0) (pa_cons (pe_tup (pa_cons (pe_bltn (v := .ty "list") (by rfl) T.list (by decide +kernel) rfl) (pa_cons (pe_bltn (v := .ty "tuple") (by rfl) T.tuple (by decide +kernel) rfl) pa_nil))) pa_nil)))) pe_no (pv 0))), ?_⟩
      refine isi_seq hv (fun H' e => ?_) _ _ (fun R q => ⟨v, rfl, q⟩)
      have hs : isSeq d = false := by
        cases d with
        | list ds => exact absurd (Fine.of_list hf).1 (by omega)
        | tuple ds => exact absurd (Fine.of_tuple hf).1 (by omega)
        | _ => rfl
      refine ⟨_, rfl, ?_⟩
      rw [hs]
      refine iteF ⟨v, rfl, k v H' e (new_flat hv (fun ds z => ?_) (fun ds z => ?_))⟩
      · subst z; cases hs
      · subst z; cases hs
  | succ n ih =>
    refine F.ok scT (fun vs H Q E h => ?_) (fun cdv A outer s H vs Q E hr h => ?_)
    · obtain ⟨v, d, rfl, _⟩ := h
      rfl
    · obtain ⟨v, d, rfl, hv, hf, k⟩ := h
      refine ⟨_, pss_one (ps_ret (pe_ifExp (pt_val (pe_callB call_isiT (by rfl) T.isi (by decide +kernel) (pa_cons (pv 0) (pa_cons (pe_tup (pa_cons (pe_bltn (v := .ty "list") (by rfl) T.list (by decide +kernel) rfl) (pa_cons (pe_bltn (v := .ty "tuple") (by rfl) T.tuple (by decide +kernel) rfl) pa_nil))) pa_nil))))
          (pe_callTy call_tuple_of (by rfl) T.tuple (by decide +kernel) (pa_cons (pe_lc (own := [("one", 1)]) (g := gName 1) (tt := tYes) rfl scT.nd (pi_seq (pv 0)) (blkOk_by (N := ["value", "one"]) (sc := defScope sTupled) (by decide +kernel)) (fun _ _ _ _ _ => pg_name (i := 1) scT.nd rfl (Or.inl rfl)) (fun _ _ _ _ _ => pts_nil) (fun _ _ _ _ _ => pe_call ih hr (by rfl) g F.kp b .nil pass0 (pa_cons (pv 1) pa_nil))) pa_nil)) (pv 0))), ?_⟩
      refine isi_seq hv (fun H' e => ?_) _ _ (fun R q => ⟨v, rfl, q⟩)
      refine ⟨_, rfl, ?_⟩
      by_cases hs : isSeq d = true
      · rw [hs]
        refine iteT ?_
        obtain ⟨ds, hd⟩ : ∃ ds, d = .list ds ∨ d = .tuple ds := by
          cases d with
          | list ds => exact ⟨ds, .inl rfl⟩
          | tuple ds => exact ⟨ds, .inr rfl⟩
          | _ => cases hs
        obtain ⟨hl, hx⟩ : ds.length ≤ 100000 ∧ ∀ x ∈ ds, Fine n 100000 x := by
          rcases hd with rfl | rfl
          · exact (Fine.of_list hf).2
          · exact (Fine.of_tuple hf).2
        have ed : tupd d = .tuple (ds.map tupd) := by
          rcases hd with rfl | rfl <;> simp only [tupd, tupdAll_map]
        refine cb1 ?_
        refine fix_lc (dp_ext e hv) hd hx hl fun D H1 acc p ea => ?_
        refine ⟨D, acc, rfl, .inl ⟨.inl (.inl ea), fun T hT => ?_⟩⟩
        obtain ⟨e2, n2⟩ := pv_tup p ea hT
        rw [← ed] at n2
        exact k _ _ (e.trans e2) (n2.back e)
      · rw [Bool.eq_false_iff.mpr hs]
        refine iteF ⟨v, rfl, k v H' e (new_flat hv (fun ds z => ?_) (fun ds z => ?_))⟩
        · subst z; exact hs rfl
        · subst z; exact hs rfl
end
end K00
end K00Fix3_text
section K00Like_text
set_option Elab.async false
set_option linter.all false
set_option maxRecDepth 100000
set_option maxHeartbeats 4000000
/-! k00: are_like. -/
namespace K00
open PySem PySem.Spec PyProof.Rows L2
section
variable {P : Program} {w : World} {K : PySem.W.Frag} {mg : Str → Option Value} {base : Heap}
theorem walk_zipT {a b : Addr} {xs ys : List V} {n : Nat} (hn : n = min xs.length ys.length) : Walk (RZ.ItzT K a b) n (fun H => SqT K H a xs ∧ SqT K H b ys) (YPair (fun i => xs[i]?) (fun i => ys[i]?)) := by
  subst hn
  refine ⟨fun i _ hi q => ?_, fun _ q => ⟨xs, ys, q.1, q.2, by omega⟩, fun i H v H' _ q y => ?_⟩
  · have h1 : i < xs.length := by omega
    have h2 : i < ys.length := by omega
    exact ⟨xs, ys, xs[i], ys[i], q.1, q.2, by simp [h1], by simp [h2]⟩
  · obtain ⟨T, x, z, h1, h2, h3, h4, h5⟩ := y
    exact ⟨T, x, z, h1, h2, h3, h4 xs q.1, h5 ys q.2⟩
def isT : PyData → Bool
  | .tuple _ => true
  | _ => false
theorem kit_tup (d : PyData) (h : ∀ kvs, d ≠ .dict kvs) : PySem.W.kitOne K (.type (tyD d)) (.type "tuple") = some (isT d) := by
  cases d with
  | dict kvs => exact absurd rfl (h kvs)
  | list ds => exact kit_ty (show kitB "list" "tuple" = some false by decide +kernel)
  | tuple ds => exact kit_ty (show kitB "tuple" "tuple" = some true by decide +kernel)
  | none => exact kit_ty (show kitB "NoneType" "tuple" = some false by decide +kernel)
  | bool b => exact kit_ty (show kitB "bool" "tuple" = some false by decide +kernel)
  | int i => exact kit_ty (show kitB "int" "tuple" = some false by decide +kernel)
  | str x => exact kit_ty (show kitB "str" "tuple" = some false by decide +kernel)
theorem kit_bool (d : PyData) (h : ∀ kvs, d ≠ .dict kvs) : PySem.W.kitOne K (.type (tyD d)) (.type "bool") = some (isB d) := by
  cases d with
  | dict kvs => exact absurd rfl (h kvs)
  | list ds => exact kit_ty (show kitB "list" "bool" = some false by decide +kernel)
  | tuple ds => exact kit_ty (show kitB "tuple" "bool" = some false by decide +kernel)
  | none => exact kit_ty (show kitB "NoneType" "bool" = some false by decide +kernel)
  | bool b => exact kit_ty (show kitB "bool" "bool" = some true by decide +kernel)
  | int i => exact kit_ty (show kitB "int" "bool" = some false by decide +kernel)
  | str x => exact kit_ty (show kitB "str" "bool" = some false by decide +kernel)
theorem isi_one {v : V} {d : PyData} {H : Hp} {Q : VK} {n : String} {b : Bool} (h : Dp K H v d) (hk : PySem.W.kitOne K (.type (tyD d)) (.type n) = some b) (k : Q (.bl b) H) (σ : L2.St) (te : TE) (hte : ∀ R : VK, R v H → te σ H R) :
    tCB (rIsi K) (tCons te (tCons (tC (.ty n)) tNil)) σ H Q := by
  refine hte _ ?_
  exact ⟨v, .ty n, _, _, b, rfl, .ty n, dp_ty h, hk, k⟩

/-- what are_like promises of data so deep -/
def spLike (K : PySem.W.Frag) (n : Nat) : Sp := fun vs H Q _ => ∃ (v u : V) (d e : PyData), vs = [v, u] ∧ Dp K H v d ∧ Dp K H u e ∧ Fine n 100000 d ∧ Fine n 100000 e ∧ ∀ H', Ext H H' → Q (.bl (like d e)) H'
theorem scK : FnScope ["one", "other", "here", "there"] ["one", "other"] (defScope sLike) := ⟨rfl, rfl, rfl, by decide +kernel, rfl, by decide +kernel, by decide +kernel⟩
theorem likeAll_zip : ∀ (xs ys : List PyData), xs.length = ys.length → likeAll xs ys = ((xs.zip ys).map fun p => like p.1 p.2).all id
  | [], [], _ => rfl
  | x :: xs, y :: ys, h => by
    simp only [List.length_cons, Nat.add_right_cancel_iff] at h
    simp [likeAll, likeAll_zip xs ys h]
theorem likeAll_len : ∀ (xs ys : List PyData), xs.length ≠ ys.length → likeAll xs ys = false
  | [], [], h => absurd rfl h
  | [], _ :: _, _ => by simp [likeAll]
  | _ :: _, [], _ => by simp [likeAll]
  | x :: xs, y :: ys, h => by
    simp only [List.length_cons, ne_eq, Nat.add_right_cancel_iff] at h
    simp [likeAll, likeAll_len xs ys h]

theorem like_nt {d e : PyData} (h : (isT d && isT e) = false) : like d e = if isB d != isB e then false else PyData.eqv d e := by
  cases d <;> cases e <;> first | (cases h; done) | simp [like]
theorem iteS {c A B : Prop} [Decidable c] (hc : ¬ c) (h : A) : if (!decide c) = true then A else B := by
  rw [decide_eq_false hc]
  exact iteT h
abbrev t_tail (K : PySem.W.Frag) : TS := tSeq (tIfS (tTest (tOp rNe (tCB (rIsi K) (tCons (tVar 0) (tCons (tC (.ty "bool")) tNil))) (tCB (rIsi K) (tCons (tVar 1) (tCons (tC (.ty "bool")) tNil))))) (tRet (tC (.bl false))) tNext)
    (tRet (tCB (fun xs H Q => (∃ i, xs = [V.int i] ∧ Q (.bl (i != 0)) H) ∨ ∃ k, xs = [.bl k] ∧ Q (.bl k) H) (tCons (tOp (rEqD K) (tVar 0) (tVar 1)) tNil)))
theorem like_tail {n : Nat} {v u : V} {d e : PyData} {H : Hp} {D : Ends} {r : List (Option V)} (hn : n ≤ 60) (hv : Dp K H v d) (hu : Dp K H u e) (hd : Fine n 100000 d) (he : Fine n 100000 e) (hnt : (isT d && isT e) = false) (k : D.rt (.bl (like d e)) H) :
    t_tail K D (some v :: some u :: r) H := by
  refine isi_one hv (kit_bool d (dp_nodict hv)) ?_ _ _ (fun R q => ⟨v, rfl, q⟩)
  refine isi_one hu (kit_bool e (dp_nodict hu)) ?_ _ _ (fun R q => ⟨u, rfl, q⟩)
  refine ⟨rfl, _, rfl, ?_⟩
  rw [like_nt hnt] at k
  by_cases hb : isB d = isB e
  · refine iteNS (by rw [hb]) ?_
    refine ⟨v, rfl, u, rfl, d, e, hv, hu, hd.shaped (by omega), he.shaped (by omega), .inr ⟨_, rfl, ?_⟩⟩
    rw [hb] at k
    simpa using k
  · refine iteS (fun z => hb (V.bl.inj z)) ?_
    have e2 : (isB d != isB e) = true := by simpa using hb
    rw [e2] at k
    exact k

theorem ok_like {f : Addr} {fd : FuncData} (F : Fun K "are_like" "are_like" sLike f fd) (b : Binds K fd ["one", "other"] []) (T : Free mg) (g : mg "are_like" = some (.ref f)) : ∀ n, n ≤ 60 → FnOk P w K mg base CX0 (n + 1) f fd ["one", "other"] (spLike K n) := by
  intro n
  induction n with
  | zero =>
    intro hn
    refine F.ok scK (fun vs H Q E h => ?_) (fun cdv A outer s H vs Q E hr h => ?_)
    · obtain ⟨v, u, d, e, rfl, _⟩ := h
      rfl
    · obtain ⟨v, u, d, e, rfl, hv, hu, hd, he, k⟩ := h
      refine ⟨_, pss_cons (ps_if (PW.pt (pw_and (pt_val (pe_callB call_isi (by rfl) T.isi (by decide +kernel) (pa_cons (pv 0) (pa_cons (pe_bltn (v := .ty "tuple") (by rfl) T.tuple (by decide +kernel) rfl) pa_nil)))) (pw_and1 (pt_val (pe_callB call_isi (by rfl) T.isi (by decide +kernel) (pa_cons (pv 1) (pa_cons (pe_bltn (v := .ty "tuple") (by rfl) T.tuple (by decide +kernel) rfl) pa_nil))))))) (pss_one ps_never) pss_nil)
        (pss_cons (ps_if (pt_cmpR op_ne (pe_callB call_isi (by rfl) T.isi (by decide +kernel) (pa_cons (pv 0) (pa_cons (pe_bltn (v := .ty "bool") (by rfl) T.bool (by decide +kernel) rfl) pa_nil))) (pe_callB call_isi (by rfl) T.isi (by decide +kernel) (pa_cons (pv 1) (pa_cons (pe_bltn (v := .ty "bool") (by rfl) T.bool (by decide +kernel) rfl) pa_nil))) (nomark _)) (pss_one (ps_ret pe_bl)) pss_nil)
        (pss_one (ps_ret (pe_callTy call_bool1 (by rfl) T.bool (by decide +kernel) (pa_cons (pe_cmpR (op_eqD hr.units) (pv 0) (pv 1) (nomark _)) pa_nil))))), ?_⟩
      refine isi_one hv (kit_tup d (dp_nodict hv)) ?_ _ _ (fun R q => ⟨v, rfl, q⟩)
      refine ⟨_, rfl, ?_⟩
      have hs : isT d = false := by
        cases d with
        | tuple ds => exact absurd (Fine.of_tuple hd).1 (by omega)
        | _ => rfl
      rw [hs]
      refine iteF ?_
      exact like_tail (Nat.zero_le _) hv hu hd he (by rw [hs]; rfl) (k H Ext.rfl')
  | succ n ih =>
    intro hn
    refine F.ok scK (fun vs H Q E h => ?_) (fun cdv A outer s H vs Q E hr h => ?_)
    · obtain ⟨v, u, d, e, rfl, _⟩ := h
      rfl
    · obtain ⟨v, u, d, e, rfl, hv, hu, hd, he, k⟩ := h
      refine ⟨_, pss_cons (ps_if (PW.pt (pw_and (pt_val (pe_callB call_isi (by rfl) T.isi (by decide +kernel) (pa_cons (pv 0) (pa_cons (pe_bltn (v := .ty "tuple") (by rfl) T.tuple (by decide +kernel) rfl) pa_nil)))) (pw_and1 (pt_val (pe_callB call_isi (by rfl) T.isi (by decide +kernel) (pa_cons (pv 1) (pa_cons (pe_bltn (v := .ty "tuple") (by rfl) T.tuple (by decide +kernel) rfl) pa_nil)))))))
          (pss_one (ps_ret (pe_and (pe_cmpR op_eq (pe_callB call_len_seq (by rfl) T.len (by decide +kernel) (pa_cons (pv 0) pa_nil)) (pe_callB call_len_seq (by rfl) T.len (by decide +kernel) (pa_cons (pv 1) pa_nil)) (nomark _))
            (pe_one (pe_callB (cr_all rfl) (by rfl) T.all (by decide +kernel) (pa_cons (pe_lc (own := [("here", 2), ("there", 3)]) (g := gTup K 2 (gCons (gName 2) (gCons (gName 3) gNil))) (tt := tYes) rfl scK.nd (RZ.pi_zipA (by rfl) T.zip (pa_cons (pv 0) (pa_cons (pv 1) pa_nil))) (blkOk_by (N := ["one", "other", "here", "there"]) (sc := defScope sLike) (by decide +kernel))
              (fun _ _ _ _ _ => pg_tup rfl (pgs_cons (pg_name (i := 2) scK.nd rfl (Or.inl rfl)) (pgs_cons (pg_name (i := 3) scK.nd rfl (Or.inl rfl)) pgs_nil))) (fun _ _ _ _ _ => pts_nil) (fun _ _ _ _ _ => pe_call (ih (by omega)) hr (by rfl) g F.kp b .nil pass0 (pa_cons (pv 2) (pa_cons (pv 3) pa_nil)))) pa_nil)))))) pss_nil)
        (pss_cons (ps_if (pt_cmpR op_ne (pe_callB call_isi (by rfl) T.isi (by decide +kernel) (pa_cons (pv 0) (pa_cons (pe_bltn (v := .ty "bool") (by rfl) T.bool (by decide +kernel) rfl) pa_nil))) (pe_callB call_isi (by rfl) T.isi (by decide +kernel) (pa_cons (pv 1) (pa_cons (pe_bltn (v := .ty "bool") (by rfl) T.bool (by decide +kernel) rfl) pa_nil))) (nomark _)) (pss_one (ps_ret pe_bl)) pss_nil)
        (pss_one (ps_ret (pe_callTy call_bool1 (by rfl) T.bool (by decide +kernel) (pa_cons (pe_cmpR (op_eqD hr.units) (pv 0) (pv 1) (nomark _)) pa_nil))))), ?_⟩
      refine isi_one hv (kit_tup d (dp_nodict hv)) ?_ _ _ (fun R q => ⟨v, rfl, q⟩)
      refine ⟨_, rfl, ?_⟩
      by_cases hs : isT d = true
      · rw [hs]
        refine iteT ?_
        refine isi_one hu (kit_tup e (dp_nodict hu)) ?_ _ _ (fun R q => ⟨u, rfl, q⟩)
        refine ⟨_, rfl, ?_⟩
        by_cases hs2 : isT e = true
        · rw [hs2]
          refine iteT ?_
          obtain ⟨ds, rfl⟩ : ∃ ds, d = .tuple ds := by
            cases d with
            | tuple ds => exact ⟨ds, rfl⟩
            | _ => cases hs
          obtain ⟨es, rfl⟩ : ∃ ds, e = .tuple ds := by
            cases e with
            | tuple ds => exact ⟨ds, rfl⟩
            | _ => cases hs2
          cases hv with
          | @tup a xs _ ta hx =>
            cases hu with
            | @tup a2 ys _ tb hy =>
              obtain ⟨_, ld, fd'⟩ := Fine.of_tuple hd
              obtain ⟨_, le, fe'⟩ := Fine.of_tuple he
              have lx := dpAll_len hx
              have ly := dpAll_len hy
              refine ⟨_, rfl, a, xs, rfl, .inr ta, _, rfl, a2, ys, rfl, .inr tb, rfl, _, rfl, ?_⟩
              have el : like (.tuple ds) (.tuple es) = likeAll ds es := by simp [like]
              rw [el] at k
              refine ite2 (fun hc => ?_) (fun hc => ?_)
              · have hl : ds.length = es.length := by
                  have z := of_decide_eq_true hc
                  have z2 := V.int.inj z
                  omega
                refine cb1 ?_
                refine ⟨_, rfl, _, rfl, a, a2, xs, ys, rfl, .inr ⟨ta, tb, fun D hD => ?_⟩⟩
                refine lc_it (walk_zipT (xs := xs) (ys := ys) (n := (ds.zip es).length) (by rw [List.length_zip]; omega)) (fun i H' => Ext H H' ∧ H' D = some (.lst (((ds.zip es).take i).map fun p => V.bl (like p.1 p.2)))) ⟨Ext.upd hD, upd_same⟩
                  (fun i H' _ p => ⟨ta.ext p.1, tb.ext p.1⟩) ?_ ?_
                · rintro i x H' H'' hi ⟨x0, eD⟩ ⟨Tt, x1, y1, rfl, hT, rfl, hx1, hy1⟩
                  obtain ⟨d1, hd1, dp1⟩ := dpAll_get hx hx1
                  obtain ⟨e1, he1, dp2⟩ := dpAll_get hy hy1
                  have x2 : Ext H (upd H' Tt (.tup [x1, y1])) := x0.upd' hT
                  refine ⟨Tt, _, rfl, .inl (.inl upd_same), rfl, _, _, rfl, _, _, rfl, rfl, rfl, ?_⟩
                  refine ⟨_, rfl, _, rfl, ?_⟩
                  refine ⟨x1, y1, d1, e1, rfl, dp_ext x2 dp1, dp_ext x2 dp2, fd' d1 (List.mem_of_getElem? hd1), fe' e1 (List.mem_of_getElem? he1), fun H3 x3 => ?_⟩
                  have eD3 := x3 _ _ ((upd_ne (ne_of_none eD hT)).trans eD)
                  have hz : (ds.zip es)[i]? = some (d1, e1) := by
                    rw [List.getElem?_zip_eq_some]
                    exact ⟨hd1, he1⟩
                  refine ⟨_, eD3, ?_, fun c o q => ?_, ?_⟩
                  · rw [List.length_map, List.length_take, List.length_zip, sizeLine_eq]
                    omega
                  · rw [upd_ne (ne_of_none q hD)]
                    exact x3 _ _ (x2 _ _ q)
                  · rw [upd_same, List.take_add_one, hz]
                    simp
                · rintro H' ⟨x0, eD⟩
                  rw [List.take_length] at eD
                  refine ⟨D, (ds.zip es).map fun p => like p.1 p.2, rfl, .inl (.inl ?_), ?_⟩
                  · rw [eD, List.map_map]
                    rfl
                  · rw [likeAll_zip ds es hl] at k
                    exact k H' x0
              · have hl : ds.length ≠ es.length := fun z => hc (decide_eq_true (by rw [lx, ly, z]))
                rw [likeAll_len ds es hl] at k
                exact k H Ext.rfl'
        · rw [Bool.eq_false_iff.mpr hs2]
          refine iteF ?_
          exact like_tail (n := n + 1) (by omega) hv hu hd he (by rw [Bool.eq_false_iff.mpr hs2, Bool.and_false]) (k H Ext.rfl')
      · rw [Bool.eq_false_iff.mpr hs]
        refine iteF ?_
        exact like_tail (n := n + 1) (by omega) hv hu hd he (by rw [Bool.eq_false_iff.mpr hs, Bool.false_and]) (k H Ext.rfl')
end
end K00
end K00Like_text
section K00Pap_text
set_option Elab.async false
set_option linter.all false
set_option maxRecDepth 100000
set_option maxHeartbeats 4000000
/-! k00: a paper's __init__. -/
namespace K00
open PySem PySem.Spec PyProof.Rows L2 StX

abbrev sPInit : Stmt := inClass (top 16) 0
abbrev sPBool : Stmt := inClass (top 16) 1
abbrev sPEq : Stmt := inClass (top 16) 2
abbrev sDBool : Stmt := inClass (top 17) 0

/-- what the written part tells of a class of papers -/
structure PapC (K : PySem.W.Frag) (C : Addr) : Prop where
  cl : Cls K C
  nW : NoAttr K C "word"
  nP : NoAttr K C "parts"
def pf (w t : V) : List (Str × V) := [("word", w), ("parts", t)]
theorem put_word (w : V) : putF "word" w [] = [(("word" : Str), w)] := rfl
theorem put_parts (w t : V) : putF "parts" t [(("word" : Str), w)] = pf w t := by
  show (if ("word" : Str) = "parts" then _ else (("word" : Str), w) :: [(("parts" : Str), t)]) = pf w t
  rw [if_neg (by decide +kernel)]
  rfl
/-- all but x stands -/
def ExtB (x : Addr) (H H' : Hp) : Prop := ∀ a o, a ≠ x → H a = some o → H' a = some o
theorem ExtB.trans {x : Addr} {H H1 H2 : Hp} (a : ExtB x H H1) (b : ExtB x H1 H2) : ExtB x H H2 := fun c o n h => b c o n (a c o n h)
theorem Ext.b {x : Addr} {H H' : Hp} (h : Ext H H') : ExtB x H H' := fun a o _ e => h a o e
theorem ExtB.upd {x : Addr} {H : Hp} {o : HO} : ExtB x H (upd H x o) := fun a u n e => by rw [upd_ne n]; exact e
mutual
theorem dp_extB {K : PySem.W.Frag} {H H' : Hp} {x : Addr} {C dx : Addr} {fs : List (Str × V)} (e : ExtB x H H') (hx : H x = some (.ins C dx fs)) : ∀ {d : PyData} {v : V}, Dp K H v d → Dp K H' v d
  | .none, _, h => by cases h; exact .non
  | .bool b, _, h => by cases h; exact .bl b
  | .int i, _, h => by cases h; exact .int i
  | .str x, _, h => by cases h; exact .str x
  | .list ds, _, h => by
    cases h with
    | lst hs ha =>
      refine .lst ?_ (dpAll_extB e hx ha)
      rcases hs with (q | ⟨o, q⟩) | q
      · exact .inl (.inl (e _ _ (fun z => by rw [z, hx] at q; cases q) q))
      · exact .inl (.inr ⟨o, e _ _ (fun z => by rw [z, hx] at q; cases q) q⟩)
      · exact .inr q
  | .tuple ds, _, h => by
    cases h with
    | tup hs ha =>
      refine .tup ?_ (dpAll_extB e hx ha)
      rcases hs with (q | ⟨o, q⟩) | q
      · exact .inl (.inl (e _ _ (fun z => by rw [z, hx] at q; cases q) q))
      · exact .inl (.inr ⟨o, e _ _ (fun z => by rw [z, hx] at q; cases q) q⟩)
      · exact .inr q
  | .dict _, _, h => by cases h
theorem dpAll_extB {K : PySem.W.Frag} {H H' : Hp} {x : Addr} {C dx : Addr} {fs : List (Str × V)} (e : ExtB x H H') (hx : H x = some (.ins C dx fs)) : ∀ {ds : List PyData} {vs : List V}, DpAll K H vs ds → DpAll K H' vs ds
  | [], _, h => by cases h; exact .nil
  | d :: ds, _, h => by
    cases h with
    | cons a b => exact .cons (dp_extB e hx a) (dpAll_extB e hx b)
end

/-- a paper's __init__, its parts in a tuple -/
def spPapI (K : PySem.W.Frag) (n : Nat) : Sp := fun vs H Q _ => ∃ (x C dx p : Addr) (w : V) (xs : List V) (ds : List PyData), vs = [.ref x, w, .ref p] ∧ PapC K C ∧ H x = some (.ins C dx []) ∧ H p = some (.tup xs) ∧ DpAll K H xs ds ∧ Fine n 100000 (.tuple ds) ∧
  ∀ t H', ExtB x H H' → H' x = some (.ins C dx (pf w t)) → New K H H' t (.tuple (ds.map tupd)) → Q .non H'
/-- a paper's __init__, told by its values -/
def spPap (K : PySem.W.Frag) (n : Nat) : Sp := fun vs H Q _ => ∃ (x C dx : Addr) (w : V) (xs : List V) (ds : List PyData), vs = .ref x :: w :: xs ∧ PapC K C ∧ H x = some (.ins C dx []) ∧ DpAll K H xs ds ∧ Fine n 100000 (.tuple ds) ∧
  ∀ t H', ExtB x H H' → H' x = some (.ins C dx (pf w t)) → New K H H' t (.tuple (ds.map tupd)) → Q .non H'

section
variable {P : Program} {w : World} {K : PySem.W.Frag} {mg : Str → Option Value} {base : Heap}
theorem scI : FnScope ["self", "word", "parts"] ["self", "word", "parts"] (defScope sPInit) := ⟨rfl, rfl, rfl, by decide +kernel, rfl, by decide +kernel, by decide +kernel⟩
theorem ok_papI {f fF : Addr} {fdF : FuncData} (F : Fun K "__init__" "Paper.__init__" sPInit f fd) (FF : Fun K "fixed" "fixed" sFixed fF fdF) (bF : Binds K fdF ["value"] []) (T : Free mg) (g : mg "fixed" = some (.ref fF)) (n : Nat) : FnR P w K mg base CX0 (n + 2) f (spPap K n) := by
  obtain ⟨oc, od, kV, doc, pm, an, cdv, ct, osl, rfl, lk, hcd⟩ := F.ex
  have G := ok_fix (P := P) (w := w) (base := base) FF bF T g n
  refine (fn_star (ps := ["self", "word"]) (pv := "parts") (sp := spPapI K n) lk hcd scI cxUp_none (fun us rest hl => match us, rest, hl with | [a, b], [], _ => rfl | [a, b], r :: rs, _ => rfl) fun A outer s H vs Q E hr h => ?_).imp fun vs H Q E h => ?_
  · obtain ⟨x, C, dx, p, wd, xs, ds, rfl, T1, hx, hp, ha, hf, k⟩ := h
    refine ⟨_, (pss_cons (ps_fld (pv 0) (pv 1) rfl) (pss_one (ps_fld (pv 0) (pe_call G hr (by rfl) g FF.kp bF .nil pass0 (pa_cons (pv 2) pa_nil)) rfl))).nox, ?_⟩
    have hpx : p ≠ x := fun z => by rw [z, hx] at hp; cases hp
    refine ⟨_, rfl, _, rfl, x, C, dx, [], rfl, hx, T1.cl, T1.nW, by decide, ?_⟩
    rw [put_word]
    have e1 : ExtB x H (upd H x (.ins C dx [(("word" : Str), wd)])) := ExtB.upd
    refine ⟨_, rfl, ?_⟩
    refine ⟨.ref p, .tuple ds, rfl, .tup (.inl (.inl (by rw [upd_ne hpx]; exact hp))) (dpAll_extB e1 hx ha), hf, fun v' H2 e2 n2 => ?_⟩
    refine ⟨_, rfl, x, C, dx, _, rfl, e2 _ _ upd_same, T1.cl, T1.nP, (by show 1 < 1000; decide), ?_⟩
    rw [put_parts]
    have et : tupd (.tuple ds) = .tuple (ds.map tupd) := by simp only [tupd, tupdAll_map]
    rw [et] at n2
    refine k v' _ ((e1.trans (Ext.b e2)).trans ExtB.upd) upd_same fun H'' z => n2 H'' fun a o h0 q => z a o ?_ ?_
    · by_cases ha : a = x
      · rw [ha, upd_same] at h0
        cases h0
      · rw [upd_ne ha] at h0
        exact h0
    · by_cases ha : a = x
      · rw [ha, upd_same] at h0
        cases h0
      · rw [upd_ne ha]
        exact q
  · obtain ⟨x, C, dx, wd, xs, ds, rfl, T1, hx, ha, hf, k⟩ := h
    refine ⟨[.ref x, wd], xs, rfl, rfl, ?_, fun p hp => ⟨x, C, dx, p, wd, xs, ds, rfl, T1, ?_, upd_same, dpAll_ext (Ext.upd hp) ha, hf, fun t H' e q n => k t H' ?_ q (n.back (Ext.upd hp))⟩⟩
    · rw [dpAll_len ha, sizeLine_eq]
      have := (Fine.of_tuple hf).2.1
      omega
    · exact Ext.upd hp _ _ hx
    · exact (Ext.b (Ext.upd hp)).trans e
end
end K00
end K00Pap_text
section K00SupI_text
set_option Elab.async false
set_option linter.all false
set_option maxRecDepth 100000
set_option maxHeartbeats 4000000
/-! k00: super().__init__(..) in an own class: the next class's def. -/
namespace L2
open PySem PySem.Spec PyProof.Rows
open PySem.W (Looks)

/-- the class C of self and the class D of the method: what super() finds -/
structure SupIns (K : PySem.W.Frag) (C D g : Addr) : Prop where
  sub : PySem.W.mroIn K C (.ref D) = some true
  ini : PySem.W.ks_superIn K C D "__init__" = some (some (.ref g))
  ty : PySem.W.typeIn K (.ref g) = some (.type "function")
  fi : PySem.W.fnIn K g = true

section
variable {X : Cx} {CX : CXT} {pins : List (Addr × Obj)} {σ : St} {H : Hp} {s : Shared}
theorem sup_ins {qual : Str} {scope : Scope} {body : List Stmt} {f c cc D x C L g dx : Addr} {fs : List (Str × V)} {fd : FuncData} {p0 p1 p2 p3 p4 : Pos} {e : Expr} {es : List Expr} {ta : TA} {kk : Nat} {sp : Sp} {E : XK} {k : Hp → Prop} {pl : Sem Bool}
    (T : SupTxt X.prog X.K X.mg f c cc D fd) (TE : SupIns X.K C D g) (G : FnR X.prog X.w X.K X.mg X.base CX kk g sp) (hr : Room kk X.A) (hpass : Passes CX X E) (hE : X.env = PySem.W.envX qual scope L f (.ref c) [("__class__", cc)])
    (hks : scope.names.lookup ("super" : Str) = some .globalImplicit) (hkc : scope.names.lookup ("__class__" : Str) = some .free) (hka : scope.names.lookup ("self" : Str) = some .local) (hk : scope.kind = .function)
    (hN : X.N[0]? = some ("self" : Str)) (hσ : σ[0]? = some (some (.ref x)))
    (I : Inv X pins σ H s) (hx : H x = some (.ins C dx fs)) (ha : PA X (e :: es) ta)
    (h : ta σ H fun ws H1 => sp (.ref x :: ws) H1 (fun _ H2 => k H2) E)
    (he : starEach (e :: es) X.env = (false, eval e X.env) :: starEach es X.env) (hpl : (backTo p3 (starEach es X.env)).any (·.1) = false)
    (hc : eval (.Call (.Attribute (.Call (.Name "super" p0) [] [] p1) "__init__" p2) (e :: es) [] p3) X.env = (do
      let ov ← attributeBase (.Call (.Name "super" p0) [] [] p1) "__init__" X.env (eval (.Call (.Name "super" p0) [] [] p1) X.env)
      standAt p2.atName
      let (f, first) ← holding [ov] (getMethod ov "__init__" pl)
      callWith p3 f first (backTo p3 (starEach (e :: es) X.env)) []))
    (hi : interactive X.env = false) (hsw : swapsWith (.Call (.Attribute (.Call (.Name "super" p0) [] [] p1) "__init__" p2) (e :: es) [] p3) none p4.line X.env = pure false) :
    _root_.PySem.wpAt (model X.prog X.w) X.A (.func body X.env) (exec (.Expr (.Call (.Attribute (.Call (.Name "super" p0) [] [] p1) "__init__" p2) (e :: es) [] p3) p4) X.env)
      (fun fl s' => fl = .next ∧ ∃ H1, Inv X pins σ H1 s' ∧ k H1) X.xe s := by
  obtain ⟨mA, O, _, _, _, _⟩ := ins_get I.hok hx
  obtain ⟨od, J0, _⟩ := O.look
  refine ks_wpAt_Expr_any (ks_wpAt_MethodCall (pl := pl) ?_ hc) hi hsw
  refine sup_obj T hE hks hkc hka hk (by decide) hN hσ I J0.1 rfl (fun q => nofun) TE.sub (fun so h1 J eso k1 => ?_)
  obtain ⟨mB, O2, _, _, _, _⟩ := ins_get J.hok hx
  obtain ⟨od2, II, _⟩ := O2.look
  have KX1 : X.K.In h1 := J.kIn
  obtain ⟨hp, gg, d, t, os⟩ := s
  have hm := TE.ini
  cases hcC : PySem.W.clsIn X.K C with
  | none => unfold PySem.W.ks_superIn at hm; rw [hcC] at hm; cases hm
  | some cd =>
    unfold PySem.W.ks_superIn at hm
    rw [hcC] at hm
    obtain ⟨of, hof, hofc⟩ : ∃ of, h1.get? g = some of ∧ of.cls = .type "function" := by
      have ht' : (X.K.lookup g).map (·.cls) = some (.type "function") := TE.ty
      cases z : X.K.lookup g with
      | none => rw [z] at ht'; cases ht'
      | some of => rw [z] at ht'; exact ⟨of, KX1 _ _ z, Option.some.inj ht'⟩
    refine ks_wpAny_getMethod_super eso (PySem.W.looks_opaque KX1 T.any_) (l₀ := cd.mro) ?_ rfl KX1 hm hof hofc (PySem.W.ks_ne KX1 II hcC) (by decide) ?_
    · exact fun A Q E s k q => wpAny_bind ((PySem.W.looks_clsIn KX1 hcC) A _ E s k (wpAny_pure q))
    · have hpush : (h1.push (PySem.W.methodObj (.ref g) (.ref x))).get? h1.objs.size = some (PySem.W.methodObj (.ref g) (.ref x)) := Heap.get?_push_at rfl rfl
      have J2 := J.kept (t' := t + 1) (h' := h1.push (PySem.W.methodObj (.ref g) (.ref x))) (fun b o e => Heap.get?_push_of_some _ e)
      have J3 : Inv X ((h1.objs.size, PySem.W.methodObj (.ref g) (.ref x)) :: pins) σ H _ := J2.pins_of fun p hp => by
        rcases List.mem_cons.mp hp with rfl | hp
        · exact ⟨hpush, J.hok.fresh (Nat.le_refl _), Nat.ne_of_gt J.lt, J.nofs (Nat.le_refl _), fun v => nofun⟩
        · exact J2.pin p (List.mem_append_right _ hp)
      have R := ha.run p3 _ _ σ H _ J3 h
      rw [he] at R ⊢
      refine PySem.W.callWith_of (P := PySem.W.MethP X.K h1.objs.size g (.ref x)) (by show ((false || (backTo p3 (starEach es X.env)).any (·.1)) || false) = false; rw [hpl]; rfl) (PySem.W.keeps_M TE.fi) ?_
      refine Calls.evalArgs_plain (thn R fun us s3 ⟨ws, H1, I3, r, hsp⟩ => ?_)
      obtain ⟨hu, _⟩ := I3.pin (h1.objs.size, PySem.W.methodObj (.ref g) (.ref x)) (List.mem_append_right _ (List.mem_cons_self ..))
      refine ⟨⟨hu, I3.kIn⟩, ?_⟩
      refine wpAny_call (PySem.W.method_call hu (codeAny_mono (run_fnR (us := .ref x :: us) (vs := .ref x :: ws) G hr hpass I3 (.cons rfl r) hsp) fun rr s' hq => ?_))
      cases rr with
      | error e => exact hq
      | ok fl =>
        cases fl with
        | ret u =>
          obtain ⟨v, H2, I4, rv, hk⟩ := hq
          refine ⟨by first | trivial | exact rfl, H2, I4.pins_of fun p hp => I4.pin p (by
            rcases List.mem_append.mp (List.mem_append_right X.pn hp) with z | z
            · exact List.mem_append_left _ z
            · exact List.mem_append_right _ (List.mem_cons_of_mem _ z)), hk⟩
        | next => exact False.elim hq
        | brk => exact False.elim hq
        | cont => exact False.elim hq
end
end L2
end K00SupI_text
section K00Gear_text
set_option Elab.async false
set_option linter.all false
set_option maxRecDepth 100000
set_option maxHeartbeats 4000000
/-! k00: the papers with named parts. Printed by gen_sub.py. -/
namespace L2
open PySem PySem.Spec PyProof.Rows
open NdefX StX K00

/-- o.f as a target -/
def gFld (K : PySem.W.Frag) (to : TE) (f : Str) : TG := fun v σ H Q => to σ H fun y H1 => ∃ a C dx fs, y = .ref a ∧ H1 a = some (.ins C dx fs) ∧ Cls K C ∧ NoAttr K C f ∧ fs.length < 1000 ∧ Q σ (upd H1 a (.ins C dx (putF f v fs)))
theorem pg_fld {X : Cx} {o : Expr} {f : Str} {pos : Pos} {to : TE} (ho : PE X o to) : PG X (.Attribute o f pos) (gFld X.K to f) := by
  refine ⟨fun pins s σ H v u Q I r hw => ?_⟩
  refine PySem.W.kas_attr (thn (ho.run pins s σ H _ I hw) fun ov s1 ⟨y, H1, I1, ry, a, C, dx, fs, ey, ea, c, n, l, q⟩ => ?_)
  subst ey
  obtain rfl : ov = Value.ref a := ry
  exact setattr_ok I1 ea c n l r fun s3 I3 => ⟨σ, _, I3, q⟩

/-- the new parts of a new tuple -/
theorem new_parts {K : PySem.W.Frag} {H H' : Hp} {v : V} {es : List PyData} (h : New K H H' v (.tuple es)) : ∃ t ts, v = .ref t ∧ ts.length = es.length ∧ ∀ H'', Mk2 H H' H'' → SqT K H'' t ts ∧ DpAll K H'' ts es := by
  have z := h (fun a => if H a = none then H' a else none) fun a o h0 h1 => by
    show (if H a = none then H' a else none) = some o
    rw [if_pos h0]; exact h1
  have up : ∀ H'', Mk2 H H' H'' → Ext (fun a => if H a = none then H' a else none) H'' := fun H'' k a o e => by
    have e : (if H a = none then H' a else none) = some o := e
    by_cases h0 : H a = none
    · exact k a o h0 (by rw [if_pos h0] at e; exact e)
    · rw [if_neg h0] at e
      cases e
  generalize (fun a => if H a = none then H' a else none) = M at z up
  cases z with
  | @tup t ts _ hs ha => exact ⟨t, ts, rfl, dpAll_len ha, fun H'' k => ⟨hs.ext (up H'' k), dpAll_ext (up H'' k) ha⟩⟩

/-- what the written part tells of a paper's class with its own __init__ at fI; g is Paper's -/
structure PapTxt (P : Program) (K : PySem.W.Frag) (mg : Str → Option Value) (F : NF) (C fI cc g : Addr) (fd : FuncData) : Prop where
  cl : F.cl = [(("__class__" : Str), cc)]
  fdEq : ∃ doc pm an ctv kV, fd = PySem.W.fnX F.name F.qual F.params F.body F.scope F.cl .none kV doc pm an (.ref F.c) ctv
  lk : ∃ oc od osl, K.lookup fI = some (⟨oc, od, .func fd, osl⟩ : Obj)
  hcd : PySem.W.codeIn K (.ref F.c) F.qual = true
  cell : ∃ cl cd cv sl, K.lookup cc = some (⟨cl, cd, .cell cv, sl⟩ : Obj)
  hks : F.scope.names.lookup ("super" : Str) = some .globalImplicit
  hkc : F.scope.names.lookup ("__class__" : Str) = some .free
  hka : F.scope.names.lookup ("self" : Str) = some .local
  T : SupTxt P K mg fI F.c cc C fd
  E : SupIns K C C g

/-- a paper of the class C made with these values: all is kept, in tuples -/
def spOwn (K : PySem.W.Frag) (C : Addr) (w : Str) (names : List Str) : Sp := fun vs H Q _ => ∃ (x dx : Addr) (xs : List V) (ds : List PyData), vs = .ref x :: xs ∧ xs.length = names.length ∧ H x = some (.ins C dx []) ∧ DpAll K H xs ds ∧ Fine 50 100000 (.tuple ds) ∧
  ∀ t ts H', ExtB x H H' → H' x = some (.ins C dx (pf (.str w) (.ref t) ++ names.zip ts)) → ts.length = names.length → (∀ H'', Mk2 H H' H'' → SqT K H'' t ts ∧ DpAll K H'' ts (ds.map tupd)) → Q .non H'
theorem putF_new {f : Str} {v : V} : ∀ {fs : List (Str × V)}, (∀ p ∈ fs, p.1 ≠ f) → putF f v fs = fs ++ [(f, v)]
  | [], _ => rfl
  | (g, x) :: r, h => by
    show (if g = f then (g, v) :: r else (g, x) :: putF f v r) = _
    rw [if_neg (h (g, x) (List.mem_cons_self ..)), putF_new fun p hp => h p (List.mem_cons_of_mem _ hp)]
    rfl
/-- self.f, self.g, .. as targets -/
def gFlds (K : PySem.W.Frag) : List Str → TGs
  | [] => gNil
  | f :: fs => gCons (gFld K (tVar 0) f) (gFlds K fs)
theorem unpack {K : PySem.W.Frag} {x C dx : Addr} (c : Cls K C) : ∀ (names : List Str) (ts : List V) (fs : List (Str × V)) (H1 : Hp) (σ : L2.St) (Q : L2.St → Hp → Prop), ts.length = names.length → σ[0]? = some (some (.ref x)) → H1 x = some (.ins C dx fs) →
    (∀ f ∈ names, NoAttr K C f) → names.Nodup → (∀ f ∈ names, ∀ p ∈ fs, p.1 ≠ f) → fs.length + names.length < 1000 → (∀ H', (∀ a, a ≠ x → H' a = H1 a) → H' x = some (.ins C dx (fs ++ names.zip ts)) → Q σ H') → gFlds K names ts σ H1 Q
  | [], [], fs, H1, σ, Q, _, _, ex, _, _, _, _, k => ⟨rfl, k H1 (fun _ _ => rfl) (by simpa using ex)⟩
  | f :: names, t :: ts, fs, H1, σ, Q, hl, hσ, ex, hno, hd, hf, hz, k => by
    refine ⟨t, ts, rfl, .ref x, hσ, x, C, dx, fs, rfl, ex, c, hno f (List.mem_cons_self ..), by simp only [List.length_cons] at hz; omega, ?_⟩
    rw [putF_new (hf f (List.mem_cons_self ..))]
    refine unpack c names ts _ _ σ Q (by simpa using hl) hσ upd_same (fun f' h => hno f' (List.mem_cons_of_mem _ h)) (List.nodup_cons.mp hd).2 (fun f' h p hp => ?_) (by simp only [List.length_append, List.length_cons, List.length_nil] at hz ⊢; omega) fun H' hk hx => k H' (fun a ha => (hk a ha).trans (upd_ne ha)) (by simpa using hx)
    rcases List.mem_append.mp hp with hp | hp
    · exact hf f' (List.mem_cons_of_mem _ h) p hp
    · simp only [List.mem_singleton] at hp
      subst hp
      exact fun z => (List.nodup_cons.mp hd).1 (by show f ∈ names; rw [show f = f' from z]; exact h)
theorem look_parts (w t : V) : (pf w t).lookup ("parts" : Str) = some t := by
  rw [← put_parts, lookup_putF, if_pos rfl]
section
variable {P : Program} {w : World} {K : PySem.W.Frag} {mg : Str → Option Value} {base : Heap} {C fI cc g : Addr} {fd : FuncData}

theorem ok_own2 {F : NF} {nm f0 f1 : Str} {j kk : Nat} {n p0 p1 p2 p3 p4 q0 q1 q2 q3 a0 b0 c0 a1 b1 c1 : Pos} (B : PapTxt P K mg F C fI cc g fd) (T1 : PapC K C) (G : FnR P w K mg base CX0 52 g (spPap K 50))
    (hb : F.body = [.Expr (.Call (.Attribute (.Call (.Name "super" p0) [] [] p1) "__init__" p2) (.Constant (.str nm) j n :: [.Name f0 a0, .Name f1 a1]) [] p3) p4, .Assign [.Tuple [.Attribute (.Name "self" b0) f0 c0, .Attribute (.Name "self" b1) f1 c1] kk q0] (.Attribute (.Name "self" q1) "parts" q2) q3])
    (hrd : SupRd (.Call (.Name "super" p0) [] [] p1) (.Constant (.str nm) j n :: [.Name f0 a0, .Name f1 a1]) p2 p3)
    (S : NScope ["self", f0, f1, "__class__"] ["self", f0, f1] ["__class__"] F.scope) (hf : ∀ f ∈ [f0, f1], F.scope.names.lookup f = some .local) (hno : ∀ f ∈ [f0, f1], NoAttr K C f) (hn : ∀ f ∈ [f0, f1], (f == ("__debug__" : Str)) = false ∧ (f == ("__classdict__" : Str)) = false)
    (hw : ∀ f ∈ [f0, f1], f ≠ "word" ∧ f ≠ "parts") (hd : ([f0, f1] : List Str).Nodup) : FnOk P w K mg base CX0 53 fI fd ["self", f0, f1] (spOwn K C nm [f0, f1]) := by
  obtain ⟨pl, hrd⟩ := hrd
  obtain ⟨name, qual, params, body, scope, cl, c⟩ := F
  obtain ⟨cl', fdEq, lk, hcd, cell, hks, hkc, hka, T, E⟩ := B
  dsimp only at cl' fdEq lk hcd hks hkc hka T hb S hf
  subst cl' hb
  obtain ⟨doc, pm, an, ctv, kV, rfl⟩ := fdEq
  obtain ⟨oc, od, osl, lk⟩ := lk
  obtain ⟨ecl, ecd, cv, esl, cell⟩ := cell
  refine fn_at (F := ⟨name, qual, params, _, scope, [(("__class__" : Str), cc)], c⟩) (N := ["self", f0, f1, "__class__"]) rfl rfl lk hcd cell S (fun vs H Q E h => ?_) fun A outer s H vs Q Ex hr h s1 I => ?_
  · obtain ⟨x, dx, xs, ds, rfl, hl, _⟩ := h
    rw [List.length_cons, hl]
    rfl
  · obtain ⟨x, dx, xs, ds, rfl, hl, ea, ha, hfi, k⟩ := h
    match xs, hl with
    | [x0, x1], _ =>
    refine _root_.PySem.wpAt_mono (sup_ins (k := fun H1 => ∃ t, ExtB x H H1 ∧ H1 x = some (.ins C dx (pf (.str nm) t)) ∧ New K H H1 t (.tuple (ds.map tupd))) (ta := tCons (tC (.str nm)) (tCons (tVar 1) (tCons (tVar 2) tNil))) T E G hr pass0 rfl hks hkc hka S.kind rfl rfl I ea (pa_cons pe_str (pa_cons (pe_var (i := 1) rfl (.inl (hf f0 (by simp))) (hn f0 (by simp)).1 (hn f0 (by simp)).2) (pa_cons (pe_var (i := 2) rfl (.inl (hf f1 (by simp))) (hn f1 (by simp)).1 (hn f1 (by simp)).2) pa_nil))) ?_ (by rfl) (by rfl) (hrd _) (by unfold interactive; simp [ncx, S.kind]) (by rfl)) (fun fl s' hs => ?_) fun e s' hs => hs
    · exact ⟨_, rfl, _, rfl, x, C, dx, .str nm, [x0, x1], ds, rfl, T1, ea, ha, hfi, fun t H' e q nw => ⟨t, e, q, nw⟩⟩
    · obtain ⟨rfl, H1, J, t, e1, ex, nw⟩ := hs
      refine ⟨rfl, H1, J, _, pss_one (ps_asg (pe_fld (pe_var (i := 0) rfl (.inl hka)) rfl) (pg_tup rfl (pgs_cons (pg_fld (pe_var (i := 0) rfl (.inl hka))) (pgs_cons (pg_fld (pe_var (i := 0) rfl (.inl hka))) pgs_nil)))), ?_⟩
      obtain ⟨tt, ts, rfl, lts, hts⟩ := new_parts nw
      have ll : ts.length = 2 := by
        rw [lts, List.length_map, ← dpAll_len ha]
        rfl
      refine ⟨_, rfl, x, C, dx, _, .ref tt, rfl, ex, T1.cl, T1.nP, look_parts _ _, ?_⟩
      refine ⟨tt, ts, rfl, (hts H1 fun _ _ _ e => e).1, ll, ?_⟩
      refine unpack T1.cl [f0, f1] ts _ H1 _ _ ll rfl ex hno hd (fun f h p hp => ?_) (by show 2 + 2 < 1000; decide) fun H' hk hx => k tt ts H' (fun a o ha e => (hk a ha).trans (e1 a o ha e)) hx ll fun H'' z => hts H'' fun a o h0 h1 => z a o h0 ?_
      · simp only [pf, List.mem_cons, List.not_mem_nil, or_false] at hp
        rcases hp with rfl | rfl
        · exact fun z => (hw f h).1 z.symm
        · exact fun z => (hw f h).2 z.symm
      · have hne : a ≠ x := fun z => by rw [z, ea] at h0; cases h0
        exact (hk a hne).trans h1

theorem ok_own3 {F : NF} {nm f0 f1 f2 : Str} {j kk : Nat} {n p0 p1 p2 p3 p4 q0 q1 q2 q3 a0 b0 c0 a1 b1 c1 a2 b2 c2 : Pos} (B : PapTxt P K mg F C fI cc g fd) (T1 : PapC K C) (G : FnR P w K mg base CX0 52 g (spPap K 50))
    (hb : F.body = [.Expr (.Call (.Attribute (.Call (.Name "super" p0) [] [] p1) "__init__" p2) (.Constant (.str nm) j n :: [.Name f0 a0, .Name f1 a1, .Name f2 a2]) [] p3) p4, .Assign [.Tuple [.Attribute (.Name "self" b0) f0 c0, .Attribute (.Name "self" b1) f1 c1, .Attribute (.Name "self" b2) f2 c2] kk q0] (.Attribute (.Name "self" q1) "parts" q2) q3])
    (hrd : SupRd (.Call (.Name "super" p0) [] [] p1) (.Constant (.str nm) j n :: [.Name f0 a0, .Name f1 a1, .Name f2 a2]) p2 p3)
    (S : NScope ["self", f0, f1, f2, "__class__"] ["self", f0, f1, f2] ["__class__"] F.scope) (hf : ∀ f ∈ [f0, f1, f2], F.scope.names.lookup f = some .local) (hno : ∀ f ∈ [f0, f1, f2], NoAttr K C f) (hn : ∀ f ∈ [f0, f1, f2], (f == ("__debug__" : Str)) = false ∧ (f == ("__classdict__" : Str)) = false)
    (hw : ∀ f ∈ [f0, f1, f2], f ≠ "word" ∧ f ≠ "parts") (hd : ([f0, f1, f2] : List Str).Nodup) : FnOk P w K mg base CX0 53 fI fd ["self", f0, f1, f2] (spOwn K C nm [f0, f1, f2]) := by
  obtain ⟨pl, hrd⟩ := hrd
  obtain ⟨name, qual, params, body, scope, cl, c⟩ := F
  obtain ⟨cl', fdEq, lk, hcd, cell, hks, hkc, hka, T, E⟩ := B
  dsimp only at cl' fdEq lk hcd hks hkc hka T hb S hf
  subst cl' hb
  obtain ⟨doc, pm, an, ctv, kV, rfl⟩ := fdEq
  obtain ⟨oc, od, osl, lk⟩ := lk
  obtain ⟨ecl, ecd, cv, esl, cell⟩ := cell
  refine fn_at (F := ⟨name, qual, params, _, scope, [(("__class__" : Str), cc)], c⟩) (N := ["self", f0, f1, f2, "__class__"]) rfl rfl lk hcd cell S (fun vs H Q E h => ?_) fun A outer s H vs Q Ex hr h s1 I => ?_
  · obtain ⟨x, dx, xs, ds, rfl, hl, _⟩ := h
    rw [List.length_cons, hl]
    rfl
  · obtain ⟨x, dx, xs, ds, rfl, hl, ea, ha, hfi, k⟩ := h
    match xs, hl with
    | [x0, x1, x2], _ =>
    refine _root_.PySem.wpAt_mono (sup_ins (k := fun H1 => ∃ t, ExtB x H H1 ∧ H1 x = some (.ins C dx (pf (.str nm) t)) ∧ New K H H1 t (.tuple (ds.map tupd))) (ta := tCons (tC (.str nm)) (tCons (tVar 1) (tCons (tVar 2) (tCons (tVar 3) tNil)))) T E G hr pass0 rfl hks hkc hka S.kind rfl rfl I ea (pa_cons pe_str (pa_cons (pe_var (i := 1) rfl (.inl (hf f0 (by simp))) (hn f0 (by simp)).1 (hn f0 (by simp)).2) (pa_cons (pe_var (i := 2) rfl (.inl (hf f1 (by simp))) (hn f1 (by simp)).1 (hn f1 (by simp)).2) (pa_cons (pe_var (i := 3) rfl (.inl (hf f2 (by simp))) (hn f2 (by simp)).1 (hn f2 (by simp)).2) pa_nil)))) ?_ (by rfl) (by rfl) (hrd _) (by unfold interactive; simp [ncx, S.kind]) (by rfl)) (fun fl s' hs => ?_) fun e s' hs => hs
    · exact ⟨_, rfl, _, rfl, _, rfl, x, C, dx, .str nm, [x0, x1, x2], ds, rfl, T1, ea, ha, hfi, fun t H' e q nw => ⟨t, e, q, nw⟩⟩
    · obtain ⟨rfl, H1, J, t, e1, ex, nw⟩ := hs
      refine ⟨rfl, H1, J, _, pss_one (ps_asg (pe_fld (pe_var (i := 0) rfl (.inl hka)) rfl) (pg_tup rfl (pgs_cons (pg_fld (pe_var (i := 0) rfl (.inl hka))) (pgs_cons (pg_fld (pe_var (i := 0) rfl (.inl hka))) (pgs_cons (pg_fld (pe_var (i := 0) rfl (.inl hka))) pgs_nil))))), ?_⟩
      obtain ⟨tt, ts, rfl, lts, hts⟩ := new_parts nw
      have ll : ts.length = 3 := by
        rw [lts, List.length_map, ← dpAll_len ha]
        rfl
      refine ⟨_, rfl, x, C, dx, _, .ref tt, rfl, ex, T1.cl, T1.nP, look_parts _ _, ?_⟩
      refine ⟨tt, ts, rfl, (hts H1 fun _ _ _ e => e).1, ll, ?_⟩
      refine unpack T1.cl [f0, f1, f2] ts _ H1 _ _ ll rfl ex hno hd (fun f h p hp => ?_) (by show 2 + 3 < 1000; decide) fun H' hk hx => k tt ts H' (fun a o ha e => (hk a ha).trans (e1 a o ha e)) hx ll fun H'' z => hts H'' fun a o h0 h1 => z a o h0 ?_
      · simp only [pf, List.mem_cons, List.not_mem_nil, or_false] at hp
        rcases hp with rfl | rfl
        · exact fun z => (hw f h).1 z.symm
        · exact fun z => (hw f h).2 z.symm
      · have hne : a ≠ x := fun z => by rw [z, ea] at h0; cases h0
        exact (hk a hne).trans h1

theorem ok_own4 {F : NF} {nm f0 f1 f2 f3 : Str} {j kk : Nat} {n p0 p1 p2 p3 p4 q0 q1 q2 q3 a0 b0 c0 a1 b1 c1 a2 b2 c2 a3 b3 c3 : Pos} (B : PapTxt P K mg F C fI cc g fd) (T1 : PapC K C) (G : FnR P w K mg base CX0 52 g (spPap K 50))
    (hb : F.body = [.Expr (.Call (.Attribute (.Call (.Name "super" p0) [] [] p1) "__init__" p2) (.Constant (.str nm) j n :: [.Name f0 a0, .Name f1 a1, .Name f2 a2, .Name f3 a3]) [] p3) p4, .Assign [.Tuple [.Attribute (.Name "self" b0) f0 c0, .Attribute (.Name "self" b1) f1 c1, .Attribute (.Name "self" b2) f2 c2, .Attribute (.Name "self" b3) f3 c3] kk q0] (.Attribute (.Name "self" q1) "parts" q2) q3])
    (hrd : SupRd (.Call (.Name "super" p0) [] [] p1) (.Constant (.str nm) j n :: [.Name f0 a0, .Name f1 a1, .Name f2 a2, .Name f3 a3]) p2 p3)
    (S : NScope ["self", f0, f1, f2, f3, "__class__"] ["self", f0, f1, f2, f3] ["__class__"] F.scope) (hf : ∀ f ∈ [f0, f1, f2, f3], F.scope.names.lookup f = some .local) (hno : ∀ f ∈ [f0, f1, f2, f3], NoAttr K C f) (hn : ∀ f ∈ [f0, f1, f2, f3], (f == ("__debug__" : Str)) = false ∧ (f == ("__classdict__" : Str)) = false)
    (hw : ∀ f ∈ [f0, f1, f2, f3], f ≠ "word" ∧ f ≠ "parts") (hd : ([f0, f1, f2, f3] : List Str).Nodup) : FnOk P w K mg base CX0 53 fI fd ["self", f0, f1, f2, f3] (spOwn K C nm [f0, f1, f2, f3]) := by
  obtain ⟨pl, hrd⟩ := hrd
  obtain ⟨name, qual, params, body, scope, cl, c⟩ := F
  obtain ⟨cl', fdEq, lk, hcd, cell, hks, hkc, hka, T, E⟩ := B
  dsimp only at cl' fdEq lk hcd hks hkc hka T hb S hf
  subst cl' hb
  obtain ⟨doc, pm, an, ctv, kV, rfl⟩ := fdEq
  obtain ⟨oc, od, osl, lk⟩ := lk
  obtain ⟨ecl, ecd, cv, esl, cell⟩ := cell
  refine fn_at (F := ⟨name, qual, params, _, scope, [(("__class__" : Str), cc)], c⟩) (N := ["self", f0, f1, f2, f3, "__class__"]) rfl rfl lk hcd cell S (fun vs H Q E h => ?_) fun A outer s H vs Q Ex hr h s1 I => ?_
  · obtain ⟨x, dx, xs, ds, rfl, hl, _⟩ := h
    rw [List.length_cons, hl]
    rfl
  · obtain ⟨x, dx, xs, ds, rfl, hl, ea, ha, hfi, k⟩ := h
    match xs, hl with
    | [x0, x1, x2, x3], _ =>
    refine _root_.PySem.wpAt_mono (sup_ins (k := fun H1 => ∃ t, ExtB x H H1 ∧ H1 x = some (.ins C dx (pf (.str nm) t)) ∧ New K H H1 t (.tuple (ds.map tupd))) (ta := tCons (tC (.str nm)) (tCons (tVar 1) (tCons (tVar 2) (tCons (tVar 3) (tCons (tVar 4) tNil))))) T E G hr pass0 rfl hks hkc hka S.kind rfl rfl I ea (pa_cons pe_str (pa_cons (pe_var (i := 1) rfl (.inl (hf f0 (by simp))) (hn f0 (by simp)).1 (hn f0 (by simp)).2) (pa_cons (pe_var (i := 2) rfl (.inl (hf f1 (by simp))) (hn f1 (by simp)).1 (hn f1 (by simp)).2) (pa_cons (pe_var (i := 3) rfl (.inl (hf f2 (by simp))) (hn f2 (by simp)).1 (hn f2 (by simp)).2) (pa_cons (pe_var (i := 4) rfl (.inl (hf f3 (by simp))) (hn f3 (by simp)).1 (hn f3 (by simp)).2) pa_nil))))) ?_ (by rfl) (by rfl) (hrd _) (by unfold interactive; simp [ncx, S.kind]) (by rfl)) (fun fl s' hs => ?_) fun e s' hs => hs
    · exact ⟨_, rfl, _, rfl, _, rfl, _, rfl, x, C, dx, .str nm, [x0, x1, x2, x3], ds, rfl, T1, ea, ha, hfi, fun t H' e q nw => ⟨t, e, q, nw⟩⟩
    · obtain ⟨rfl, H1, J, t, e1, ex, nw⟩ := hs
      refine ⟨rfl, H1, J, _, pss_one (ps_asg (pe_fld (pe_var (i := 0) rfl (.inl hka)) rfl) (pg_tup rfl (pgs_cons (pg_fld (pe_var (i := 0) rfl (.inl hka))) (pgs_cons (pg_fld (pe_var (i := 0) rfl (.inl hka))) (pgs_cons (pg_fld (pe_var (i := 0) rfl (.inl hka))) (pgs_cons (pg_fld (pe_var (i := 0) rfl (.inl hka))) pgs_nil)))))), ?_⟩
      obtain ⟨tt, ts, rfl, lts, hts⟩ := new_parts nw
      have ll : ts.length = 4 := by
        rw [lts, List.length_map, ← dpAll_len ha]
        rfl
      refine ⟨_, rfl, x, C, dx, _, .ref tt, rfl, ex, T1.cl, T1.nP, look_parts _ _, ?_⟩
      refine ⟨tt, ts, rfl, (hts H1 fun _ _ _ e => e).1, ll, ?_⟩
      refine unpack T1.cl [f0, f1, f2, f3] ts _ H1 _ _ ll rfl ex hno hd (fun f h p hp => ?_) (by show 2 + 4 < 1000; decide) fun H' hk hx => k tt ts H' (fun a o ha e => (hk a ha).trans (e1 a o ha e)) hx ll fun H'' z => hts H'' fun a o h0 h1 => z a o h0 ?_
      · simp only [pf, List.mem_cons, List.not_mem_nil, or_false] at hp
        rcases hp with rfl | rfl
        · exact fun z => (hw f h).1 z.symm
        · exact fun z => (hw f h).2 z.symm
      · have hne : a ≠ x := fun z => by rw [z, ea] at h0; cases h0
        exact (hk a hne).trans h1
end
end L2
end K00Gear_text
section K00EqM_text
set_option Elab.async false
set_option linter.all false
set_option maxRecDepth 100000
set_option maxHeartbeats 4000000
/-! k00: own ==, != and bool(): the machine's steps. -/
namespace PySem.W
open PySem PySem.Spec PySem.Calls PyProof.Rows
section
variable {prog : Program} {w : World} {A : Around} {E : Value → Shared → Prop} {s : Shared} {K : Frag} {x y C D f : Addr} {ox oy : Obj} {od odd : Option Obj} {b tb : Value}
theorem eq_left {Q : Value → Shared → Prop} (hu : A.units < cLine) (X : K.In s.heap) (I : InstAt s.heap x ox C od) (hb : Looks (model prog w) s.heap (typeOf b) tb) (hn : notFirst K C tb = true)
    (hs : findIn K (.ref C) "__eq__" = some (some (.ref f))) (hf : isFn K (.ref f) = true) (h : wpAny (model prog w) A (call (.ref f) [.ref x, b]) (CmpBack Q) E s) : wpAny (model prog w) A (richCompare .Eq (.ref x) b) Q E s := by
  have one : wpAny (model prog w) A (tryCompare (.ref x) (cmpInfo .Eq).2.1 b) (fun r s' => ∃ v, r = some v ∧ Q v s') E s := by
    unfold tryCompare
    refine wpAny_bind (ifBound_K X I hs hf (wpAny_mono h (fun v s' hv => ?_) fun _ _ e => e))
    cases v <;> first | exact hv.elim | exact wpAny_pure ⟨_, rfl, hv⟩
  unfold richCompare
  simp only [oneThing_ref]
  refine wpAny_holding (wpAny_bind (wpAny_cRoomFor hu ?_))
  refine wpAny_bind (I.type.here (wpAny_bind (hb.here ?_)))
  split
  · rename_i q
    have e : subIn K tb (.ref C) = some false := by
      rcases Bool.or_eq_true_iff.mp hn with e | e
      · rw [beq_iff_eq.mp e] at q; simp at q
      · exact beq_iff_eq.mp e
    refine wpAny_bind ((looks_subIn X e).here ?_)
    simp only [Bool.false_eq_true, if_false]
    refine wpAny_bind (wpAny_mono one (fun r s' z => ?_) fun _ _ e => e)
    obtain ⟨v, rfl, hq⟩ := z
    exact wpAny_pure hq
  · refine wpAny_bind (wpAny_pure ?_)
    simp only [Bool.false_eq_true, if_false]
    refine wpAny_bind (wpAny_mono one (fun r s' z => ?_) fun _ _ e => e)
    obtain ⟨v, rfl, hq⟩ := z
    exact wpAny_pure hq
/-- the right one's class lies below the left one's: it is asked first -/
theorem eq_right {Q : Value → Shared → Prop} (hu : A.units < cLine) (X : K.In s.heap) (I : InstAt s.heap x ox C od) (J : InstAt s.heap y oy D odd) (hne : D ≠ C) (hsub : subIn K (.ref D) (.ref C) = some true)
    (hs : findIn K (.ref D) "__eq__" = some (some (.ref f))) (hf : isFn K (.ref f) = true) (h : wpAny (model prog w) A (call (.ref f) [.ref y, .ref x]) (CmpBack Q) E s) : wpAny (model prog w) A (richCompare .Eq (.ref x) (.ref y)) Q E s := by
  have one : wpAny (model prog w) A (tryCompare (.ref y) (cmpInfo .Eq).2.2 (.ref x)) (fun r s' => ∃ v, r = some v ∧ Q v s') E s := by
    unfold tryCompare
    refine wpAny_bind (ifBound_K X J hs hf (wpAny_mono h (fun v s' hv => ?_) fun _ _ e => e))
    cases v <;> first | exact hv.elim | exact wpAny_pure ⟨_, rfl, hv⟩
  unfold richCompare
  simp only [oneThing_ref]
  refine wpAny_holding (wpAny_bind (wpAny_cRoomFor hu ?_))
  refine wpAny_bind (I.type.here (wpAny_bind (J.type.here ?_)))
  split
  · refine wpAny_bind ((looks_subIn X hsub).here ?_)
    simp only [if_true]
    refine wpAny_bind (wpAny_mono one (fun r s' z => ?_) fun _ _ e => e)
    obtain ⟨v, rfl, hq⟩ := z
    exact wpAny_bind (wpAny_rule (wpAny_pure hq))
  · rename_i q
    exact absurd (show (Value.ref C != Value.ref D) = true by simp [Ne.symm hne]) q
/-- bound builtin slot of an instance -/
theorem ifBound_B {M : Model} {A : Around} {E : Value → Shared → Prop} {args : List Value} {id : String} {name : Str} {Q : Option Value → Shared → Prop} (X : K.In s.heap) (I : InstAt s.heap x ox C od) (hs : findIn K (.ref C) name = some (some (.builtin id))) (hf : bindSpecial (.builtin id) (.ref x) = pure (.builtin id, [.ref x]))
    (h : wpAny M A (call (.builtin id) (.ref x :: args)) (fun v => Q (some v)) E s) : wpAny M A (callSpecialIfBound? (.ref x) name args) Q E s := by
  simp only [callSpecialIfBound?, bindSpecialIfBound?]
  refine wpAny_holding (wpAny_bind (wpAny_bind (wpAny_bind (I.type.here ((looks_findIn X hs).here ?_)))))
  refine wpAny_bind (wpAny_askSetting (wpAny_ite ?_))
  have fin : wpAny M A (call (.builtin id) ([.ref x] ++ args) >>= fun v => pure (some v)) Q E s := wpAny_bind (wpAny_mono h (fun v s' h' => wpAny_pure h') fun _ _ h' => h')
  split
  · refine wpAny_bind (wpAny_of_eq hf (wpAny_pure (by exact fin)))
  · exact wpAny_tryCatch (wpAny_bind (wpAny_of_eq hf (wpAny_pure (by exact fin))))
/-- != of two of one class with an own == -/
theorem ne_own {Q : Value → Shared → Prop} (hu : A.units < cLine) (hu1 : A.in1.units < cLine) (X : K.In s.heap) (I : InstAt s.heap x ox C od) (hb : Looks (model prog w) s.heap (typeOf b) (.ref C)) (hm : mroIn K C (.type "object") = some true)
    (hn : findIn K (.ref C) "__ne__" = some (some (.builtin "object.__ne__"))) (hs : findIn K (.ref C) "__eq__" = some (some (.ref f))) (hf : isFn K (.ref f) = true)
    (h : wpAny (model prog w) A.in1 (call (.ref f) [.ref x, b]) (fun r s' => ∃ k, r = .bool k ∧ Q (.bool (!k)) s') E s) : wpAny (model prog w) A (richCompare .NotEq (.ref x) b) Q E s := by
  have one : wpAny (model prog w) A (tryCompare (.ref x) (cmpInfo .NotEq).2.1 b) (fun r s' => ∃ v, r = some v ∧ Q v s') E s := by
    unfold tryCompare
    refine wpAny_bind (ifBound_B X I hn (PySem.F.slot_object_ne.bind _) ?_)
    refine wpAny_call (codeAny_call_builtin PySem.F.slot_object_ne.plain PySem.F.entry_object_ne ?_)
    have sub : Looks (model prog w) s.heap (isInstance (.ref x) (.type "object")) true := I.type.andThen (looks_mroIn X hm)
    refine check_slot (owner := "object") (n := "__ne__") (by decide +kernel) (by decide +kernel) sub (PySem.F.args_object_ne_2 (.ref x) b) ?_
    unfold Builtin.«object.__ne__»
    refine wpAny_bind (wpAny_of_eq (a := ((Value.ref x : Value), [b])) (by first | rfl | (simp only [slotArgs]; rfl)) ?_)
    refine wpAny_bind (wpAny_cRoomFor hu1 ?_)
    refine wpAny_bind (ifBound_K X I hs hf (wpAny_mono h (fun v s' hv => ?_) fun _ _ e => e))
    obtain ⟨k, rfl, hq⟩ := hv
    refine wpAny_bind (wpAny_truthy_bool ?_)
    refine wpAny_pure ?_
    exact wpAny_pure ⟨_, rfl, hq⟩
  unfold richCompare
  simp only [oneThing_ref]
  refine wpAny_holding (wpAny_bind (wpAny_cRoomFor hu ?_))
  refine wpAny_bind (I.type.here (wpAny_bind (hb.here ?_)))
  split
  · rename_i q
    simp at q
  · refine wpAny_bind (wpAny_pure ?_)
    simp only [Bool.false_eq_true, if_false]
    refine wpAny_bind (wpAny_mono one (fun r s' z => ?_) fun _ _ e => e)
    obtain ⟨v, rfl, hq⟩ := z
    exact wpAny_pure hq
theorem truthy_own {M : Model} {A : Around} {E : Value → Shared → Prop} {Q : Bool → Shared → Prop} (X : K.In s.heap) (I : InstAt s.heap x ox C od) (hs : findIn K (.ref C) "__bool__" = some (some (.ref f))) (hf : isFn K (.ref f) = true)
    (h : wpAny M A (call (.ref f) [.ref x]) (BoolBack Q) E s) : wpAny M A (truthy (.ref x)) Q E s := by
  unfold truthy
  refine wpAny_bind (m := callSpecial? (.ref x) (Str.ofString "__bool__")) (special_fn X I hs (beq_iff_eq.mp hf) (wpAny_mono h (fun r s' hr => ?_) fun _ _ y => y))
  cases r <;> first | exact hr.elim | skip
  exact wpAny_pure hr
/-- bool(x), x with an own __bool__ -/
theorem bool_own {Q : Value → Shared → Prop} (X : K.In s.heap) (I : InstAt s.heap x ox C od) (hs : findIn K (.ref C) "__bool__" = some (some (.ref f))) (hf : isFn K (.ref f) = true)
    (h : wpAny (model prog w) A.in1.in1 (call (.ref f) [.ref x]) (BoolBack fun k s' => Q (.bool k) s') E s) : wpAny (model prog w) A (call (.type "bool") [.ref x]) Q E s := by
  refine callType_codes (T := "bool") (Bi := Builtin.«object.__init__») (Q₁ := fun r s₁ => ∃ k, r = Value.bool k ∧ Q r s₁) PySem.F.called_bool (PySem.F.typeCall_bool_1 _) PySem.F.entry_object_init ?_ ?_
  · refine codeAny_of_tree ?_
    show wpAny _ A.in1.in1 (do checkBuiltinCall "bool.__new__" ⟨[.type "bool", .ref x], []⟩; again (.builtin "bool.__new__" ⟨[.type "bool", .ref x], []⟩)) _ _ s
    refine wpAny_bind (wpAny_of_eq (PySem.F.newCall_bool_1 _) (wpAny_pure ⟨plainId_quiet (by decide +kernel) _, codeAny_builtin PySem.F.entry_bool_new ?_⟩))
    rw [Around.under_plainId (by decide +kernel) _]
    unfold Builtin.«bool.__new__»
    have f1 := PySem.F.conv_sub_bool
    obtain ⟨hp, g, d, tk, os⟩ := s
    repeat (first | with_reducible refine truthy_own X I hs hf (wpAny_mono h (fun r s' hr => ?_) fun _ _ y => y) | wp_step)
    cases r <;> first | exact hr.elim | skip
    exact wpAny_pure ⟨_, rfl, hr⟩
  · rintro obj s₁ ⟨k, rfl, hq⟩
    exact ⟨typeIs_bool _ _, PySem.F.args_object_init_2 _ _, object_init_meets PySem.F.called_bool.init.lookup PySem.F.called_bool.made (by decide) prog w A.in1 _ s₁ ⟨typeIs_bool _ _, rfl, hq⟩⟩
end
end PySem.W
end K00EqM_text
section K00Nm_text
set_option Elab.async false
set_option linter.all false
set_option maxRecDepth 100000
set_option maxHeartbeats 4000000
/-! k00: o.__class__, c.__name__ of an own class. -/
namespace PySem.W
open PySem PySem.Spec PySem.Calls PyProof.Rows Builtin Builtin.ObjectAttr Builtin.Getset_descriptor
section
variable {prog : Program} {w : World} {A : Around} {E : Value → Shared → Prop} {s : Shared} {K : Frag} {R : Result → Shared → Prop} {x C : Addr} {ox : Obj} {od : Option Obj}
theorem own_class {expr : Bool} {Q : Value → Shared → Prop} (X : K.In s.heap) (I : InstAt s.heap x ox C (some od')) (hga : findIn K (.ref C) "__getattribute__" = some (some (.builtin "object.__getattribute__"))) (hgt : findIn K (.ref C) "__getattr__" = some none)
    (ic : isClsIn K C = true) (ha : findIn K (.ref C) "__class__" = some (some (.builtin "object.__class__")))
    (hn : specialIn K (.builtin "object.__class__") "__get__" = some (some (.builtin "getset_descriptor.__get__"))) (htk : takesIn K (.builtin "object.__class__") = some true) (hm : mroIn K C (.type "object") = some true)
    (h : Q (.ref C) { s with toks := s.toks + 1 }) : wpAny (model prog w) A (getAttr (.ref x) "__class__" expr) Q E s := by
  refine get_bind X I hga (findObj_data ic ha hn htk) hgt ?_
  refine wpAny_call (class_get (s := { s with toks := s.toks + 1 }) X I hm ?_)
  exact handed_on rfl h
theorem name_get {tp nv : Value} {cl : Value} {dd : Option Addr} {cd : ClassData} {sl : Array (Option Value)} (X : K.In s.heap) (hC : K.lookup C = some (⟨cl, dd, .cls cd, sl⟩ : Obj)) (hsl : sl[2]? = some (some nv)) (ht : typeIn K (.ref C) = some (.type "type"))
    (h : R (.ok (.ret nv)) s) : codeAny (model prog w) A (.call (.builtin "getset_descriptor.__get__") ⟨[.builtin "type.__name__", .ref C, tp], []⟩) R s := by
  obtain ⟨hh, g, dr, t, os⟩ := s
  have L0 : Looks (model prog w) hh (typeOf (.ref C)) (.type "type") := looks_typeIn X ht
  have L1 : Looks (model prog w) hh (isSubtype (.type "type") (.type "type")) true := Looks.of_pure (by rw [isSubtype_type]; kernel_rfl)
  have hC' := X _ _ hC
  refine codeAny_call_builtin KF.slot_gs.plain KF.entry_gs (KF.slot_gs.check _ _ _ _ _ _ _ _ ktyn_type (KF.args_gs _ _ _) ?_)
  unfold Builtin.«getset_descriptor.__get__» descrGet
  rw [dga_obj]
  refine wpAny_bind (wpAny_pure ?_)
  unfold descrGetter descrCheckInstance descrNameAndClass isInstance
  simp only [ktyn_owner]
  repeat lk
  refine ⟨Code.quiet_builtin _ (by decide +kernel), codeAny_builtin ktyn_entry ?_⟩
  unfold Builtin.«type.__name__» keptObject slotAt
  dsimp only
  refine wpAny_bind (wpAny_bind (wpAny_loadPart hC' (wpAny_pure ?_)))
  dsimp only
  rw [hsl]
  exact wpAny_pure h
theorem own_name {expr : Bool} {Q : Value → Shared → Prop} {nv cl : Value} {dd : Option Addr} {cd : ClassData} {sl : Array (Option Value)} (X : K.In s.heap) (hC : K.lookup C = some (⟨cl, dd, .cls cd, sl⟩ : Obj)) (hsl : sl[2]? = some (some nv)) (hnv : handedIn nv = true) (ht : typeIn K (.ref C) = some (.type "type"))
    (any_ : nsIn K cStatics "thirdparty.any" = some none)
    (e : findCls K (.ref C) (.type "type") "__name__" = some (.get (.builtin "getset_descriptor.__get__") (.builtin "type.__name__") (.ref C) (.type "type")))
    (h : Q nv { s with toks := s.toks + 1 }) : wpAny (model prog w) A (getAttr (.ref C) "__name__" expr) Q E s := by
  have hg : findIn K (.type "type") "__getattribute__" = some (some (.builtin "type.__getattribute__")) := type_tga
  refine cls_open X (looks_opaque X any_) (looks_typeIn X ht) hg (looks_hook X (r := none) (by rfl)) (by show subIn K _ _ = _; rfl) e ?_
  show wpAny _ _ (do ret (← holding [Value.builtin "type.__name__"] (call (.builtin "getset_descriptor.__get__") [.builtin "type.__name__", .ref C, .type "type"]))) _ _ _
  refine wpAny_bind (wpAny_holding (wpAny_call (name_get (s := { s with toks := s.toks + 1 }) X hC hsl ht ?_)))
  exact wpAny_pure (handed_on hnv h)
end
end PySem.W
namespace L2
open PySem PySem.Spec PyProof.Rows
/-- what the written part tells of a class whose name is asked -/
structure NmC (K : PySem.W.Frag) (C : Addr) (nm : Str) : Prop where
  at_ : ∃ cl dd cd sl tk, K.lookup C = some (⟨cl, dd, .cls cd, sl⟩ : Obj) ∧ sl[2]? = some (some (.str nm tk))
  ty : PySem.W.typeIn K (.ref C) = some (.type "type")
  any_ : PySem.W.nsIn K cStatics "thirdparty.any" = some none
  nm : PySem.W.findCls K (.ref C) (.type "type") "__name__" = some (.get (.builtin "getset_descriptor.__get__") (.builtin "type.__name__") (.ref C) (.type "type"))
  ic : PySem.W.isClsIn K C = true
  ha : PySem.W.findIn K (.ref C) "__class__" = some (some (.builtin "object.__class__"))
  hn : PySem.W.specialIn K (.builtin "object.__class__") "__get__" = some (some (.builtin "getset_descriptor.__get__"))
  htk : PySem.W.takesIn K (.builtin "object.__class__") = some true
  hm : PySem.W.mroIn K C (.type "object") = some true
/-- o.__class__.__name__ -/
def tNm (K : PySem.W.Frag) (te : TE) : TE := fun σ H Q => te σ H fun y H1 => ∃ (a C dx : Addr) (fs : List (Str × V)) (nm : Str), y = .ref a ∧ H1 a = some (.ins C dx fs) ∧ Cls K C ∧ NmC K C nm ∧ Q (.str nm) H1
theorem pe_nm {X : Cx} {o : Expr} {te : TE} {p1 p2 : Pos} (he : PE X o te) (hb : attributeBase o "__class__" X.env (eval o X.env) = eval o X.env := by rfl)
    (hb2 : attributeBase (.Attribute o "__class__" p1) "__name__" X.env (eval (.Attribute o "__class__" p1) X.env) = eval (.Attribute o "__class__" p1) X.env := by rfl) :
    PE X (.Attribute (.Attribute o "__class__" p1) "__name__" p2) (tNm X.K te) := by
  refine ⟨fun pins s σ H Q I h => ?_⟩
  refine attr_of hb2 (attr_of hb (thn (he.run pins s σ H _ I h) fun u s1 hh => ?_))
  obtain ⟨y, H1, I1, ry, a, C, dx, fs, nm, ey, ea, c, T, q⟩ := hh
  subst ey
  obtain rfl : u = Value.ref a := ry
  obtain ⟨mA, O, _, _, _, _⟩ := ins_get I1.hok ea
  obtain ⟨od, J, _⟩ := O.look
  obtain ⟨cl, dd, cd, sl, tk, hC, hsl⟩ := T.at_
  refine PySem.W.own_class I1.kIn J (PySem.W.plainGet_of (c.get "__class__")).1 (PySem.W.plainGet_of (c.get "__class__")).2 T.ic T.ha T.hn T.htk T.hm ?_
  have I2 : Inv X pins σ H1 { s1 with toks := s1.toks + 1 } := I1.tok _
  refine PySem.W.own_name I2.kIn hC hsl rfl T.ty T.any_ T.nm ?_
  exact ⟨.str nm, H1, I2.tok _, ⟨tk, rfl⟩, q⟩
end L2
end K00Nm_text
section K00Pe_text
set_option Elab.async false
set_option linter.all false
set_option maxRecDepth 100000
set_option maxHeartbeats 4000000
/-! k00: a paper's own == and bool. -/
namespace K00
open PySem PySem.Spec PyProof.Rows L2 StX

/-- a class of papers that is known by its name; CP is Paper -/
structure PapN (K : PySem.W.Frag) (CP C : Addr) (nm : Str) : Prop extends PapC K C where
  nc : NmC K C nm
  isP : PySem.W.kitOne K (.ref C) (.ref CP) = some true
/-- at a: a paper of the class C, its word and its parts' data -/
def PapAt (K : PySem.W.Frag) (H : Hp) (a C : Addr) (w : Str) (ds : List PyData) : Prop := ∃ (dx : Addr) (t : V) (more : List (Str × V)), H a = some (.ins C dx (pf (.str w) t ++ more)) ∧ Dp K H t (.tuple ds) ∧ Fine 50 90000 (.tuple ds) ∧ Fine 0 100 (.str w)
theorem PapAt.ext {K : PySem.W.Frag} {H H' : Hp} {a C : Addr} {w : Str} {ds : List PyData} (h : PapAt K H a C w ds) (e : Ext H H') : PapAt K H' a C w ds := by
  obtain ⟨dx, t, more, h1, h2, h3⟩ := h
  exact ⟨dx, t, more, e _ _ h1, dp_ext e h2, h3⟩
theorem look_word {w t : V} {more : List (Str × V)} : (pf w t ++ more).lookup ("word" : Str) = some w := by
  show (((("word" : Str), w)) :: _).lookup ("word" : Str) = some w
  simp [List.lookup]
theorem look_parts2 {w t : V} {more : List (Str × V)} : (pf w t ++ more).lookup ("parts" : Str) = some t := by
  show (((("word" : Str), w)) :: ((("parts" : Str), t)) :: more).lookup ("parts" : Str) = some t
  have e : (("parts" : Str) == ("word" : Str)) = false := by decide +kernel
  simp [List.lookup, e]
theorem pap_ty {K : PySem.W.Frag} {H : Hp} {a CP C : Addr} {nm w : Str} {ds : List PyData} (N : PapN K CP C nm) (h : PapAt K H a C w ds) : TyX K H (.ref a) (.ref C) := by
  obtain ⟨dx, t, more, h1, _⟩ := h
  exact .base (.ins h1 N.cl N.nc.ha N.nc.hn N.nc.htk N.nc.hm)

/-- what == of papers gives -/
def papEq (nm nm' w w' : Str) (ds ds' : List PyData) : Bool := decide (nm = nm') && like (.tuple [.str w, .tuple ds]) (.tuple [.str w', .tuple ds'])
def spEqP (K : PySem.W.Frag) (CP : Addr) : Sp := fun vs H Q _ => ∃ (a : Addr) (u : V), vs = [.ref a, u] ∧ ∃ (C : Addr) (nm w : Str) (ds : List PyData), PapN K CP C nm ∧ PapAt K H a C w ds ∧
  ((∃ e, Dp K H u e ∧ PySem.W.kitOne K (.type (tyD e)) (.ref CP) = some false ∧ Q (.bl false) H) ∨
    ∃ (b C' : Addr) (nm' w' : Str) (ds' : List PyData), u = .ref b ∧ PapN K CP C' nm' ∧ PapAt K H b C' w' ds' ∧ ∀ H', Ext H H' → Q (.bl (papEq nm nm' w w' ds ds')) H')

theorem fine_str {w : Str} (h1 : (PyData.str w).canLay0 = true) (h2 : (PyData.str w).showable = true) (h3 : (PyData.str w).leavesShort 40 = true) (h4 : (PyData.str w).weight ≤ 100) : Fine 0 100 (.str w) := ⟨h1, h2, h3, by simp [PyData.depth], h4⟩
theorem fine_pair {w : Str} {ds : List PyData} (hw : Fine 0 100 (.str w)) (h : Fine 50 90000 (.tuple ds)) : Fine 51 100000 (.tuple [.str w, .tuple ds]) := by
  obtain ⟨a1, b1, c1, d1, e1⟩ := hw
  obtain ⟨a2, b2, c2, d2, e2⟩ := h
  refine ⟨?_, ?_, ?_, ?_, ?_⟩
  · simp only [PyData.canLay0, PyData.canLayAll0] at a1 a2 ⊢
    simp [a1, a2]
  · simp only [PyData.showable, PyData.showableAll] at b1 b2 ⊢
    simp [b1, b2]
  · simp only [PyData.leavesShort, PyData.leavesShortAll] at c1 c2 ⊢
    simp [c1, c2]
  · simp only [PyData.depth, PyData.depthAll] at d1 d2 ⊢
    omega
  · simp only [PyData.weight, PyData.weightAll] at e1 e2 ⊢
    omega

section
variable {P : Program} {w : World} {K : PySem.W.Frag} {mg : Str → Option Value} {base : Heap}
theorem scEq : FnScope ["self", "other"] ["self", "other"] (defScope sPEq) := ⟨rfl, rfl, rfl, by decide +kernel, rfl, by decide +kernel, by decide +kernel⟩
theorem ok_eq {f fL CP : Addr} {fd fdL : FuncData} (F : Fun K "__eq__" "Paper.__eq__" sPEq f fd) (FL : Fun K "are_like" "are_like" sLike fL fdL) (bL : Binds K fdL ["one", "other"] []) (T : Free mg) (g : mg "are_like" = some (.ref fL)) (gP : mg "Paper" = some (.ref CP)) : FnOk P w K mg base CX0 53 f fd ["self", "other"] (spEqP K CP) := by
  have G := ok_like (P := P) (w := w) (base := base) FL bL T g 51 (by omega)
  refine F.ok scEq (fun vs H Q E h => ?_) (fun cdv A outer s H vs Q E hr h => ?_)
  · obtain ⟨a, u, rfl, _⟩ := h
    rfl
  · obtain ⟨a, u, rfl, C, nm, wd, ds, N, ha, h⟩ := h
    refine ⟨_, pss_cons (ps_if (PW.pt (pw_or (pt_not (pt_val (pe_callB call_isi (by rfl) T.isi (by decide +kernel) (pa_cons (pv 1) (pa_cons (pe_glob (v := .ref CP) rfl gP rfl) pa_nil))))) (pw_or1 (pt_cmpR op_ne (pe_nm (pv 0)) (pe_nm (pv 1)) (nomark _))))) (pss_one (ps_ret pe_bl)) pss_nil)
      (pss_one (ps_ret (pe_call G hr (by rfl) g FL.kp bL .nil pass0 (pa_cons (pe_tup (pa_cons (pe_fld (pv 0) rfl) (pa_cons (pe_fld (pv 0) rfl) pa_nil))) (pa_cons (pe_tup (pa_cons (pe_fld (pv 1) rfl) (pa_cons (pe_fld (pv 1) rfl) pa_nil))) pa_nil))))), ?_⟩
    rcases h with ⟨e, he, hk, k⟩ | ⟨b, C', nm', w', ds', rfl, N', hb, k⟩
    · refine ⟨_, rfl, u, .ref CP, _, _, false, rfl, .own CP, dp_ty he, hk, _, rfl, ?_⟩
      exact iteT k
    · refine ⟨_, rfl, .ref b, .ref CP, _, _, true, rfl, .own CP, pap_ty N' hb, N'.isP, _, rfl, ?_⟩
      refine iteF ?_
      obtain ⟨dx, t, more, h1, h2, h3, h4⟩ := id ha
      obtain ⟨dx', t', more', h1', h2', h3', h4'⟩ := id hb
      refine ⟨_, rfl, a, C, dx, _, nm, rfl, h1, N.cl, N.nc, _, rfl, b, C', dx', _, nm', rfl, h1', N'.cl, N'.nc, rfl, _, rfl, ?_⟩
      by_cases hnm : nm = nm'
      · refine iteNS (by rw [hnm]) ?_
        refine ⟨_, rfl, a, C, dx, _, .str wd, rfl, h1, N.cl, N.nW, look_word, _, rfl, a, C, dx, _, t, rfl, h1, N.cl, N.nP, look_parts2, (by show 2 ≤ sizeLine; rw [sizeLine_eq]; omega), fun p hp => ?_⟩
        have e1 : Ext H (upd H p (.tup [.str wd, t])) := Ext.upd hp
        refine ⟨_, rfl, b, C', dx', _, .str w', rfl, e1 _ _ h1', N'.cl, N'.nW, look_word, _, rfl, b, C', dx', _, t', rfl, e1 _ _ h1', N'.cl, N'.nP, look_parts2, (by show 2 ≤ sizeLine; rw [sizeLine_eq]; omega), fun q hq => ?_⟩
        have e2 : Ext H (upd (upd H p (.tup [.str wd, t])) q (.tup [.str w', t'])) := e1.upd' hq
        refine ⟨.ref p, .ref q, .tuple [.str wd, .tuple ds], .tuple [.str w', .tuple ds'], rfl, ?_, ?_, fine_pair h4 h3, fine_pair h4' h3', fun H' e3 => ?_⟩
        · exact .tup (.inl (.inl (by rw [upd_ne (ne_of_none upd_same hq), upd_same]))) (.cons (.str wd) (.cons (dp_ext e2 h2) .nil))
        · exact .tup (.inl (.inl upd_same)) (.cons (.str w') (.cons (dp_ext e2 h2') .nil))
        · have z := k H' (e2.trans e3)
          unfold papEq at z
          rw [decide_eq_true hnm, Bool.true_and] at z
          exact z
      · refine iteS (fun z => hnm (V.str.inj z)) ?_
        have z := k H Ext.rfl'
        unfold papEq at z
        rw [decide_eq_false hnm, Bool.false_and] at z
        exact z
end
end K00
end K00Pe_text
section K00Ops_text
set_option Elab.async false
set_option linter.all false
set_option maxRecDepth 100000
set_option maxHeartbeats 4000000
/-! k00: ==, != and bool() of papers as rules. -/
namespace K00
open PySem PySem.Spec PyProof.Rows L2 StX
open PySem.W (Looks)

structure EqOwn (K : PySem.W.Frag) (C f : Addr) : Prop where
  hs : PySem.W.findIn K (.ref C) "__eq__" = some (some (.ref f))
  hn : PySem.W.findIn K (.ref C) "__ne__" = some (some (.builtin "object.__ne__"))
def rEqP (K : PySem.W.Frag) (CP f : Addr) : R2 := fun x y H Q => ∃ (a C : Addr) (nm w : Str) (ds : List PyData), x = .ref a ∧ PapN K CP C nm ∧ PapAt K H a C w ds ∧ EqOwn K C f ∧
  ((∃ e, Dp K H y e ∧ PySem.W.kitOne K (.type (tyD e)) (.ref CP) = some false ∧ PySem.W.notFirst K C (.type (tyD e)) = true ∧ Q (.bl false) H) ∨
   (∃ (b : Addr) (w' : Str) (ds' : List PyData), y = .ref b ∧ PapAt K H b C w' ds' ∧ ∀ H', Ext H H' → Q (.bl (papEq nm nm w w' ds ds')) H') ∨
   (∃ (b D : Addr) (nm' w' : Str) (ds' : List PyData), y = .ref b ∧ PapN K CP D nm' ∧ PapAt K H b D w' ds' ∧ D ≠ C ∧ PySem.W.subIn K (.ref D) (.ref C) = some true ∧ EqOwn K D f ∧ nm ≠ nm' ∧ ∀ H', Ext H H' → Q (.bl false) H'))
def rNeP (K : PySem.W.Frag) (CP f : Addr) : R2 := fun x y H Q => ∃ (a C : Addr) (nm w : Str) (ds : List PyData), x = .ref a ∧ PapN K CP C nm ∧ PapAt K H a C w ds ∧ EqOwn K C f ∧
   ∃ (b : Addr) (w' : Str) (ds' : List PyData), y = .ref b ∧ PapAt K H b C w' ds' ∧ ∀ H', Ext H H' → Q (.bl (!papEq nm nm w w' ds ds')) H'
section
variable {X : Cx} {CP f : Addr} {fd : FuncData}
theorem pap_inst {pins : List (Addr × Obj)} {σ : L2.St} {H : Hp} {s : Shared} {a C : Addr} {w : Str} {ds : List PyData} (I : Inv X pins σ H s) (h : PapAt X.K H a C w ds) : ∃ ox od, PySem.W.InstAt s.heap a ox C (some od) := by
  obtain ⟨dx, t, more, h1, _⟩ := h
  obtain ⟨mA, O, _, _, _, _⟩ := ins_get I.hok h1
  obtain ⟨od, J, _⟩ := O.look
  exact ⟨_, od, J⟩
/-- the own == is called at A, X's stack about it -/
theorem run_eq {A : Around} {pins : List (Addr × Obj)} {σ : L2.St} {H : Hp} {s : Shared} {a : Addr} {y : V} {u : Value} {Q : VK} (G : FnOk X.prog X.w X.K X.mg X.base CX0 53 f fd ["self", "other"] (spEqP X.K CP)) (hb : Binds X.K fd ["self", "other"] [])
    (hr : Room 53 A) (hfr : A.frames = X.A.frames) (I : Inv X pins σ H s) (ry : RelV y u) (h : spEqP X.K CP [.ref a, y] H Q E0) :
    wpAny (model X.prog X.w) A (call (.ref f) [.ref a, u]) (EP X pins σ Q) X.xe s := by
  have e0 : Env0 X.prog X.w X.K X.mg X.base A X.stack s H := by
    have e := I.env0
    exact ⟨by rw [hfr]; exact e.frames, e.mod, e.bs, e.bsz, e.funs, e.frf, e.hok, e.bare⟩
  have r2 : Vals [V.ref a, y] [Value.ref a, u] := .cons rfl (.cons ry .nil)
  refine wpAny_call (codeAny_mono (G.run A X.stack s H ⟨[.ref a, u], []⟩ [.ref a, u] [.ref a, y] _ E0 hr e0 (by
    have := hb s [.ref a, u] I.kIn rfl
    simpa using this) r2 h) fun r s' hq => ?_)
  cases r with
  | error e => exact hq.elim
  | ok fl =>
    cases fl with
    | ret w =>
      obtain ⟨z, H', I', rz, q⟩ := I.after hq
      exact ⟨z, H', I', rz, q⟩
    | next => exact False.elim hq
    | brk => exact False.elim hq
    | cont => exact False.elim hq
theorem isfn_of {K : PySem.W.Frag} {oc : Value} {od : Option Addr} {osl : Array (Option Value)} {fd : FuncData} (h : K.lookup f = some (⟨oc, od, .func fd, osl⟩ : Obj)) (e : oc = .type "function") : PySem.W.isFn K (.ref f) = true := by
  unfold PySem.W.isFn PySem.W.typeIn
  simp [h, e]
theorem op_eqP (G : FnOk X.prog X.w X.K X.mg X.base CX0 53 f fd ["self", "other"] (spEqP X.K CP)) (hb : Binds X.K fd ["self", "other"] []) (hf : PySem.W.isFn X.K (.ref f) = true) (hr : Room 53 X.A) : OpR X (compareOp .Eq) (rEqP X.K CP f) := by
  intro pins s σ H x y v u Q I rx ry hq
  obtain ⟨a, C, nm, w, ds, rfl, N, ha, E, hq⟩ := hq
  obtain rfl : v = Value.ref a := rx
  show wpAny (model X.prog X.w) X.A (richCompare .Eq (.ref a) u) (EP X pins σ Q) X.xe s
  obtain ⟨ox, od, J⟩ := pap_inst I ha
  rcases hq with ⟨e, he, hk, hn, q⟩ | ⟨b, w', ds', rfl, hb', q⟩ | ⟨b, D, nm', w', ds', rfl, N', hb', hne, hsub, E', hnm, q⟩
  · obtain ⟨Pp, Z, p, hx⟩ := kit_of I ry (dp_ty he)
    refine PySem.W.eq_left hr.units0 I.kIn J (Z.ty _ _ I.kIn p) hn E.hs hf ?_
    refine wpAny_mono (run_eq (Q := fun z H' => z = .bl false ∧ Q (.bl false) H') G hb hr rfl I ry ⟨a, y, rfl, C, nm, w, ds, N, ha, .inl ⟨e, he, hk, rfl, q⟩⟩) (fun r s' hq => ?_) fun _ _ z => z
    obtain ⟨z, H', I', rz, rfl, q⟩ := hq
    cases rz
    exact ⟨.bl false, H', I', rfl, q⟩
  · obtain rfl : u = Value.ref b := ry
    obtain ⟨oy, od2, J2⟩ := pap_inst I hb'
    refine PySem.W.eq_left (tb := .ref C) hr.units0 I.kIn J J2.type (by simp [PySem.W.notFirst]) E.hs hf ?_
    refine wpAny_mono (run_eq (Q := fun z H' => ∃ k, z = .bl k ∧ Q (.bl k) H') G hb hr rfl I (show L2.RelV (.ref b) (.ref b) from rfl) ⟨a, .ref b, rfl, C, nm, w, ds, N, ha, .inr ⟨b, C, nm, w', ds', rfl, N, hb', fun H' e => ⟨_, rfl, q H' e⟩⟩⟩) (fun r s' hq => ?_) fun _ _ z => z
    obtain ⟨z, H', I', rz, k, rfl, q⟩ := hq
    cases rz
    exact ⟨.bl k, H', I', rfl, q⟩
  · obtain rfl : u = Value.ref b := ry
    obtain ⟨oy, od2, J2⟩ := pap_inst I hb'
    refine PySem.W.eq_right hr.units0 I.kIn J J2 hne hsub E'.hs hf ?_
    refine wpAny_mono (run_eq (Q := fun z H' => z = .bl false ∧ Q (.bl false) H') G hb hr rfl I (show L2.RelV (.ref a) (.ref a) from rfl) ⟨b, .ref a, rfl, D, nm', w', ds', N', hb', .inr ⟨a, C, nm, w, ds, rfl, N, ha, fun H' e => ?_⟩⟩) (fun r s' hq => ?_) fun _ _ z => z
    · refine ⟨?_, q H' e⟩
      unfold papEq
      rw [decide_eq_false (fun z => hnm z.symm), Bool.false_and]
    · obtain ⟨z, H', I', rz, rfl, q⟩ := hq
      cases rz
      exact ⟨.bl false, H', I', rfl, q⟩
theorem op_neP (G : FnOk X.prog X.w X.K X.mg X.base CX0 53 f fd ["self", "other"] (spEqP X.K CP)) (hb : Binds X.K fd ["self", "other"] []) (hf : PySem.W.isFn X.K (.ref f) = true) (hr : Room 54 X.A) : OpR X (compareOp .NotEq) (rNeP X.K CP f) := by
  intro pins s σ H x y v u Q I rx ry hq
  obtain ⟨a, C, nm, w, ds, rfl, N, ha, E, b, w', ds', rfl, hb', q⟩ := hq
  obtain rfl : v = Value.ref a := rx
  obtain rfl : u = Value.ref b := ry
  show wpAny (model X.prog X.w) X.A (richCompare .NotEq (.ref a) (.ref b)) (EP X pins σ Q) X.xe s
  obtain ⟨ox, od, J⟩ := pap_inst I ha
  obtain ⟨oy, od2, J2⟩ := pap_inst I hb'
  have hr1 : Room 53 X.A.in1 := hr.in1
  refine PySem.W.ne_own hr.units0 hr1.units0 I.kIn J J2.type N.nc.hm E.hn E.hs hf ?_
  refine wpAny_mono (run_eq (Q := fun z H' => ∃ k, z = .bl k ∧ Q (.bl (!k)) H') G hb hr1 rfl I (show L2.RelV (.ref b) (.ref b) from rfl) ⟨a, .ref b, rfl, C, nm, w, ds, N, ha, .inr ⟨b, C, nm, w', ds', rfl, N, hb', fun H' e => ⟨_, rfl, q H' e⟩⟩⟩) (fun r s' hq => ?_) fun _ _ z => z
  obtain ⟨z, H', I', rz, k, rfl, q⟩ := hq
  cases rz
  exact ⟨k, rfl, .bl (!k), H', I', rfl, q⟩
end

/-! ### bool(paper) -/
def spBoolP (k : Bool) : Sp := fun vs H Q _ => ∃ a : Addr, vs = [.ref a] ∧ Q (.bl k) H
structure BoolOwn (P : Program) (w : World) (K : PySem.W.Frag) (mg : Str → Option Value) (base : Heap) (C f : Addr) (k : Bool) : Prop where
  hs : PySem.W.findIn K (.ref C) "__bool__" = some (some (.ref f))
  hf : PySem.W.isFn K (.ref f) = true
  g : ∃ fd, FnOk P w K mg base CX0 1 f fd ["self"] (spBoolP k) ∧ Binds K fd ["self"] []
def rBoolP (P : Program) (w : World) (K : PySem.W.Frag) (mg : Str → Option Value) (base : Heap) : List V → Hp → VK → Prop := fun xs H Q => ∃ (a C dx f : Addr) (fs : List (Str × V)) (k : Bool), xs = [.ref a] ∧ H a = some (.ins C dx fs) ∧ BoolOwn P w K mg base C f k ∧ Q (.bl k) H
theorem call_boolP {X : Cx} (hr : Room 3 X.A) : CallR X (.type "bool") (rBoolP X.prog X.w X.K X.mg X.base) := by
  intro pins s σ H xs us Q I r h
  obtain ⟨a, C, dx, f, fs, k, rfl, ea, B, q⟩ := h
  obtain ⟨u, rfl, rx⟩ := vals1 r
  obtain rfl : u = Value.ref a := rx
  obtain ⟨fd, G, hb⟩ := B.g
  obtain ⟨mA, O, _, _, _, _⟩ := ins_get I.hok ea
  obtain ⟨od, J, _⟩ := O.look
  have hr1 : Room 1 X.A.in1.in1 := hr.in1.in1
  refine PySem.W.bool_own I.kIn J B.hs B.hf ?_
  have e0 : Env0 X.prog X.w X.K X.mg X.base X.A.in1.in1 X.stack s H := by
    have e := I.env0
    exact ⟨e.frames, e.mod, e.bs, e.bsz, e.funs, e.frf, e.hok, e.bare⟩
  refine wpAny_call (codeAny_mono (G.run X.A.in1.in1 X.stack s H ⟨[.ref a], []⟩ [.ref a] [.ref a] (fun z H' => z = .bl k ∧ Q (.bl k) H') E0 hr1 e0 (by
    have := hb s [.ref a] I.kIn rfl
    simpa using this) (.cons rfl .nil) ⟨a, rfl, rfl, q⟩) fun rr s' hq => ?_)
  cases rr with
  | error e => exact hq.elim
  | ok fl =>
    cases fl with
    | ret w =>
      obtain ⟨z, H', I', rz, rfl, q⟩ := I.after hq
      cases rz
      exact ⟨.bl k, H', I', rfl, q⟩
    | next => exact False.elim hq
    | brk => exact False.elim hq
    | cont => exact False.elim hq
end K00
end K00Ops_text
section K00Rp_text
set_option Elab.async false
set_option linter.all false
set_option maxRecDepth 100000
set_option maxHeartbeats 4000000
/-! k00: repr of data; a def that is walked about one place of the stack alone. -/
namespace K00
open PySem PySem.Spec PyProof.Rows L2

theorem dp_hasDict {K : PySem.W.Frag} {H : Hp} : ∀ {d : PyData} {v : V}, Dp K H v d → d.hasDict = false
  | .none, _, _ => by simp [PyData.hasDict]
  | .bool _, _, _ => by simp [PyData.hasDict]
  | .int _, _, _ => by simp [PyData.hasDict]
  | .str _, _, _ => by simp [PyData.hasDict]
  | .list ds, _, h => by
    cases h with
    | lst _ ha =>
      simp only [PyData.hasDict]
      exact dpAll_hasDict ha
  | .tuple ds, _, h => by
    cases h with
    | tup _ ha =>
      simp only [PyData.hasDict]
      exact dpAll_hasDict ha
  | .dict _, _, h => by cases h
where
  dpAll_hasDict {K : PySem.W.Frag} {H : Hp} : ∀ {ds : List PyData} {vs : List V}, DpAll K H vs ds → PyData.hasDictAll ds = false
  | [], _, _ => by simp [PyData.hasDictAll]
  | d :: ds, _, h => by
    cases h with
    | cons a b => simp [PyData.hasDictAll, dp_hasDict a, dpAll_hasDict b]
def rRepr (K : PySem.W.Frag) : List V → Hp → VK → Prop := fun xs H Q => ∃ (x : V) (d : PyData), xs = [x] ∧ Dp K H x d ∧ Fine 60 100000 d ∧ Q (.str d.shown) H
theorem call_repr {X : Cx} (hg : X.A.guards = some []) (hu : X.A.units + 64 < cLine) : CallR X (.builtin "repr") (rRepr X.K) := by
  intro pins s σ H xs us Q I r h
  obtain ⟨x, d, rfl, hd, hf, q⟩ := h
  obtain ⟨u, rfl, rx⟩ := vals1 r
  have hsz : d.shown.length ≤ sizeLine := hf.fits (Nat.le_refl _)
  have hdep := hf.dep
  have ref_case : ∀ a : Addr, u = .ref a → wpAny (model X.prog X.w) X.A (call (.builtin "repr") [u]) (EP X pins σ Q) X.xe s := by
    intro a eu
    subst eu
    obtain ⟨as, rd⟩ := Dp.reads I d x (.ref a) hd rx
    refine repr_of_reads' rd hf.show_ (fun z => ?_) hg (by omega) (fun _ _ e => e) (fun h' u tk k => ⟨.str d.shown, H, I.kept (t' := tk) k, ⟨u, rfl⟩, q⟩) hsz
    rw [dp_hasDict hd] at z
    cases z
  cases hd with
  | non =>
    obtain rfl : u = Value.none := rx
    exact PySem.P.repr_of_none ⟨.str (PyData.none).shown, H, I.tok _, ⟨_, rfl⟩, q⟩
  | bl b =>
    obtain rfl : u = Value.bool b := rx
    exact PySem.P.repr_of_bool ⟨.str (PyData.bool b).shown, H, I.tok _, ⟨s.toks, by simp [PyData.shown]⟩, q⟩
  | int i =>
    obtain ⟨t, rfl⟩ := rx
    have hs := hf.show_
    simp only [PyData.showable, decide_eq_true_eq] at hs
    exact PySem.P.repr_of_int hs ⟨.str (PyData.int i).shown, H, I.tok _, ⟨s.toks, by simp [PyData.shown]⟩, q⟩
  | str z =>
    obtain ⟨t, rfl⟩ := rx
    simp only [PyData.shown] at hsz
    exact PySem.P.repr_of_str ⟨.str (PyData.str z).shown, H, I.tok _, ⟨s.toks, by simp [PyData.shown]⟩, q⟩ hsz
  | lst _ _ => exact ref_case _ rx
  | tup _ _ => exact ref_case _ rx
/-! ### a def that runs about one known place -/
section
variable {CX : CXT} {P : Program} {w : World} {K : PySem.W.Frag} {mg : Str → Option Value} {base : Heap} {k : Nat} {f : Addr} {nm qual : Str} {params : Arguments} {body : List Stmt} {scope : Scope} {dV kV doc pm cdv ct oc : Value} {an od : Option Addr} {osl : Array (Option Value)} {N ps : List Str}
theorem run_here {A : Around} {outer : List Env} {s : Shared} {H : Hp} {args : Args} {us : List Value} {vs : List V} {Q : VK} {E : XK} (lk : K.lookup f = some ⟨oc, od, .func (PySem.W.fnOf nm qual params body scope dV kV doc pm an cdv ct), osl⟩) (hcd : PySem.W.codeIn K cdv qual = true) (S : FnScope N ps scope)
    (hl : vs.length = ps.length) (hr : Room (k + 1) A) (e0 : Env0 P w K mg base A outer s H) (hb : BindsTo s (PySem.W.fnOf nm qual params body scope dV kV doc pm an cdv ct) args (ps.zip us)) (r : Vals vs us)
    (hbody : Room k (A.deeper (envOfC qual scope s.heap.objs.size f cdv)) → ∃ t, PSs (cxOf CX P w K mg base N qual scope f cdv A outer s H E) body t ∧ t { nx := fun _ H' => Q .non H', rt := Q } (start N vs) H) :
    codeAny (model P w) A (.call (.ref f) args) (CR CX outer P w H s Q E) s := by
  have stay : ∀ {h : Heap}, (∀ b o, base.get? b = some o → s.heap.get? b = some o) := fun b o e => (e0.bs b o e).1
  have KX : K.In s.heap := e0.mod.kin.keeps (stay (h := base))
  have kinds : ∀ y ∈ ps.zip us, scope.names.lookup y.1 = some .local ∨ (scope.names.lookup y.1 = some .cell ∧ ((cellsFrom (s.heap.objs.size + 1) scope.names []).lookup y.1).isSome = true) := by
    rintro ⟨n, v⟩ hy
    exact (S.par n (List.of_mem_zip hy).1).imp id fun q => ⟨q, PySem.W.cellsFrom_some _ _ _ (.inl q)⟩
  refine codeAny_call_function hr.depth (KX _ _ lk) rfl S.co S.gen rfl (PySem.W.codeRec_of KX hcd) (hb _ _ _ _ (wpAny_newFunctionEnv_cells S.kind kinds fun env he s1 x => ?_))
  subst he
  obtain ⟨t, ht, hq⟩ := hbody (hr.deeper _)
  refine ⟨(e0.mod.nolimit.keeps (stay (h := base))).keeps x.toInCall.keep, codeAny_func (wpAny_mono (ht.run [] s1 (start N vs) H _ (inv_start S hr.hd e0 hl r x) hq) (fun fl s' hs => ?_) fun e s' hs => hs)⟩
  match fl, hs with
  | .ret u, ⟨v, σ', H', J, rv, q⟩ => exact ⟨v, H', J.os, J.bare, J.base, J.hok, rv, q⟩
  | .next, ⟨σ', H', J, q⟩ => exact ⟨.non, H', J.os, J.bare, J.base, J.hok, rfl, q⟩
  | .brk, ⟨_, _, _, q⟩ => exact q.elim
  | .cont, ⟨_, _, _, q⟩ => exact q.elim
end
end K00
end K00Rp_text
section K00Draw_text
set_option Elab.async false
set_option linter.all false
set_option maxRecDepth 100000
set_option maxHeartbeats 4000000
/-! k00: the law's draws. -/
namespace K00
open PySem PySem.Spec PyProof.Rows L2

abbrev sPen : Stmt := top 27
abbrev sDraw : Stmt := top 28
abbrev sPick : Stmt := top 29
abbrev sAny : Stmt := top 30
abbrev sLaw : Stmt := top 32

/-- the pen at p: the cells' list at c, how many were begun, what is left of a great one -/
def PenAt (H : Hp) (p c : Addr) (ns : List Int) (turn : Nat) (left : Int) : Prop := H p = some (.lst [.ref c, .int turn, .int left]) ∧ H c = some (.lst (ns.map V.int)) ∧ ns.length ≤ 63 ∧ 0 ≤ left
/-- a draw: one more cell begun at most -/
def spDraw (K : PySem.W.Frag) : Sp := fun vs H Q _ => ∃ (p c : Addr) (ns : List Int) (turn : Nat) (left m : Int), vs = [.ref p, .int m] ∧ PenAt H p c ns turn left ∧ turn ≤ 100000 ∧ 1 ≤ m ∧ m ≤ 1000 ∧
  ∀ (r : Int) (turn' : Nat) (left' : Int) (H' : Hp), 0 ≤ r → r < m → turn' ≤ turn + 1 → ExtB p H H' → PenAt H' p c ns turn' left' → Q (.int r) H'
section
variable {P : Program} {w : World} {K : PySem.W.Frag} {mg : Str → Option Value} {base : Heap}
theorem ix0 {σ : L2.St} {H : Hp} {Q : VK} {i p : Nat} {xs : List V} {v : V} (j : Nat) (h0 : σ[i]? = some (some (.ref p))) (hp : H p = some (.lst xs)) (hv : xs[j]? = some v) (q : Q v H) : tOp (rIxL K) (tVar i) (tC (.int (j : Nat))) σ H Q :=
  ⟨_, h0, p, xs, _, v, rfl, rfl, .inl (.inl hp), atI_nat hv, q⟩
theorem setI {v : V} (j : Nat) {n : Nat} (h : j < n) : ixN n (j : Int) = some j := by
  unfold ixN
  rw [if_pos (Int.natCast_nonneg j), if_pos (by omega)]
  rfl
theorem dp_ints {K : PySem.W.Frag} {H : Hp} : ∀ ns : List Int, DpAll K H (ns.map V.int) (ns.map PyData.int)
  | [] => .nil
  | n :: ns => .cons (.int n) (dp_ints ns)
theorem ints_depth : ∀ ns : List Int, PyData.canLayAll0 (ns.map PyData.int) = true ∧ PyData.depthAll (ns.map PyData.int) ≤ 0
  | [] => ⟨by simp [PyData.canLayAll0], by simp [PyData.depthAll]⟩
  | n :: ns => by
    obtain ⟨a, b⟩ := ints_depth ns
    exact ⟨by simp [PyData.canLayAll0, PyData.canLay0, a], by simp only [List.map_cons, PyData.depthAll, PyData.depth]; omega⟩
theorem ints_shaped (ns : List Int) : SeqAt.shaped (.list (ns.map PyData.int)) = true := by
  obtain ⟨a, b⟩ := ints_depth ns
  show (PyData.canLay0 _ && decide (PyData.depth _ ≤ 64)) = true
  rw [Bool.and_eq_true]
  exact ⟨by simp only [PyData.canLay0]; exact a, decide_eq_true (by simp only [PyData.depth]; omega)⟩
theorem ints_eqv (ns : List Int) : PyData.eqv (.list (ns.map PyData.int)) (.list []) = ns.isEmpty := by
  cases ns <;> simp [PyData.eqv, PyData.eqvAll]
theorem mix_bound {M t : Int} (h0 : 0 ≤ M) (h1 : M < 2147483629) (t0 : 0 ≤ t) (t1 : t ≤ 100000) : (M * (2 * t + 5113) + 40927 * t * t + 21542).natAbs < 2 ^ 64 := by
  have a1 : M * (2 * t + 5113) ≤ 2147483629 * 205113 := Int.mul_le_mul (by omega) (by omega) (by omega) (by omega)
  have a0 : 0 ≤ M * (2 * t + 5113) := Int.mul_nonneg h0 (by omega)
  have b1 : 40927 * t * t ≤ 4092700000 * 100000 := Int.mul_le_mul (by omega) t1 t0 (by omega)
  have b0 : 0 ≤ 40927 * t * t := Int.mul_nonneg (by omega) t0
  have e : ((2 : Nat) ^ 64) = 18446744073709551616 := by decide
  rw [e]
  omega
theorem scD : FnScope ["pen", "many", "left", "turn", "cell", "mixed"] ["pen", "many"] (defScope sDraw) := ⟨rfl, rfl, rfl, by decide +kernel, rfl, by decide +kernel, by decide +kernel⟩
theorem ok_draw {f : Addr} {fd : FuncData} (F : Fun K "_law_draw" "_law_draw" sDraw f fd) (T : Free mg) : FnOk P w K mg base CX0 1 f fd ["pen", "many"] (spDraw K) := by
  refine F.ok scD (fun vs H Q E h => ?_) (fun cdv A outer s H vs Q E hr h => ?_)
  · obtain ⟨p, c, ns, turn, left, m, rfl, _⟩ := h
    rfl
  · obtain ⟨p, c, ns, turn, left, m, rfl, hp, ht, hm1, hm2, k⟩ := h
    refine ⟨_, (pss_cons (ps_if (pt_cmpR op_gt (pe_ix ix_list (pv 0) pe_int (fun _ _ => rfl)) pe_int (nomark _)) (pss_cons (ps_set (i := 2) scD.nd rfl (Or.inl rfl) (pe_callTy call_int1 (by rfl) T.int (by decide +kernel) (pa_cons (pe_ix ix_list (pv 0) pe_int (fun _ _ => rfl)) pa_nil)))
      (pss_cons (ps_asg (pe_op op_fdiv (pv 2) (pv 1)) (pg_sub (pv 0) pe_int set_list))
      (pss_one (ps_ret (pe_op op_mod (pe_callTy call_int1 (by rfl) T.int (by decide +kernel) (pa_cons (pv 2) pa_nil)) (pv 1)))))) pss_nil)
      (pss_cons (ps_set (i := 3) scD.nd rfl (Or.inl rfl) (pe_ix ix_list (pv 0) pe_int (fun _ _ => rfl)))
      (pss_cons (ps_asg (pe_op op_add (pv 3) pe_int) (pg_sub (pv 0) pe_int set_list))
      (pss_cons (ps_set (i := 4) scD.nd rfl (Or.inl rfl) (pe_op op_add (pe_op op_mul pe_int (pv 3)) pe_int))
      (pss_cons (ps_if (pt_cmpR (op_neD hr.units) (pe_ix ix_list (pv 0) pe_int (fun _ _ => rfl)) (pe_lst pa_nil) (nomark _)) (pss_one (ps_set (i := 4) scD.nd rfl (Or.inl rfl) (pe_ix ix_list (pe_ix ix_list (pv 0) pe_int (fun _ _ => rfl)) (pe_op op_mod (pe_callTy call_int1 (by rfl) T.int (by decide +kernel) (pa_cons (pv 3) pa_nil)) (pe_callB call_len_seq (by rfl) T.len (by decide +kernel) (pa_cons (pe_ix ix_list (pv 0) pe_int (fun _ _ => rfl)) pa_nil))) (fun _ _ => rfl)))) pss_nil)
      (pss_cons (ps_if (PW.pt (pw_and (pt_cmpR op_lt (pv 3) (pe_callB call_len_seq (by rfl) T.len (by decide +kernel) (pa_cons (pe_ix ix_list (pv 0) pe_int (fun _ _ => rfl)) pa_nil)) (nomark _)) (pw_and1 (pt_cmpR op_ge (pe_callB call_abs (by rfl) T.abs (by decide +kernel) (pa_cons (pv 4) pa_nil)) (pe_op op_pow pe_int pe_int) (nomark _))))) (pss_cons (ps_set (i := 2) scD.nd rfl (Or.inl rfl) (pe_op op_add (pe_op op_mul pe_int (pe_op op_sub (pe_callB call_abs (by rfl) T.abs (by decide +kernel) (pa_cons (pv 4) pa_nil)) (pe_op op_pow pe_int pe_int))) (pe_callTy call_int1 (by rfl) T.int (by decide +kernel) (pa_cons (pe_cmpR op_lt (pv 4) pe_int (nomark _)) pa_nil))))
      (pss_cons (ps_asg (pe_op op_fdiv (pe_callTy call_int1 (by rfl) T.int (by decide +kernel) (pa_cons (pv 2) pa_nil)) (pv 1)) (pg_sub (pv 0) pe_int set_list))
      (pss_one (ps_ret (pe_op op_mod (pe_callTy call_int1 (by rfl) T.int (by decide +kernel) (pa_cons (pv 2) pa_nil)) (pv 1)))))) pss_nil)
      (pss_cons (ps_set (i := 5) scD.nd rfl (Or.inl rfl) (pe_op op_mod (pe_callTy call_int1 (by rfl) T.int (by decide +kernel) (pa_cons (pe_op op_pow (pe_op op_add (pe_op op_add (pe_op op_mod (pe_callTy call_int1 (by rfl) T.int (by decide +kernel) (pa_cons (pv 4) pa_nil)) pe_int) (pe_op op_mul pe_int (pv 3))) pe_int) pe_int) pa_nil)) pe_int))
      (pss_cons (ps_set (i := 5) scD.nd rfl (Or.inl rfl) (pe_op op_mod (pe_callTy call_int1 (by rfl) T.int (by decide +kernel) (pa_cons (pe_op op_pow (pe_op op_add (pe_op op_add (pe_op op_mul (pv 5) (pe_op op_add (pe_op op_mul pe_int (pv 3)) pe_int)) (pe_op op_mul (pe_op op_mul pe_int (pv 3)) (pv 3))) pe_int) pe_int) pa_nil)) pe_int))
      (pss_one (ps_ret (pe_op op_mod (pe_callTy call_int1 (by rfl) T.int (by decide +kernel) (pa_cons (pe_op op_fdiv (pv 5) pe_int) pa_nil)) (pv 1)))))))))))), ?_⟩
    obtain ⟨hp0, hc0, hl, hleft⟩ := id hp
    have hcp : c ≠ p := fun z => by
      rw [z, hp0] at hc0
      cases ns with
      | nil => cases hc0
      | cons a b => cases hc0
    refine ix0 2 rfl hp0 rfl ?_
    refine ⟨left, 0, rfl, rfl, _, rfl, ?_⟩
    refine ite2 (fun hgt => ?_) (fun hgt => ?_)
    · -- a digit of a great cell
      refine ix0 2 rfl hp0 rfl (.inl ⟨left, rfl, ?_⟩)
      refine ⟨_, rfl, _, rfl, left, m, rfl, rfl, ⟨by omega, by omega⟩, ?_⟩
      refine ⟨_, rfl, p, _, 2, 2, rfl, rfl, hp0, rfl, ?_⟩
      refine ⟨_, rfl, .inl ⟨left, rfl, _, rfl, left, m, rfl, rfl, (by show (0 : Int) < m; omega), ?_⟩⟩
      refine k (left % m) turn (left / m) _ (Int.emod_nonneg _ (by omega)) (Int.emod_lt_of_pos _ (by omega)) (Nat.le_succ _) ExtB.upd ⟨upd_same, by rw [upd_ne hcp]; exact hc0, hl, Int.ediv_nonneg hleft (by omega)⟩
    · -- a cell more
      have ht0 : (0 : Int) ≤ (turn : Int) := Int.natCast_nonneg _
      have ht1 : (turn : Int) ≤ 100000 := by omega
      refine ix0 1 rfl hp0 rfl ?_
      refine ⟨_, rfl, _, _, rfl, rfl, ?_⟩
      refine ⟨_, rfl, p, _, 1, 1, rfl, rfl, hp0, rfl, ?_⟩
      generalize eH1 : upd H p (.lst ([V.ref c, V.int (turn : Int), V.int left].set 1 (V.int ((turn : Int) + 1)))) = H1
      have hp1 : H1 p = some (.lst [.ref c, .int ((turn + 1 : Nat) : Int), .int left]) := by
        rw [← eH1, upd_same]
        rfl
      have hc1 : H1 c = some (.lst (ns.map V.int)) := by
        rw [← eH1, upd_ne hcp]
        exact hc0
      have x1 : ExtB p H H1 := by
        rw [← eH1]
        exact ExtB.upd
      refine ⟨_, rfl, _, _, rfl, rfl, .inl ⟨by decide, by decide⟩, _, _, rfl, rfl, ?_⟩
      refine ix0 0 rfl hp1 rfl ?_
      refine ⟨Nat.zero_le _, fun e he => ?_⟩
      have hce : c ≠ e := ne_of_none hc1 he
      have hpe : p ≠ e := ne_of_none hp1 he
      generalize eH2 : upd H1 e (.lst []) = H2
      have hp2 : H2 p = some (.lst [.ref c, .int ((turn + 1 : Nat) : Int), .int left]) := by
        rw [← eH2, upd_ne hpe]
        exact hp1
      have hc2 : H2 c = some (.lst (ns.map V.int)) := by
        rw [← eH2, upd_ne hce]
        exact hc1
      have he2 : H2 e = some (.lst []) := by
        rw [← eH2]
        exact upd_same
      have x2 : ExtB p H H2 := by
        rw [← eH2]
        exact x1.trans (Ext.b (Ext.upd he))
      refine ⟨.list (ns.map PyData.int), .list [], .lst (.inl (.inl hc2)) (dp_ints ns), .lst (.inl (.inl he2)) .nil, ints_shaped ns, by decide +kernel, _, rfl, ?_⟩
      rw [ints_eqv]
      refine ite2 ?c1 ?c2
      case' c1 =>
        intro hne
        have hpos : 0 < ns.length := by
          cases ns with
          | nil => cases hne
          | cons a b => simp
        have hlt : turn % ns.length < ns.length := Nat.mod_lt _ hpos
        refine ix0 0 rfl hp2 rfl ?_
        refine ⟨_, rfl, .inl ⟨_, rfl, ?_⟩⟩
        refine ix0 0 rfl hp2 rfl ⟨c, _, rfl, .inl (.inl (.inl hc2)), ?_⟩
        refine ⟨_, _, rfl, rfl, (by rw [List.length_map]; show (0 : Int) < (ns.length : Int); omega), ?_⟩
        refine ⟨c, _, _, .int ns[turn % ns.length], rfl, rfl, .inl (.inl hc2), ?_, ?_⟩
        · rw [List.length_map, ← Int.natCast_emod]
          exact atI_nat (by simp [hlt])
        generalize ns[turn % ns.length] = z
      case' c2 =>
        intro hne
        dsimp only
        generalize (21542 * (turn : Int) + 60413) = z
      all_goals
        refine ⟨_, rfl, ?_⟩
        refine ix0 0 rfl hp2 rfl ⟨c, _, rfl, .inl (.inl (.inl hc2)), ?_⟩
        refine ⟨_, _, rfl, rfl, _, rfl, ?_⟩
        refine ite2 (fun h1 => ?_) (fun h1 => ?_)
        · refine ⟨_, rfl, z, rfl, ?_⟩
          refine ⟨_, _, rfl, rfl, ⟨by decide, by decide, by decide⟩, ?_⟩
          refine ⟨_, _, rfl, rfl, _, rfl, ?_⟩
          refine ite2 (fun h2 => ?_) (fun h2 => ?_)
          · refine ⟨_, rfl, z, rfl, ?_⟩
            refine ⟨_, _, rfl, rfl, ⟨by decide, by decide, by decide⟩, ?_⟩
            refine ⟨_, _, rfl, rfl, _, _, rfl, rfl, .inl ⟨by decide, by decide⟩, ?_⟩
            refine ⟨_, rfl, _, _, rfl, rfl, .inr ⟨_, rfl, ?_⟩⟩
            refine ⟨_, _, rfl, rfl, ?_⟩
            have hL : 0 ≤ 2 * ((if z < 0 then -z else z) - 10 ^ (18 : Int).toNat) + (if decide (z < 0) = true then (1 : Int) else 0) := by
              have h3 := of_decide_eq_true h2
              have h4 : (0 : Int) ≤ if decide (z < 0) = true then (1 : Int) else 0 := by split <;> omega
              omega
            dsimp only
            generalize 2 * ((if z < 0 then -z else z) - 10 ^ (18 : Int).toNat) + (if decide (z < 0) = true then (1 : Int) else 0) = L at hL ⊢
            refine ⟨_, rfl, .inl ⟨L, rfl, _, rfl, _, _, rfl, rfl, ⟨by omega, by omega⟩, ?_⟩⟩
            refine ⟨_, rfl, p, _, 2, 2, rfl, rfl, hp2, rfl, ?_⟩
            refine ⟨_, rfl, .inl ⟨L, rfl, _, rfl, _, _, rfl, rfl, (by show (0 : Int) < m; omega), ?_⟩⟩
            exact k _ (turn + 1) (L / m) _ (Int.emod_nonneg _ (by omega)) (Int.emod_lt_of_pos _ (by omega)) (Nat.le_refl _) (x2.trans ExtB.upd) ⟨upd_same, by rw [upd_ne hcp]; exact hc2, hl, Int.ediv_nonneg hL (by omega)⟩
          ·
            have hz1 : 0 ≤ z % 2147483549 := Int.emod_nonneg z (by decide)
            have hz2 : z % 2147483549 < 2147483549 := Int.emod_lt_of_pos z (by decide)
            refine ⟨_, rfl, .inl ⟨z, rfl, ?_⟩⟩
            refine ⟨_, _, rfl, rfl, (by show (0 : Int) < 2147483549; decide), ?_⟩
            refine ⟨_, rfl, _, _, rfl, rfl, .inl ⟨by decide, by decide⟩, _, _, rfl, rfl, _, _, rfl, rfl, ?_⟩
            refine ⟨_, _, rfl, rfl, ⟨by decide, by decide, ?_⟩, .inl ⟨_, rfl, ?_⟩⟩
            · try dsimp only
              have e : ((2 : Nat) ^ 64) = 18446744073709551616 := by decide
              rw [e]
              omega
            refine ⟨_, _, rfl, rfl, (by show (0 : Int) < 2147483629; decide), ?_⟩
            dsimp only
            generalize hM : ((z % 2147483549 + 21542 * (turn : Int) + 60413) ^ (5 : Int).toNat) % 2147483629 = M
            have hM0 : 0 ≤ M := by rw [← hM]; exact Int.emod_nonneg _ (by decide)
            have hM1 : M < 2147483629 := by rw [← hM]; exact Int.emod_lt_of_pos _ (by decide)
            refine ⟨_, rfl, _, rfl, _, _, rfl, rfl, .inl ⟨by decide, by decide⟩, _, _, rfl, rfl, _, _, rfl, rfl, .inl ⟨by omega, by omega⟩, ?_⟩
            refine ⟨_, rfl, _, _, rfl, rfl, .inl ⟨by decide, by decide⟩, _, rfl, _, _, rfl, rfl, .inl ⟨by omega, by omega⟩, ?_⟩
            refine ⟨_, _, rfl, rfl, _, _, rfl, rfl, _, _, rfl, rfl, ⟨by decide, by decide, mix_bound hM0 hM1 ht0 ht1⟩, .inl ⟨_, rfl, ?_⟩⟩
            refine ⟨_, _, rfl, rfl, (by show (0 : Int) < 2147483587; decide), ?_⟩
            refine ⟨_, rfl, _, _, rfl, rfl, ⟨by decide, by decide⟩, .inl ⟨_, rfl, ?_⟩⟩
            refine ⟨_, rfl, _, _, rfl, rfl, (by show (0 : Int) < m; omega), ?_⟩
            exact k _ (turn + 1) left H2 (Int.emod_nonneg _ (by omega)) (Int.emod_lt_of_pos _ (by omega)) (Nat.le_refl _) x2 ⟨hp2, hc2, hl, hleft⟩
        ·
          have hz1 : 0 ≤ z % 2147483549 := Int.emod_nonneg z (by decide)
          have hz2 : z % 2147483549 < 2147483549 := Int.emod_lt_of_pos z (by decide)
          refine ⟨_, rfl, .inl ⟨z, rfl, ?_⟩⟩
          refine ⟨_, _, rfl, rfl, (by show (0 : Int) < 2147483549; decide), ?_⟩
          refine ⟨_, rfl, _, _, rfl, rfl, .inl ⟨by decide, by decide⟩, _, _, rfl, rfl, _, _, rfl, rfl, ?_⟩
          refine ⟨_, _, rfl, rfl, ⟨by decide, by decide, ?_⟩, .inl ⟨_, rfl, ?_⟩⟩
          · try dsimp only
            have e : ((2 : Nat) ^ 64) = 18446744073709551616 := by decide
            rw [e]
            omega
          refine ⟨_, _, rfl, rfl, (by show (0 : Int) < 2147483629; decide), ?_⟩
          dsimp only
          generalize hM : ((z % 2147483549 + 21542 * (turn : Int) + 60413) ^ (5 : Int).toNat) % 2147483629 = M
          have hM0 : 0 ≤ M := by rw [← hM]; exact Int.emod_nonneg _ (by decide)
          have hM1 : M < 2147483629 := by rw [← hM]; exact Int.emod_lt_of_pos _ (by decide)
          refine ⟨_, rfl, _, rfl, _, _, rfl, rfl, .inl ⟨by decide, by decide⟩, _, _, rfl, rfl, _, _, rfl, rfl, .inl ⟨by omega, by omega⟩, ?_⟩
          refine ⟨_, rfl, _, _, rfl, rfl, .inl ⟨by decide, by decide⟩, _, rfl, _, _, rfl, rfl, .inl ⟨by omega, by omega⟩, ?_⟩
          refine ⟨_, _, rfl, rfl, _, _, rfl, rfl, _, _, rfl, rfl, ⟨by decide, by decide, mix_bound hM0 hM1 ht0 ht1⟩, .inl ⟨_, rfl, ?_⟩⟩
          refine ⟨_, _, rfl, rfl, (by show (0 : Int) < 2147483587; decide), ?_⟩
          refine ⟨_, rfl, _, _, rfl, rfl, ⟨by decide, by decide⟩, .inl ⟨_, rfl, ?_⟩⟩
          refine ⟨_, rfl, _, _, rfl, rfl, (by show (0 : Int) < m; omega), ?_⟩
          exact k _ (turn + 1) left H2 (Int.emod_nonneg _ (by omega)) (Int.emod_lt_of_pos _ (by omega)) (Nat.le_refl _) x2 ⟨hp2, hc2, hl, hleft⟩
end
end K00
end K00Draw_text
section K00Any_text
set_option Elab.async false
set_option linter.all false
set_option maxRecDepth 100000
set_option maxHeartbeats 4000000
/-! k00: what is picked, what is drawn. -/
namespace K00
open PySem PySem.Spec PyProof.Rows L2

def spPick (K : PySem.W.Frag) : Sp := fun vs H Q _ => ∃ (p c l : Addr) (ns : List Int) (turn : Nat) (left : Int) (xs : List V), vs = [.ref p, .ref l] ∧ PenAt H p c ns turn left ∧ turn ≤ 100000 ∧ l ≠ p ∧ H l = some (.lst xs) ∧ 1 ≤ xs.length ∧ xs.length ≤ 1000 ∧
  ∀ (i : Nat) (x : V) (turn' : Nat) (left' : Int) (H' : Hp), xs[i]? = some x → turn' ≤ turn + 1 → ExtB p H H' → PenAt H' p c ns turn' left' → Q x H'
/-- how many draws a value so deep takes at most -/
def cost : Nat → Nat
  | 0 => 2
  | n + 1 => 2 + 3 * cost n
def spAny (K : PySem.W.Frag) (n : Nat) : Sp := fun vs H Q _ => ∃ (p c : Addr) (ns : List Int) (turn : Nat) (left : Int), vs = [.ref p, .int n] ∧ PenAt H p c ns turn left ∧ turn + cost n ≤ 100000 ∧
  ∀ (v : V) (d : PyData) (turn' : Nat) (left' : Int) (H' : Hp), Dr n d → New K H H' v d → turn' ≤ turn + cost n → ExtB p H H' → PenAt H' p c ns turn' left' → Q v H'

section
variable {P : Program} {w : World} {K : PySem.W.Frag} {mg : Str → Option Value} {base : Heap}
theorem scPk : FnScope ["pen", "some"] ["pen", "some"] (defScope sPick) := ⟨rfl, rfl, rfl, by decide +kernel, rfl, by decide +kernel, by decide +kernel⟩
theorem ok_pick {f fD : Addr} {fd fdD : FuncData} (F : Fun K "_law_pick" "_law_pick" sPick f fd) (FD : Fun K "_law_draw" "_law_draw" sDraw fD fdD) (bD : Binds K fdD ["pen", "many"] []) (T : Free mg) (gD : mg "_law_draw" = some (.ref fD)) : FnOk P w K mg base CX0 2 f fd ["pen", "some"] (spPick K) := by
  have GD := ok_draw (P := P) (w := w) (base := base) FD T
  refine F.ok scPk (fun vs H Q E h => ?_) (fun cdv A outer s H vs Q E hr h => ?_)
  · obtain ⟨p, c, l, ns, turn, left, xs, rfl, _⟩ := h
    rfl
  · obtain ⟨p, c, l, ns, turn, left, xs, rfl, hp, ht, hlp, hl, h1, h2, k⟩ := h
    refine ⟨_, (pss_one (ps_ret (pe_ix ix_list (pv 1) (pe_call GD hr (by rfl) gD FD.kp bD .nil pass0 (pa_cons (pv 0) (pa_cons (pe_callB call_len_seq (by rfl) T.len (by decide +kernel) (pa_cons (pv 1) pa_nil)) pa_nil))) (fun _ _ => rfl)))), ?_⟩
    refine ⟨_, rfl, _, rfl, _, rfl, l, _, rfl, .inl (.inl (.inl hl)), ?_⟩
    refine ⟨p, c, ns, turn, left, xs.length, rfl, hp, ht, by omega, by omega, fun r turn' left' H' r0 r1 e1 x1 hp' => ?_⟩
    have hl' := x1 l _ hlp hl
    obtain ⟨i, rfl⟩ : ∃ i : Nat, r = i := ⟨r.toNat, (Int.toNat_of_nonneg r0).symm⟩
    have hi : i < xs.length := by omega
    exact ⟨l, xs, _, xs[i], rfl, rfl, .inl (.inl hl'), atI_nat (by simp [hi]), k i xs[i] turn' left' H' (by simp [hi]) e1 x1 hp'⟩

theorem scA : FnScope ["pen", "deep", "way", "some", "turn"] ["pen", "deep"] (defScope sAny) := ⟨rfl, rfl, rfl, by decide +kernel, rfl, by decide +kernel, by decide +kernel⟩
/-- the ten leaves as they stand in the list -/
abbrev leafV : List V := [.non, .bl true, .bl false, .int 0, .int 1, .int (-3), .int ((10 : Int) ^ (30 : Int).toNat), .str "", .str "word", .str "1"]
theorem leaf_dp {n : Nat} {i : Nat} {x : V} (h : leafV[i]? = some x) : ∃ d, Dr n d ∧ ∀ (K : PySem.W.Frag) (H : Hp), Dp K H x d := by
  have e30 : ((10 : Int) ^ (30 : Int).toNat) = 10 ^ 30 := rfl
  match i, h with
  | 0, h => cases h; exact ⟨.none, .at_ (by simp [atoms]), fun _ _ => .non⟩
  | 1, h => cases h; exact ⟨.bool true, .at_ (by simp [atoms]), fun _ _ => .bl _⟩
  | 2, h => cases h; exact ⟨.bool false, .at_ (by simp [atoms]), fun _ _ => .bl _⟩
  | 3, h => cases h; exact ⟨.int 0, .at_ (by simp [atoms]), fun _ _ => .int _⟩
  | 4, h => cases h; exact ⟨.int 1, .at_ (by simp [atoms]), fun _ _ => .int _⟩
  | 5, h => cases h; exact ⟨.int (-3), .at_ (by simp [atoms]), fun _ _ => .int _⟩
  | 6, h => cases h; exact ⟨.int (10 ^ 30), .at_ (by simp [atoms]), fun _ _ => .int _⟩
  | 7, h => cases h; exact ⟨.str "", .at_ (by simp [atoms]), fun _ _ => .str _⟩
  | 8, h => cases h; exact ⟨.str "word", .at_ (by simp [atoms]), fun _ _ => .str _⟩
  | 9, h => cases h; exact ⟨.str "1", .at_ (by simp [atoms]), fun _ _ => .str _⟩
  | i + 10, h => simp [leafV] at h

theorem pen_laid {H : Hp} {p c l : Addr} {ns : List Int} {turn : Nat} {left : Int} {o : HO} (h : PenAt H p c ns turn left) (hl : H l = none) : PenAt (upd H l o) p c ns turn left := by
  obtain ⟨a, b, d, e⟩ := h
  exact ⟨by rw [upd_ne (ne_of_none a hl)]; exact a, by rw [upd_ne (ne_of_none b hl)]; exact b, d, e⟩
theorem ok_any {f fD fP : Addr} {fd fdD fdP : FuncData} (F : Fun K "_law_any" "_law_any" sAny f fd) (b : Binds K fd ["pen", "deep"] []) (FD : Fun K "_law_draw" "_law_draw" sDraw fD fdD) (bD : Binds K fdD ["pen", "many"] []) (FP : Fun K "_law_pick" "_law_pick" sPick fP fdP) (bP : Binds K fdP ["pen", "some"] [])
    (T : Free mg) (gD : mg "_law_draw" = some (.ref fD)) (gP : mg "_law_pick" = some (.ref fP)) (gA : mg "_law_any" = some (.ref f)) : ∀ n, FnOk P w K mg base CX0 (n + 3) f fd ["pen", "deep"] (spAny K n) := by
  have GD := ok_draw (P := P) (w := w) (base := base) FD T
  have GP := ok_pick (P := P) (w := w) (base := base) FP FD bD T gD
  have len : ∀ n vs H Q E, spAny K n vs H Q E → vs.length = (["pen", "deep"] : List Str).length := by
    rintro n vs H Q E ⟨p, c, ns, turn, left, rfl, _⟩
    rfl
  intro n
  induction n with
  | zero =>
    refine F.ok scA (len 0) (fun cdv A outer s H vs Q E hr h => ?_)
    have hrD := hr.mono (j := 1) (by decide)
    have hrP := hr.mono (j := 2) (by decide)
    obtain ⟨p, c, ns, turn, left, rfl, hp, ht, k⟩ := h
    refine ⟨_, (pss_cons (ps_set (i := 2) scA.nd rfl (Or.inl rfl) (pe_call GD hrD (by rfl) gD FD.kp bD .nil pass0 (pa_cons (pv 0) (pa_cons (pe_ifExp (pt_cmpR op_gt (pv 1) pe_int (nomark _)) pe_int pe_int) pa_nil))))
      (pss_cons (ps_if (pt_cmpR op_lt (pv 2) pe_int (nomark _)) (pss_one (ps_ret (pe_call GP hrP (by rfl) gP FP.kp bP .nil pass0 (pa_cons (pv 0) (pa_cons (pe_lst (pa_cons pe_non (pa_cons pe_bl (pa_cons pe_bl (pa_cons pe_int (pa_cons pe_int (pa_cons (pe_un un_neg pe_int) (pa_cons (pe_op op_pow pe_int pe_int) (pa_cons pe_str (pa_cons pe_str (pa_cons pe_str pa_nil))))))))))) pa_nil))))) pss_nil)
      (pss_cons ps_never
      (pss_one ps_never)))), ?_⟩
    refine ⟨_, rfl, _, rfl, _, _, rfl, rfl, _, rfl, ?_⟩
    refine ite2 (fun h => absurd (of_decide_eq_true h) (by show ¬ (0 : Int) < 0; omega)) (fun h => ?_)
    refine ⟨p, c, ns, turn, left, 7, rfl, hp, by omega, by decide, by decide, fun r t1 l1 H1 r0 r1 e1 x1 hp1 => ?_⟩
    refine ⟨_, rfl, _, _, rfl, rfl, _, rfl, ?_⟩
    refine ite2 (fun h => ?_) (fun h => absurd (decide_eq_true r1) h)
    refine ⟨_, rfl, _, rfl, _, _, rfl, rfl, ⟨by decide, by decide, by decide⟩, (by show 10 ≤ sizeLine; rw [sizeLine_eq]; omega), fun l hl => ?_⟩
    refine ⟨p, c, l, ns, t1, l1, leafV, rfl, pen_laid hp1 hl, by simp only [cost] at ht; omega, (ne_of_none hp1.1 hl).symm, upd_same, by decide, by decide, fun i x t2 l2 H2 hx e2 x2 hp2 => ?_⟩
    obtain ⟨d, hd, hx⟩ := leaf_dp (n := 0) hx
    exact k x d t2 l2 H2 hd (fun H'' _ => hx K H'') (by simp only [cost]; omega) (x1.trans ((Ext.b (Ext.upd hl)).trans x2)) hp2
  | succ n ih =>
    refine F.ok scA (len (n + 1)) (fun cdv A outer s H vs Q E hr h => ?_)
    have hrD := hr.mono (j := 1) (by omega)
    have hrP := hr.mono (j := 2) (by omega)
    obtain ⟨p, c, ns, turn, left, rfl, hp, ht, k⟩ := h
    refine ⟨_, (pss_cons (ps_set (i := 2) scA.nd rfl (Or.inl rfl) (pe_call GD hrD (by rfl) gD FD.kp bD .nil pass0 (pa_cons (pv 0) (pa_cons (pe_ifExp (pt_cmpR op_gt (pv 1) pe_int (nomark _)) pe_int pe_int) pa_nil))))
      (pss_cons (ps_if (pt_cmpR op_lt (pv 2) pe_int (nomark _)) (pss_one (ps_ret (pe_call GP hrP (by rfl) gP FP.kp bP .nil pass0 (pa_cons (pv 0) (pa_cons (pe_lst (pa_cons pe_non (pa_cons pe_bl (pa_cons pe_bl (pa_cons pe_int (pa_cons pe_int (pa_cons (pe_un un_neg pe_int) (pa_cons (pe_op op_pow pe_int pe_int) (pa_cons pe_str (pa_cons pe_str (pa_cons pe_str pa_nil))))))))))) pa_nil))))) pss_nil)
      (pss_cons (ps_setLc (i := 3) (own := [("turn", 4)]) (g := gName 4) (tt := tYes) rfl scA.nd rfl rfl (sw_true rfl rfl rfl (by decide +kernel)) (pi_range1 (by rfl) T.range (pa_cons (pe_call GD hrD (by rfl) gD FD.kp bD .nil pass0 (pa_cons (pv 0) (pa_cons pe_int pa_nil))) pa_nil)) (blkOk_by (N := ["pen", "deep", "way", "some", "turn"]) (sc := defScope sAny) (by decide +kernel)) (fun _ _ _ _ _ => pg_name (i := 4) scA.nd rfl (Or.inl rfl)) (fun _ _ _ _ _ => pts_nil) (fun _ _ _ _ _ => pe_call ih hr (by rfl) gA F.kp b .nil pass0 (pa_cons (pv 0) (pa_cons (pe_op op_sub (pv 1) pe_int) pa_nil))))
      (pss_one (ps_ret (pe_ifExp (pt_cmpR op_eq (pv 2) pe_int (nomark _)) (pv 3) (pe_callTy call_tuple_of (by rfl) T.tuple (by decide +kernel) (pa_cons (pv 3) pa_nil)))))))), ?_⟩
    have hc : cost (n + 1) = 2 + 3 * cost n := rfl
    refine ⟨_, rfl, _, rfl, _, _, rfl, rfl, _, rfl, ?_⟩
    refine ite2 (fun h => ?_) (fun h => absurd (decide_eq_true (by show (0 : Int) < ((n + 1 : Nat) : Int); omega)) h)
    refine ⟨p, c, ns, turn, left, 9, rfl, hp, by omega, by decide, by decide, fun r t1 l1 H1 r0 r1 e1 x1 hp1 => ?_⟩
    refine ⟨_, rfl, _, _, rfl, rfl, _, rfl, ?_⟩
    refine ite2 (fun h => ?_) (fun h => ?_)
    · refine ⟨_, rfl, _, rfl, _, _, rfl, rfl, ⟨by decide, by decide, by decide⟩, (by show 10 ≤ sizeLine; rw [sizeLine_eq]; omega), fun l hl => ?_⟩
      refine ⟨p, c, l, ns, t1, l1, leafV, rfl, pen_laid hp1 hl, by omega, (ne_of_none hp1.1 hl).symm, upd_same, by decide, by decide, fun i x t2 l2 H2 hx e2 x2 hp2 => ?_⟩
      obtain ⟨d, hd, hx⟩ := leaf_dp (n := n + 1) hx
      exact k x d t2 l2 H2 hd (fun H'' _ => hx K H'') (by omega) (x1.trans ((Ext.b (Ext.upd hl)).trans x2)) hp2
    · refine ⟨_, rfl, ?_⟩
      refine ⟨p, c, ns, t1, l1, 4, rfl, hp1, by omega, by decide, by decide, fun m t2 l2 H2 m0 m1 e2 x2 hp2 => ?_⟩
      refine ⟨m, rfl, by omega, by omega, fun D hD => ?_⟩
      have hm3 : m.toNat ≤ 3 := by omega
      have none2 : ∀ a, H2 a = none → H a = none := fun a h0 => by
        cases q : H a with
        | none => rfl
        | some o =>
          by_cases hap : a = p
          · rw [hap, hp2.1] at h0
            cases h0
          · rw [(x1.trans x2) a o hap q] at h0
            cases h0
      have hDp : D ≠ p := (ne_of_none hp2.1 hD).symm
      refine lc_range (lo := 0) (n := m.toNat) (fun i H' => ∃ (t3 : Nat) (l3 : Int) (acc : List V) (ds : List PyData), ds.length = i ∧ (∀ x ∈ ds, Dr n x) ∧ H' D = some (.lst acc) ∧ ExtB p H2 H' ∧ PenAt H' p c ns t3 l3 ∧ t3 ≤ t2 + i * cost n ∧
        (∀ H'', (∀ a o, H2 a = none → a ≠ D → H' a = some o → H'' a = some o) → DpAll K H'' acc ds)) ?_ ?_ ?_
      · exact ⟨t2, l2, [], [], rfl, fun x h => absurd h (by simp), upd_same, Ext.b (Ext.upd hD), pen_laid hp2 hD, by omega, fun _ _ => DpAll.nil⟩
      · rintro i H' hi ⟨t3, l3, acc, ds, hlen, hdr, hD', x3, hp3, ht3, hall⟩
        have hic : i * cost n ≤ 2 * cost n := Nat.mul_le_mul_right _ (by omega)
        refine ⟨rfl, ?_⟩
        refine ⟨_, rfl, _, rfl, _, _, rfl, rfl, ?_⟩
        refine ⟨p, c, ns, t3, l3, ?_, hp3, by omega, fun v d t4 l4 H4 hd hn e4 x4 hp4 => ?_⟩
        · show [V.ref p, V.int (((n + 1 : Nat) : Int) - 1)] = [V.ref p, V.int (n : Int)]
          rw [show (((n + 1 : Nat) : Int) - 1) = (n : Int) by omega]
        · have hD4 := x4 D _ hDp hD'
          have hal : acc.length = ds.length := dpAll_len (hall H' fun _ _ _ _ q => q)
          refine ⟨acc, hD4, by rw [hal, hlen, sizeLine_eq]; omega, t4, l4, acc ++ [v], ds ++ [d], by rw [List.length_append, hlen]; rfl, fun x hx => ?_, upd_same, fun a o ha q => ?_, ?_, ?_, fun H'' z => ?_⟩
          · rcases List.mem_append.mp hx with hx | hx
            · exact hdr x hx
            · rw [List.mem_singleton.mp hx]
              exact hd
          · rw [upd_ne (ne_of_none q hD)]
            exact x4 a o ha (x3 a o ha q)
          · have hcD : c ≠ D := ne_of_none hp2.2.1 hD
            exact ⟨by rw [upd_ne hDp.symm]; exact hp4.1, by rw [upd_ne hcD]; exact hp4.2.1, hp4.2.2⟩
          · rw [Nat.add_mul]
            omega
          · refine dpAll_snoc (hall H'' fun a o h0 hne q => ?_) (hn H'' fun a o h0 q => ?_)
            · by_cases hap : a = p
              · rw [hap, hp2.1] at h0
                cases h0
              · exact z a o h0 hne (by rw [upd_ne hne]; exact x4 a o hap q)
            · have hne : a ≠ D := fun e => by rw [e, hD'] at h0; cases h0
              have h2 : H2 a = none := by
                cases q0 : H2 a with
                | none => rfl
                | some o0 =>
                  by_cases hap : a = p
                  · rw [hap, hp3.1] at h0
                    cases h0
                  · rw [x3 a o0 hap q0] at h0
                    cases h0
              exact z a o h2 hne (by rw [upd_ne hne]; exact q)
      · rintro H' ⟨t3, l3, acc, ds, hlen, hdr, hD', x3, hp3, ht3, hall⟩
        have hic : m.toNat * cost n ≤ 3 * cost n := Nat.mul_le_mul_right _ hm3
        refine ⟨_, rfl, rfl, _, rfl, ?_⟩
        refine ite2 (fun h => ?_) (fun h => ?_)
        · refine ⟨_, rfl, k (.ref D) (.list ds) t3 l3 H' (.lst (by omega) hdr) (fun H'' z => ?_) (by omega) ((x1.trans x2).trans x3) hp3⟩
          exact .lst (.inl (.inl (z D _ (none2 D hD) hD'))) (hall H'' fun a o h0 _ q => z a o (none2 a h0) q)
        · refine ⟨_, rfl, D, acc, rfl, .inl ⟨.inl (.inl hD'), fun T hT => k (.ref T) (.tuple ds) t3 l3 _ (.tup (by omega) hdr) (fun H'' z => ?_) (by omega) (((x1.trans x2).trans x3).trans (Ext.b (Ext.upd hT))) (pen_laid hp3 hT)⟩⟩
          have h2T : H T = none := none2 T (by
            cases q0 : H2 T with
            | none => rfl
            | some o0 =>
              by_cases hap : T = p
              · rw [hap, hp3.1] at hT
                cases hT
              · rw [x3 T o0 hap q0] at hT
                cases hT)
          exact .tup (.inl (.inl (z T _ h2T upd_same))) (hall H'' fun a o h0 _ q => z a o (none2 a h0) (by rw [upd_ne (ne_of_none q hT)]; exact q))
end
end K00
end K00Any_text
section K00Pen_text
set_option Elab.async false
set_option linter.all false
set_option maxRecDepth 100000
set_option maxHeartbeats 4000000
/-! k00: the pen is made. -/
namespace K00
open PySem PySem.Spec PyProof.Rows L2

def spPen (K : PySem.W.Frag) : Sp := fun vs H Q _ => ∃ (a : Addr) (ns : List Int), vs = [.ref a] ∧ SqL K H a (ns.map V.int) ∧ ns.length ≤ 63 ∧ ∀ (p c : Addr) (H' : Hp), Ext H H' → H p = none → PenAt H' p c ns 0 0 → Q (.ref p) H'
theorem cut63 (xs : List V) (h : xs.length ≤ 63) : cutV xs none (some 63) = xs := by
  have e : HT.sIx xs.length xs.length (some 63) = xs.length := (HT.sIx_nat _ _ 63).trans (Nat.min_eq_right h)
  unfold cutV
  rw [e]
  show (xs.drop 0).take (xs.length - 0) = xs
  simp
section
variable {P : Program} {w : World} {K : PySem.W.Frag} {mg : Str → Option Value} {base : Heap}
theorem scPn : FnScope ["script", "cell"] ["script"] (defScope sPen) := ⟨rfl, rfl, rfl, by decide +kernel, rfl, by decide +kernel, by decide +kernel⟩
theorem ok_pen {f : Addr} {fd : FuncData} (F : Fun K "_law_pen" "_law_pen" sPen f fd) (T : Free mg) : FnOk P w K mg base CX0 1 f fd ["script"] (spPen K) := by
  refine F.ok scPn (fun vs H Q E h => ?_) (fun cdv A outer s H vs Q E hr h => ?_)
  · obtain ⟨a, ns, rfl, _⟩ := h
    rfl
  · obtain ⟨a, ns, rfl, hs, hl, k⟩ := h
    refine ⟨_, pss_one (ps_ret (pe_lst (pa_cons (pe_lc (own := [("cell", 1)]) (g := gName 1) (tt := tYes) rfl scPn.nd (pi_list (pe_slice sl_list (pv 0) po_none (po_some pe_int))) (blkOk_by (N := ["script", "cell"]) (sc := defScope sPen) (by decide +kernel)) (fun _ _ _ _ _ => pg_name (i := 1) scPn.nd rfl (Or.inl rfl)) (fun _ _ _ _ _ => pts_nil) (fun _ _ _ _ _ => pe_callTy call_int1 (by rfl) T.int (by decide +kernel) (pa_cons (pv 1) pa_nil))) (pa_cons pe_int (pa_cons pe_int pa_nil))))), ?_⟩
    refine ⟨_, rfl, _, rfl, a, _, rfl, hs, fun q hq => ?_⟩
    rw [cut63 _ (by rw [List.length_map]; exact hl)]
    refine ⟨q, rfl, ⟨_, .inl (.inl upd_same)⟩, fun D hD => ?_⟩
    have hDn : H D = none := by
      cases e : H D with
      | none => rfl
      | some o => rw [Ext.upd hq D o e] at hD; cases hD
    refine lc_list (K := K) (a := q) (xs := ns.map V.int) (fun i H' => Ext (upd H q (.lst (ns.map V.int))) H' ∧ H' D = some (.lst ((ns.map V.int).take i))) ⟨Ext.upd hD, upd_same⟩ (fun i H' _ p => .inl (.inl (p.1 _ _ upd_same))) ?_ ?_
    · rintro i x H' hi ⟨x1, hD'⟩
      obtain ⟨z, hz, rfl⟩ : ∃ z, ns[i]? = some z ∧ x = V.int z := by
        rw [List.getElem?_map] at hi
        cases e : ns[i]? with
        | none => rw [e] at hi; cases hi
        | some z => rw [e] at hi; exact ⟨z, rfl, (Option.some.inj hi).symm⟩
      refine ⟨rfl, _, rfl, .inl ⟨z, rfl, _, hD', ?_, fun b o e => ?_, ?_⟩⟩
      · rw [List.length_take, List.length_map, sizeLine_eq]
        omega
      · rw [upd_ne (ne_of_none e hD)]
        exact x1 b o e
      · rw [upd_same, List.take_add_one, hi]
        rfl
    · rintro H' ⟨x1, hD'⟩
      rw [List.take_length] at hD'
      refine ⟨by show 3 ≤ sizeLine; rw [sizeLine_eq]; omega, fun p hp => ?_⟩
      have hDp : D ≠ p := ne_of_none hD' hp
      have x2 : Ext H H' := (Ext.upd hq).trans x1
      have hpn : H p = none := by
        cases e : H p with
        | none => rfl
        | some o => rw [x2 p o e] at hp; cases hp
      exact k p D _ (x2.upd' hp) hpn ⟨upd_same, by rw [upd_ne hDp]; exact hD', hl, Int.le_refl _⟩
end
end K00
end K00Pen_text
section K00Law0_text
set_option Elab.async false
set_option linter.all false
set_option maxRecDepth 100000
set_option maxHeartbeats 4000000
/-! k00: what the law's body is walked with: the classes, the promises, readings of what is made. -/
namespace K00
open PySem PySem.Spec PyProof.Rows L2 StX

/-- names and values of keywords, all behind self -/
abbrev gApp {α : Type} (us ws : List α) : List α := us ++ ws
/-- keywords told the other way round -/
abbrev gRev {α : Type} (us ws : List α) : List α := us ++ ws.reverse
/-- all that the body of the law leans on -/
structure LT (P : Program) (w : World) (K : PySem.W.Frag) (mg : Str → Option Value) (base : Heap) where
  T : Free mg
  e : Nat → Addr
  fE : Nat → Addr
  fdE : Nat → FuncData
  g0 : mg "BadStep" = some (.ref (e 0))
  g1 : mg "BadForm" = some (.ref (e 1))
  g2 : mg "BadScheme" = some (.ref (e 2))
  g3 : mg "BadStore" = some (.ref (e 3))
  g4 : mg "BadValue" = some (.ref (e 4))
  g5 : mg "BadNumber" = some (.ref (e 5))
  g6 : mg "Misfit" = some (.ref (e 6))
  g7 : mg "Nothing" = some (.ref (e 7))
  g8 : mg "BadText" = some (.ref (e 8))
  g9 : mg "BadLine" = some (.ref (e 9))
  g10 : mg "TooMany" = some (.ref (e 10))
  oex : ∀ i, i < 11 → OexM K (e i) (fE i)
  xf : ∀ i, i < 11 → XfC K (e i)
  ec : ∀ i, i < 11 → ExcC K (e i)
  okP : ∀ i, i < 8 → FnOk P w K mg base CX0 1 (fE i) (fdE i) ["self", "part"] (spBad (e i) "part")
  okW : ∀ i, 8 ≤ i → i < 10 → FnOk P w K mg base CX0 1 (fE i) (fdE i) ["self", "word"] (spBad (e i) "word")
  okT : FnOk P w K mg base CX0 1 (fE 10) (fdE 10) ["self", "what", "most"] (spBad2 (e 10) "what" "most")
  bP : ∀ i, i < 8 → Binds K (fdE i) ["self", "part"] []
  bW : ∀ i, 8 ≤ i → i < 10 → Binds K (fdE i) ["self", "word"] []
  bT : Binds K (fdE 10) ["self", "what", "most"] []
  kP : ∀ i, i < 8 → KBn K (fdE i) ["self", "part"] 1 ["part"] gApp gApp
  kW : ∀ i, 8 ≤ i → i < 10 → KBn K (fdE i) ["self", "word"] 1 ["word"] gApp gApp
  kT : KBn K (fdE 10) ["self", "what", "most"] 1 ["most", "what"] gRev gRev
  nP : ∀ i, i < 8 → PySem.W.findIn K (.ref (e i)) "part" = some none
  nW : ∀ i, 8 ≤ i → i < 10 → PySem.W.findIn K (.ref (e i)) "word" = some none
  nT1 : PySem.W.findIn K (.ref (e 10)) "what" = some none
  nT2 : PySem.W.findIn K (.ref (e 10)) "most" = some none
  kit : ∀ i j, i < 11 → j < 11 → PySem.W.kitOne K (.ref (e i)) (.ref (e j)) = some (decide (i = j))
  PE : Addr
  gPE : mg "PartsError" = some (.ref PE)
  kitP : ∀ i, i < 11 → PySem.W.kitOne K (.ref (e i)) (.ref PE) = some true
  kitV : ∀ i, i < 11 → PySem.W.kitOne K (.ref (e i)) (.type "ValueError") = some true
  CP : Addr
  CD : Addr
  CG : Addr
  CS : Addr
  CK : Addr
  CF : Addr
  CE : Addr
  gP : mg "Paper" = some (.ref CP)
  gD : mg "Denial" = some (.ref CD)
  gG : mg "Gear" = some (.ref CG)
  gS : mg "Stiff" = some (.ref CS)
  gK : mg "Kit" = some (.ref CK)
  gF : mg "Finite" = some (.ref CF)
  gE : mg "Endless" = some (.ref CE)
  fI : Addr
  okI : FnR P w K mg base CX0 52 fI (spPap K 50)
  mkP : Mk K CP fI
  mkD : Mk K CD fI
  fG : Addr
  fS : Addr
  fK : Addr
  fF : Addr
  fN : Addr
  fdG : FuncData
  fdS : FuncData
  fdK : FuncData
  fdF : FuncData
  fdN : FuncData
  okG : FnOk P w K mg base CX0 53 fG fdG ["self", "span", "step", "gain", "bound"] (spOwn K CG "gear" ["span", "step", "gain", "bound"])
  okS : FnOk P w K mg base CX0 53 fS fdS ["self", "span", "bound"] (spOwn K CS "stiff" ["span", "bound"])
  okK : FnOk P w K mg base CX0 53 fK fdK ["self", "rows", "counts"] (spOwn K CK "kit" ["rows", "counts"])
  okF : FnOk P w K mg base CX0 53 fF fdF ["self", "modulus", "table", "chains"] (spOwn K CF "finite" ["modulus", "table", "chains"])
  okN : FnOk P w K mg base CX0 53 fN fdN ["self", "chain", "ring", "prime", "on"] (spOwn K CE "endless" ["chain", "ring", "prime", "on"])
  mkG : Mk K CG fG
  mkS : Mk K CS fS
  mkK : Mk K CK fK
  mkF : Mk K CF fF
  mkN : Mk K CE fN
  bG : Binds K fdG ["self", "span", "step", "gain", "bound"] []
  kG : KBn K fdG ["self", "span", "step", "gain", "bound"] 1 ["bound", "gain", "step", "span"] gRev gRev
  kS : KBn K fdS ["self", "span", "bound"] 1 ["bound", "span"] gRev gRev
  kK : KBn K fdK ["self", "rows", "counts"] 1 ["counts", "rows"] gRev gRev
  kF : KBn K fdF ["self", "modulus", "table", "chains"] 1 ["chains", "table", "modulus"] gRev gRev
  kN : KBn K fdN ["self", "chain", "ring", "prime", "on"] 1 ["on", "prime", "ring", "chain"] gRev gRev
  nmP : PapN K CP CP "Paper"
  nmD : PapN K CP CD "Denial"
  nmG : PapN K CP CG "Gear"
  pcS : PapC K CS
  pcK : PapC K CK
  pcF : PapC K CF
  pcE : PapC K CE
  naG : NoAttr K CG "bound"
  naE : NoAttr K CE "on"
  naK1 : NoAttr K CK "rows"
  naK2 : NoAttr K CK "counts"
  fEq : Addr
  fdEq : FuncData
  okEq : FnOk P w K mg base CX0 53 fEq fdEq ["self", "other"] (spEqP K CP)
  bEq : Binds K fdEq ["self", "other"] []
  isEq : PySem.W.isFn K (.ref fEq) = true
  eqP : EqOwn K CP fEq
  eqD : EqOwn K CD fEq
  eqG : EqOwn K CG fEq
  fT : Addr
  fN0 : Addr
  boP : BoolOwn P w K mg base CP fT true
  boD : BoolOwn P w K mg base CD fN0 false
  boG : BoolOwn P w K mg base CG fT true
  boS : BoolOwn P w K mg base CS fN0 false
  boK : BoolOwn P w K mg base CK fT true
  boF : BoolOwn P w K mg base CF fT true
  boE : BoolOwn P w K mg base CE fN0 false
  dne : CD ≠ CP
  subD : PySem.W.subIn K (.ref CD) (.ref CP) = some true
  kTup : PySem.W.kitOne K (.type "tuple") (.ref CP) = some false
  kNon : PySem.W.kitOne K (.type "NoneType") (.ref CP) = some false
  nTup : PySem.W.notFirst K CP (.type "tuple") = true
  nNon : PySem.W.notFirst K CP (.type "NoneType") = true
  kPD : PySem.W.kitOne K (.ref CP) (.ref CD) = some false
  fPen : Addr
  fDraw : Addr
  fPick : Addr
  fAny : Addr
  fTup : Addr
  fdPen : FuncData
  fdDraw : FuncData
  fdPick : FuncData
  fdAny : FuncData
  fdTup : FuncData
  okPen : FnOk P w K mg base CX0 1 fPen fdPen ["script"] (spPen K)
  okDraw : FnOk P w K mg base CX0 1 fDraw fdDraw ["pen", "many"] (spDraw K)
  okPick : FnOk P w K mg base CX0 2 fPick fdPick ["pen", "some"] (spPick K)
  okAny : FnOk P w K mg base CX0 5 fAny fdAny ["pen", "deep"] (spAny K 2)
  okTup : FnOk P w K mg base CX0 51 fTup fdTup ["value"] (spFix K 50)
  bPen : Binds K fdPen ["script"] []
  bDraw : Binds K fdDraw ["pen", "many"] []
  bPick : Binds K fdPick ["pen", "some"] []
  bAny : Binds K fdAny ["pen", "deep"] []
  bTup : Binds K fdTup ["value"] []
  kpPen : PySem.W.keepIn K (.ref fPen) = true
  kpDraw : PySem.W.keepIn K (.ref fDraw) = true
  kpPick : PySem.W.keepIn K (.ref fPick) = true
  kpAny : PySem.W.keepIn K (.ref fAny) = true
  kpTup : PySem.W.keepIn K (.ref fTup) = true
  gPen : mg "_law_pen" = some (.ref fPen)
  gDraw : mg "_law_draw" = some (.ref fDraw)
  gPick : mg "_law_pick" = some (.ref fPick)
  gAny : mg "_law_any" = some (.ref fAny)
  gTup : mg "_law_tupled" = some (.ref fTup)

/-- an error of the class C at a, with these fields -/
def ErrAt (H : Hp) (a C : Addr) (fs : List (Str × V)) : Prop := ∃ d, H a = some (exo a C (some d)) ∧ H d = some (exd d fs)
theorem ErrAt.ext {H H' : Hp} {a C : Addr} {fs : List (Str × V)} (h : ErrAt H a C fs) (e : Ext H H') : ErrAt H' a C fs := by
  obtain ⟨d, h1, h2⟩ := h
  exact ⟨d, e _ _ h1, e _ _ h2⟩
theorem bad_err {C : Addr} {f : Str} {v : V} {H1 : Hp} {a : Addr} {Q : VK} (ha : H1 a = none) (k : ∀ H', Ext H1 H' → ErrAt H' a C [(f, v)] → Q (.ref a) H') :
    spBad C f [.ref a, v] (upd H1 a (exo a C none)) (fun x H2 => x = .non ∧ Q (.ref a) H2) (fun _ _ _ => False) := by
  refine ⟨a, v, rfl, upd_same, fun d hd hne => ⟨rfl, k _ (fun b o e => ?_) ⟨d, upd_same, by rw [upd_ne hne, upd_same]⟩⟩⟩
  have h1 : b ≠ a := ne_of_none e ha
  have h2 : b ≠ d := ne_of_none (by rw [upd_ne h1]; exact e) hd
  rw [upd_ne h1, upd_ne h2, upd_ne h1]
  exact e
theorem bad_err2 {C : Addr} {f g : Str} {v u : V} {H1 : Hp} {a : Addr} {Q : VK} (ha : H1 a = none) (k : ∀ H', Ext H1 H' → ErrAt H' a C [(g, u), (f, v)] → Q (.ref a) H') :
    spBad2 C f g [.ref a, v, u] (upd H1 a (exo a C none)) (fun x H2 => x = .non ∧ Q (.ref a) H2) (fun _ _ _ => False) := by
  refine ⟨a, v, u, rfl, upd_same, fun d hd hne => ⟨rfl, k _ (fun b o e => ?_) ⟨d, by rw [upd_ne hne.symm, upd_same], upd_same⟩⟩⟩
  have h1 : b ≠ a := ne_of_none e ha
  have h2 : b ≠ d := ne_of_none (by rw [upd_ne h1]; exact e) hd
  rw [upd_ne h2, upd_ne h1, upd_ne h2, upd_ne h1]
  exact e
section
variable {K : PySem.W.Frag} {σ : L2.St} {H : Hp} {Q : VK} {C : Addr} {f g : Str} {i j : Nat} {v u : V}
theorem rd_err (hi : σ[i]? = some (some v)) (k : ∀ a H', Ext H H' → ErrAt H' a C [(f, v)] → Q (.ref a) H') : tMkV C (spBad C f) (tCons (tVar i) tNil) σ H Q :=
  ⟨v, hi, by show 1 ≤ 1000; decide, fun a ha => bad_err ha fun H' e h => k a H' e h⟩
theorem rd_errK (hi : σ[i]? = some (some v)) (k : ∀ a H', Ext H H' → ErrAt H' a C [(f, v)] → Q (.ref a) H') : tMkVK C 1 (spBad C f) gApp (tCons (tVar i) tNil) σ H Q :=
  ⟨v, hi, rfl, fun a ha => bad_err ha fun H' e h => k a H' e h⟩
theorem rd_err2 (hi : σ[i]? = some (some v)) (hj : σ[j]? = some (some u)) (k : ∀ a H', Ext H H' → ErrAt H' a C [(g, u), (f, v)] → Q (.ref a) H') : tMkV C (spBad2 C f g) (tCons (tVar i) (tCons (tVar j) tNil)) σ H Q :=
  ⟨v, hi, u, hj, by show 2 ≤ 1000; decide, fun a ha => bad_err2 ha fun H' e h => k a H' e h⟩
theorem rd_err2K (hi : σ[i]? = some (some v)) (hj : σ[j]? = some (some u)) (k : ∀ a H', Ext H H' → ErrAt H' a C [(g, u), (f, v)] → Q (.ref a) H') : tMkVK C 2 (spBad2 C f g) gRev (tCons (tVar j) (tCons (tVar i) tNil)) σ H Q :=
  ⟨u, hj, v, hi, rfl, fun a ha => bad_err2 ha fun H' e h => k a H' e h⟩
/-- error.f -/
theorem rd_fld {a : Addr} {fs : List (Str × V)} (hi : σ[i]? = some (some (.ref a))) (h : ErrAt H a C fs) (x : XfC K C) (n : PySem.W.findIn K (.ref C) f = some none) (l : fs.lookup f = some v) (q : Q v H) : tXv K f (tVar i) σ H Q := by
  obtain ⟨d, h1, h2⟩ := h
  exact ⟨_, hi, a, C, d, fs, v, rfl, h1, h2, x, n, l, q⟩
/-- isinstance(error, D) -/
theorem rd_isx {a D : Addr} {fs : List (Str × V)} {b : Bool} (hi : σ[i]? = some (some (.ref a))) (h : ErrAt H a C fs) (x : ExcC K C) (kk : PySem.W.kitOne K (.ref C) (.ref D) = some b) (q : Q (.bl b) H) : tCB (rIsX K) (tCons (tVar i) (tCons (tC (.ref D)) tNil)) σ H Q := by
  obtain ⟨d, h1, h2⟩ := h
  exact ⟨_, hi, a, C, d, fs, .ref D, .ref D, b, rfl, h1, h2, x, .own D, kk, q⟩
end
end K00
end K00Law0_text
section K00C3_text
set_option Elab.async false
set_option linter.all false
set_option maxRecDepth 100000
set_option maxHeartbeats 4000000
/-! k00: the law's turn, the last four statements. Terms printed by mkC3.py. -/
namespace K00
open PySem PySem.Spec PyProof.Rows L2 StX

abbrev NL : List Str := ["script", "pen", "turn", "one", "other", "some", "told", "at", "error", "kinds", "near", "papers", "is_same", "box", "kept", "denial", "table", "last", "place", "paper"]
theorem scL : FnScope NL ["script"] (defScope sLaw) := ⟨rfl, rfl, rfl, by decide +kernel, rfl, by decide +kernel, by decide +kernel⟩
def lawBody : List Stmt := defBody sLaw
def turnBody : List Stmt := match lawBody.getD 1 (.Pass ⟨0, 0, 0, 0⟩) with
  | .For _ _ b _ _ => b
  | _ => []
/-- a paper's equality, seen by texts -/
theorem papEq_same {nm w : Str} {t n : PyData} (ht : Tup t) (hn : Tup n) : papEq nm nm w w [t, .int 7] [n, .int 7] = decide (t.shown = n.shown) := by
  have e : like t n = decide (t.shown = n.shown) := like_shown ht hn
  unfold papEq
  simp [like, likeAll, isB, PyData.eqv, e]
theorem papEq_word {nm : Str} {ds ds' : List PyData} : papEq nm nm "one" "two" ds ds' = false := by
  have e : (("one" : Str) == ("two" : Str)) = false := by decide +kernel
  unfold papEq
  simp [like, likeAll, isB, PyData.eqv, e]
theorem papEq_len {nm w : Str} {t : PyData} : papEq nm nm w w [t, .int 7] [t] = false := by
  unfold papEq
  simp [like, likeAll, isB, PyData.eqv]
theorem rd_ne_self {K : PySem.W.Frag} {H : Hp} {Q : VK} {x : Str} (q : Q (.bl false) H) : rNe (.str x) (.str x) H Q := by
  refine ⟨rfl, ?_⟩
  rw [decide_eq_true rfl]
  exact q
theorem fine_t7 {t : PyData} (h : Fine 2 912 t) : Fine 50 90000 (.tuple [t, .int 7]) := by
  have h7 : Fine 2 912 (.int 7) := ⟨by decide +kernel, by decide +kernel, by decide +kernel, by decide +kernel, by decide +kernel⟩
  have z := fine_tuple (xs := [t, .int 7]) (n := 2) (w := 912) fun x hx => by
    rcases List.mem_cons.mp hx with rfl | hx
    · exact h
    · rw [List.mem_singleton.mp hx]
      exact h7
  exact z.mono (by omega) (by show 2 * (912 + 1) ≤ 90000; decide)
theorem ifNot {p A B : Prop} [Decidable p] (h : ¬ p) (hb : B) : if decide p = true then A else B := by
  rw [decide_eq_false h]
  exact iteF hb
theorem falses (n : Nat) : (List.replicate n [V.bl false]).flatten = List.replicate n (V.bl false) := by
  induction n with
  | zero => rfl
  | succ n ih => rw [List.replicate_succ, List.flatten_cons, ih]; rfl
theorem dp_bls {K : PySem.W.Frag} {H : Hp} : ∀ bs : List Bool, DpAll K H (bs.map V.bl) (bs.map PyData.bool)
  | [] => .nil
  | b :: bs => .cons (.bl b) (dp_bls bs)
theorem bls_depth : ∀ bs : List Bool, PyData.canLayAll0 (bs.map PyData.bool) = true ∧ PyData.depthAll (bs.map PyData.bool) ≤ 0
  | [] => ⟨by simp [PyData.canLayAll0], by simp [PyData.depthAll]⟩
  | b :: bs => by
    obtain ⟨x, y⟩ := bls_depth bs
    exact ⟨by simp [PyData.canLayAll0, PyData.canLay0, x], by simp only [List.map_cons, PyData.depthAll, PyData.depth]; omega⟩
theorem bls_lay (bs : List Bool) : (PyData.list (bs.map PyData.bool)).canLay0 = true := by
  simp only [PyData.canLay0]
  exact (bls_depth bs).1
theorem bls_shaped (bs : List Bool) : SeqAt.shaped (.list (bs.map PyData.bool)) = true := by
  show (PyData.canLay0 _ && decide (PyData.depth _ ≤ 64)) = true
  rw [Bool.and_eq_true]
  exact ⟨bls_lay bs, decide_eq_true (by have := (bls_depth bs).2; simp only [PyData.depth]; omega)⟩
/-- two lists of truths, != -/
theorem rd_ne_bls {K : PySem.W.Frag} {H : Hp} {Q : VK} {a b : Addr} {xs ys : List Bool} (ha : H a = some (.lst (xs.map V.bl))) (hb : H b = some (.lst (ys.map V.bl))) (e : xs = ys) (q : Q (.bl false) H) : rNeD K (.ref a) (.ref b) H Q := by
  subst e
  refine ⟨.list (xs.map PyData.bool), .list (xs.map PyData.bool), .lst (.inl (.inl ha)) (dp_bls xs), .lst (.inl (.inl hb)) (dp_bls xs), bls_shaped xs, bls_shaped xs, ?_⟩
  rw [SeqAt.eqv_refl _ (bls_lay xs)]
  exact q
section
variable {P : Program} {w : World} {K : PySem.W.Frag} {mg : Str → Option Value} {base : Heap} {f : Addr} {cdv : Value} {A : Around} {outer : List Env} {s0 : Shared} {H0 : Hp} {E0' : XK}
abbrev XL (P : Program) (w : World) (K : PySem.W.Frag) (mg : Str → Option Value) (base : Heap) (f : Addr) (cdv : Value) (A : Around) (outer : List Env) (s0 : Shared) (H0 : Hp) (E0' : XK) : Cx := (cxOf CX0 P w K mg base NL "law" (defScope sLaw) f cdv A outer s0 H0 E0').nox
/-- the six papers of a turn -/
structure Six (L : LT P w K mg base) (H : Hp) (pl p0 p1 p2 p3 p4 p5 : Addr) (t n : PyData) : Prop where
  l : H pl = some (.lst [.ref p0, .ref p1, .ref p2, .ref p3, .ref p4, .ref p5])
  h0 : PapAt K H p0 L.CP "one" [t, .int 7]
  h1 : PapAt K H p1 L.CP "one" [n, .int 7]
  h2 : PapAt K H p2 L.CP "two" [t, .int 7]
  h3 : PapAt K H p3 L.CD "one" [t, .int 7]
  h4 : PapAt K H p4 L.CP "one" [t]
  h5 : PapAt K H p5 L.CD "one" [n, .int 7]
theorem Six.ext {L : LT P w K mg base} {H H' : Hp} {pl p0 p1 p2 p3 p4 p5 : Addr} {t n : PyData} (h : Six L H pl p0 p1 p2 p3 p4 p5 t n) (e : Ext H H') : Six L H' pl p0 p1 p2 p3 p4 p5 t n :=
  ⟨e _ _ h.l, h.h0.ext e, h.h1.ext e, h.h2.ext e, h.h3.ext e, h.h4.ext e, h.h5.ext e⟩
theorem chunk3 (L : LT P w K mg base) (hr : Room 60 (A.deeper (envOfC "law" (defScope sLaw) s0.heap.objs.size f cdv))) (hg : (A.deeper (envOfC "law" (defScope sLaw) s0.heap.objs.size f cdv)).guards = some []) (hu : (A.deeper (envOfC "law" (defScope sLaw) s0.heap.objs.size f cdv)).units + 64 < cLine) :
    ∃ t, PSs (XL P w K mg base f cdv A outer s0 H0 E0') (turnBody.drop 8) t ∧ ∀ (D : Ends) (H : Hp) (pl p0 p1 p2 p3 p4 p5 : Addr) (d n : PyData) (v1 : V) (a0 a1 a2 a4 a5 a6 a7 a8 a9 a10 a13 a14 a15 a16 a17 a18 a19 : Option V),
      Dr 2 d → Dr 2 n → Dp K H v1 d → Six L H pl p0 p1 p2 p3 p4 p5 (tupd d) (tupd n) →
      (∀ H', Ext H H' → D.nx [a0, a1, a2, some v1, a4, a5, a6, a7, a8, a9, a10, some (.ref pl), some (.bl (decide ((tupd d).shown = (tupd n).shown))), a13, a14, a15, a16, a17, a18, a19] H') →
      t D [a0, a1, a2, some v1, a4, a5, a6, a7, a8, a9, a10, some (.ref pl), some (.bl (decide ((tupd d).shown = (tupd n).shown))), a13, a14, a15, a16, a17, a18, a19] H := by
  have hr1 : Room 1 (A.deeper (envOfC "law" (defScope sLaw) s0.heap.objs.size f cdv)) := hr.mono (by decide)
  have hr2 : Room 2 (A.deeper (envOfC "law" (defScope sLaw) s0.heap.objs.size f cdv)) := hr.mono (by decide)
  have hr3 : Room 3 (A.deeper (envOfC "law" (defScope sLaw) s0.heap.objs.size f cdv)) := hr.mono (by decide)
  have hr5 : Room 5 (A.deeper (envOfC "law" (defScope sLaw) s0.heap.objs.size f cdv)) := hr.mono (by decide)
  have hr51 : Room 51 (A.deeper (envOfC "law" (defScope sLaw) s0.heap.objs.size f cdv)) := hr.mono (by decide)
  have hr53 : Room 53 (A.deeper (envOfC "law" (defScope sLaw) s0.heap.objs.size f cdv)) := hr.mono (by decide)
  have hr54 : Room 54 (A.deeper (envOfC "law" (defScope sLaw) s0.heap.objs.size f cdv)) := hr.mono (by decide)
  refine ⟨_, (pss_cons (ps_if (PW.pt (pw_or (pt_cmpR op_ne (pe_cmpR (op_eqP L.okEq L.bEq L.isEq hr53) (pe_ix (r := rIxL K) ix_list (pv 11) pe_int (fun _ _ => rfl)) (pe_ix (r := rIxL K) ix_list (pv 11) pe_int (fun _ _ => rfl)) (nomark _)) (pv 12) (nomark _)) (pw_or (pt_cmpR op_eq (pe_cmpR (op_neP L.okEq L.bEq L.isEq hr54) (pe_ix (r := rIxL K) ix_list (pv 11) pe_int (fun _ _ => rfl)) (pe_ix (r := rIxL K) ix_list (pv 11) pe_int (fun _ _ => rfl)) (nomark _)) (pv 12) (nomark _)) (pw_or1 (pt_cmpR op_ne (pe_cmpR (op_eqP L.okEq L.bEq L.isEq hr53) (pe_ix (r := rIxL K) ix_list (pv 11) pe_int (fun _ _ => rfl)) (pe_ix (r := rIxL K) ix_list (pv 11) pe_int (fun _ _ => rfl)) (nomark _)) (pv 12) (nomark _)))))) (pss_one (ps_ret pe_bl)) pss_nil)
      (pss_cons (ps_if (PW.pt (pw_or (pt_cmpR (op_neD hu) (pe_lc (own := [("paper", 19)]) (g := gName 19) (tt := tYes) rfl scL.nd (pi_list (pe_slice sl_list (pv 11) (po_some pe_int) (po_some pe_int))) (blkOk_by (N := NL) (sc := defScope sLaw) (by decide +kernel)) (fun _ _ _ _ _ => pg_name (i := 19) scL.nd rfl (Or.inl rfl)) (fun _ _ _ _ _ => pts_nil) (fun _ _ _ _ _ => pe_cmpR (r := rEqP K L.CP L.fEq) (op_eqP L.okEq L.bEq L.isEq hr53) (pe_ix (r := rIxL K) ix_list (pv 11) pe_int (fun _ _ => rfl)) (pv 19) (nomark _))) (pe_op op_rep (pe_lst (pa_cons pe_bl pa_nil)) pe_int) (nomark _)) (pw_or (pt_cmpR (op_eqP L.okEq L.bEq L.isEq hr53) (pe_ix (r := rIxL K) ix_list (pv 11) pe_int (fun _ _ => rfl)) (pe_fld (pe_ix (r := rIxL K) ix_list (pv 11) pe_int (fun _ _ => rfl)) rfl) (nomark _)) (pw_or1 (pt_cmpR (op_eqP L.okEq L.bEq L.isEq hr53) (pe_ix (r := rIxL K) ix_list (pv 11) pe_int (fun _ _ => rfl)) pe_non (nomark _)))))) (pss_one (ps_ret pe_bl)) pss_nil)
      (pss_cons (ps_if (PW.pt (pw_or (pt_cmpR op_ne (pe_fld (pe_ix (r := rIxL K) ix_list (pv 11) pe_int (fun _ _ => rfl)) rfl) pe_str (nomark _)) (pw_or (pt_cmpR op_ne (pe_callB (call_repr hg hu) (by rfl) L.T.repr (by decide +kernel) (pa_cons (pe_fld (pe_ix (r := rIxL K) ix_list (pv 11) pe_int (fun _ _ => rfl)) rfl) pa_nil)) (pe_callB (call_repr hg hu) (by rfl) L.T.repr (by decide +kernel) (pa_cons (pe_tup (pa_cons (pe_call L.okTup hr51 (by rfl) L.gTup L.kpTup L.bTup .nil pass0 (pa_cons (pv 3) pa_nil)) (pa_cons pe_int pa_nil))) pa_nil)) (nomark _)) (pw_or1 (pt_cmpR (op_neD hu) (pe_lc (own := [("paper", 19)]) (g := gName 19) (tt := tYes) rfl scL.nd (pi_list (pv 11)) (blkOk_by (N := NL) (sc := defScope sLaw) (by decide +kernel)) (fun _ _ _ _ _ => pg_name (i := 19) scL.nd rfl (Or.inl rfl)) (fun _ _ _ _ _ => pts_nil) (fun _ _ _ _ _ => pe_callTy (r := rBoolP P w K mg base) (call_boolP hr3) (by rfl) L.T.bool (by decide +kernel) (pa_cons (pv 19) pa_nil))) (pe_op op_cat (pe_op op_rep (pe_lst (pa_cons pe_bl pa_nil)) pe_int) (pe_lst (pa_cons pe_bl (pa_cons pe_bl (pa_cons pe_bl pa_nil))))) (nomark _)))))) (pss_one (ps_ret pe_bl)) pss_nil)
      (pss_one (ps_if (PW.pt (pw_or (pt_not (pt_val (pe_callB call_isi (by rfl) L.T.isi (by decide +kernel) (pa_cons (pe_ix (r := rIxL K) ix_list (pv 11) pe_int (fun _ _ => rfl)) (pa_cons (pe_glob (v := .ref L.CP) rfl L.gP rfl) pa_nil))))) (pw_or1 (pt_val (pe_callB call_isi (by rfl) L.T.isi (by decide +kernel) (pa_cons (pe_ix (r := rIxL K) ix_list (pv 11) pe_int (fun _ _ => rfl)) (pa_cons (pe_glob (v := .ref L.CD) rfl L.gD rfl) pa_nil))))))) (pss_one (ps_ret pe_bl)) pss_nil))))), ?_⟩
  intro D H pl p0 p1 p2 p3 p4 p5 d n v1 a0 a1 a2 a4 a5 a6 a7 a8 a9 a10 a13 a14 a15 a16 a17 a18 a19 hd hn hv S k
  have ht := hd.tup_of
  have hn' := hn.tup_of
  generalize hdt : tupd d = t at *
  generalize tupd n = n' at *
  have hq : ∀ nm : Str, papEq nm nm "one" "one" [t, .int 7] [n', .int 7] = decide (t.shown = n'.shown) := fun nm => papEq_same ht hn'
  generalize decide (t.shown = n'.shown) = b at *
  -- the first test
  refine ix0 0 rfl S.l rfl ?_
  refine ix0 1 rfl S.l rfl ?_
  refine ⟨p0, L.CP, "Paper", "one", [t, .int 7], rfl, L.nmP, S.h0, L.eqP, .inr (.inl ⟨p1, "one", [n', .int 7], rfl, S.h1, fun H1 e1 => ?_⟩)⟩
  refine ⟨_, rfl, rfl, _, rfl, ?_⟩
  refine iteNS (by rw [hq]) ?_
  have S1 := S.ext e1
  refine ix0 0 rfl S1.l rfl ?_
  refine ix0 1 rfl S1.l rfl ?_
  refine ⟨p0, L.CP, "Paper", "one", [t, .int 7], rfl, L.nmP, S1.h0, L.eqP, p1, "one", [n', .int 7], rfl, S1.h1, fun H2 e2 => ?_⟩
  refine ⟨_, rfl, rfl, _, rfl, ?_⟩
  refine ifNot (by rw [hq]; cases b <;> exact fun z => by cases z) ?_
  have S2 := S1.ext e2
  refine ix0 3 rfl S2.l rfl ?_
  refine ix0 5 rfl S2.l rfl ?_
  refine ⟨p3, L.CD, "Denial", "one", [t, .int 7], rfl, L.nmD, S2.h3, L.eqD, .inr (.inl ⟨p5, "one", [n', .int 7], rfl, S2.h5, fun H3 e3 => ?_⟩)⟩
  refine ⟨_, rfl, rfl, _, rfl, ?_⟩
  refine iteNS (by rw [hq]) ?_
  have S3 := S2.ext e3
  -- the second test
  refine ⟨_, rfl, _, rfl, _, rfl, pl, _, rfl, .inl (.inl S3.l), fun q hq3 => ?_⟩
  have ec : cutV [V.ref p0, .ref p1, .ref p2, .ref p3, .ref p4, .ref p5] (some 2) (some 5) = [.ref p2, .ref p3, .ref p4] := rfl
  rw [ec]
  refine ⟨q, rfl, ⟨_, .inl (.inl upd_same)⟩, fun D1 hD1 => ?_⟩
  generalize eH4 : upd H3 q (.lst [.ref p2, .ref p3, .ref p4]) = H4 at hD1 ⊢
  have x4 : Ext H3 H4 := by rw [← eH4]; exact Ext.upd hq3
  have hq4 : H4 q = some (.lst [.ref p2, .ref p3, .ref p4]) := by rw [← eH4]; exact upd_same
  refine lc_list (K := K) (a := q) (xs := [.ref p2, .ref p3, .ref p4]) (fun i H' => Ext H4 H' ∧ H' D1 = some (.lst ((List.replicate i false).map V.bl))) ⟨Ext.upd hD1, upd_same⟩ (fun i H' _ p => .inl (.inl (p.1 _ _ hq4))) ?_ ?_
  · rintro i x H' hi ⟨x5, hD⟩
    have S5 := (S3.ext x4).ext x5
    have fin : ∀ H6, Ext H' H6 → ∃ acc, H6 D1 = some (.lst acc) ∧ acc.length < sizeLine ∧ Ext H4 (upd H6 D1 (.lst (acc ++ [V.bl false]))) ∧ upd H6 D1 (.lst (acc ++ [V.bl false])) D1 = some (.lst ((List.replicate (i + 1) false).map V.bl)) := by
      intro H6 x6
      have hi3 : i < 3 := by
        have := (List.getElem?_eq_some_iff.mp hi).1
        simpa using this
      refine ⟨_, x6 _ _ hD, ?_, fun c o e => ?_, ?_⟩
      · rw [List.length_map, List.length_replicate, sizeLine_eq]
        omega
      · rw [upd_ne (ne_of_none e hD1)]
        exact x6 _ _ (x5 _ _ e)
      · rw [upd_same, List.replicate_succ', List.map_append]
        rfl
    refine ⟨rfl, ?_⟩
    refine ix0 0 rfl S5.l rfl ?_
    match i, hi with
    | 0, hi =>
      cases hi
      refine ⟨_, rfl, p0, L.CP, "Paper", "one", [t, .int 7], rfl, L.nmP, S5.h0, L.eqP, .inr (.inl ⟨p2, "two", [t, .int 7], rfl, S5.h2, fun H6 x6 => ?_⟩)⟩
      rw [papEq_word]
      exact fin H6 x6
    | 1, hi =>
      cases hi
      refine ⟨_, rfl, p0, L.CP, "Paper", "one", [t, .int 7], rfl, L.nmP, S5.h0, L.eqP, .inr (.inr ⟨p3, L.CD, "Denial", "one", [t, .int 7], rfl, L.nmD, S5.h3, L.dne, L.subD, L.eqD, by decide +kernel, fun H6 x6 => ?_⟩)⟩
      exact fin H6 x6
    | 2, hi =>
      cases hi
      refine ⟨_, rfl, p0, L.CP, "Paper", "one", [t, .int 7], rfl, L.nmP, S5.h0, L.eqP, .inr (.inl ⟨p4, "one", [t], rfl, S5.h4, fun H6 x6 => ?_⟩)⟩
      rw [papEq_len]
      exact fin H6 x6
    | i + 3, hi => simp at hi
  rintro H5 ⟨x5, hD⟩
  have S5 := (S3.ext x4).ext x5
  refine ⟨by show 1 ≤ sizeLine; rw [sizeLine_eq]; omega, fun l hl => ?_⟩
  refine ⟨l, _, _, rfl, rfl, upd_same, by decide, by decide, by show 1 * 3 ≤ sizeLine; rw [sizeLine_eq]; omega, fun l2 hl2 => ?_⟩
  refine rd_ne_bls (xs := List.replicate 3 false) (ys := List.replicate 3 false) ?_ ?_ rfl ?_
  · rw [upd_ne (ne_of_none (by rw [upd_ne (ne_of_none hD hl)]; exact hD) hl2), upd_ne (ne_of_none hD hl)]
    exact hD
  · rw [upd_same]
    rfl
  refine ⟨_, rfl, iteF ?_⟩
  have x6 : Ext H5 (upd (upd H5 l (.lst [V.bl false])) l2 (.lst (List.replicate (3 : Int).toNat [V.bl false]).flatten)) := (Ext.upd hl).upd' hl2
  generalize upd (upd H5 l (.lst [V.bl false])) l2 (.lst (List.replicate (3 : Int).toNat [V.bl false]).flatten) = H6 at x6 ⊢
  have S6 := S5.ext x6
  obtain ⟨dx, tv, more, g1, g2, g3, g4⟩ := id S6.h0
  refine ix0 0 rfl S6.l rfl ?_
  refine ix0 0 rfl S6.l rfl ⟨p0, L.CP, dx, _, tv, rfl, g1, L.nmP.cl, L.nmP.nP, look_parts2, ?_⟩
  refine ⟨p0, L.CP, "Paper", "one", [t, .int 7], rfl, L.nmP, S6.h0, L.eqP, .inl ⟨_, g2, L.kTup, L.nTup, ?_⟩⟩
  refine ⟨_, rfl, iteF ?_⟩
  refine ix0 0 rfl S6.l rfl ?_
  refine ⟨p0, L.CP, "Paper", "one", [t, .int 7], rfl, L.nmP, S6.h0, L.eqP, .inl ⟨.none, .non, L.kNon, L.nNon, ?_⟩⟩
  refine ⟨_, rfl, iteF ?_⟩
  -- the third test
  refine ix0 0 rfl S6.l rfl ⟨p0, L.CP, dx, _, .str "one", rfl, g1, L.nmP.cl, L.nmP.nW, look_word, ?_⟩
  refine ⟨rfl, _, rfl, ?_⟩
  refine iteNS rfl ?_
  have ft : Fine 50 90000 (.tuple [t, .int 7]) := g3
  refine ix0 0 rfl S6.l rfl ⟨p0, L.CP, dx, _, tv, rfl, g1, L.nmP.cl, L.nmP.nP, look_parts2, ?_⟩
  refine ⟨tv, _, rfl, g2, ft.mono (by omega) (by omega), ?_⟩
  have hv6 : Dp K H6 v1 d := dp_ext (e1.trans (e2.trans (e3.trans (x4.trans (x5.trans x6))))) hv
  refine ⟨_, rfl, ?_⟩
  refine ⟨v1, d, rfl, hv6, hd.fine.mono (by omega) (by decide), fun v7 H7 x7 n7 => ?_⟩
  refine ⟨by show 2 ≤ sizeLine; rw [sizeLine_eq]; omega, fun l7 hl7 => ?_⟩
  have x8 : Ext H7 (upd H7 l7 (.tup [v7, .int 7])) := Ext.upd hl7
  refine ⟨.ref l7, .tuple [t, .int 7], rfl, .tup (.inl (.inl upd_same)) (.cons (dp_ext x8 (hdt ▸ n7.dp)) (.cons (.int 7) .nil)), ft.mono (by omega) (by omega), ?_⟩
  refine ⟨rfl, _, rfl, iteNS rfl ?_⟩
  generalize upd H7 l7 (.tup [v7, .int 7]) = H8 at x8 ⊢
  have S8 := (S6.ext x7).ext x8
  refine ⟨_, rfl, pl, rfl, ⟨_, .inl (.inl S8.l)⟩, fun D2 hD2 => ?_⟩
  refine lc_list (K := K) (a := pl) (xs := [.ref p0, .ref p1, .ref p2, .ref p3, .ref p4, .ref p5]) (fun i H' => Ext H8 H' ∧ H' D2 = some (.lst (([true, true, true, false, true, false].take i).map V.bl))) ⟨Ext.upd hD2, upd_same⟩ (fun i H' _ p => .inl (.inl (p.1 _ _ S8.l))) ?_ ?_
  · rintro i x H' hi ⟨x9, hD⟩
    have S9 := S8.ext x9
    have hi6 : i < 6 := by
      have := (List.getElem?_eq_some_iff.mp hi).1
      simpa using this
    have fin : ∀ k : Bool, [true, true, true, false, true, false][i]? = some k → ∃ acc, H' D2 = some (.lst acc) ∧ acc.length < sizeLine ∧ Ext H8 (upd H' D2 (.lst (acc ++ [V.bl k]))) ∧ upd H' D2 (.lst (acc ++ [V.bl k])) D2 = some (.lst (([true, true, true, false, true, false].take (i + 1)).map V.bl)) := by
      intro k hk
      refine ⟨_, hD, ?_, fun c o e => ?_, ?_⟩
      · rw [List.length_map, List.length_take, sizeLine_eq]
        omega
      · rw [upd_ne (ne_of_none e hD2)]
        exact x9 _ _ e
      · rw [upd_same, List.take_add_one, hk, List.map_append]
        rfl
    have one : ∀ (a C fb : Addr) (ww : Str) (ds : List PyData) (k : Bool), x = .ref a → PapAt K H' a C ww ds → BoolOwn P w K mg base C fb k → [true, true, true, false, true, false][i]? = some k → _ := fun a C fb ww ds k ex hp hb hk => (by
      obtain ⟨dy, ty, my, q1, _⟩ := hp
      exact ⟨_, rfl, a, C, dy, fb, _, k, by rw [ex], q1, hb, fin k hk⟩ : tCB (rBoolP P w K mg base) (tCons (tVar 19) tNil) [a0, a1, a2, some v1, a4, a5, a6, a7, a8, a9, a10, some (.ref pl), some (.bl b), a13, a14, a15, a16, a17, a18, some x] H' fun y H4 => ∃ acc, H4 D2 = some (.lst acc) ∧ acc.length < sizeLine ∧ Ext H8 (upd H4 D2 (.lst (acc ++ [y]))) ∧ upd H4 D2 (.lst (acc ++ [y])) D2 = some (.lst (([true, true, true, false, true, false].take (i + 1)).map V.bl)))
    refine ⟨rfl, ?_⟩
    match i, hi, one with
    | 0, hi, one => cases hi; exact one p0 _ _ _ _ true rfl S9.h0 L.boP rfl
    | 1, hi, one => cases hi; exact one p1 _ _ _ _ true rfl S9.h1 L.boP rfl
    | 2, hi, one => cases hi; exact one p2 _ _ _ _ true rfl S9.h2 L.boP rfl
    | 3, hi, one => cases hi; exact one p3 _ _ _ _ false rfl S9.h3 L.boD rfl
    | 4, hi, one => cases hi; exact one p4 _ _ _ _ true rfl S9.h4 L.boP rfl
    | 5, hi, one => cases hi; exact one p5 _ _ _ _ false rfl S9.h5 L.boD rfl
    | i + 6, hi, one => simp at hi
  rintro H9 ⟨x9, hD⟩
  refine ⟨by show 1 ≤ sizeLine; rw [sizeLine_eq]; omega, fun l9 hl9 => ?_⟩
  refine ⟨l9, _, _, rfl, rfl, upd_same, by decide, by decide, by show 1 * 3 ≤ sizeLine; rw [sizeLine_eq]; omega, fun m9 hm9 => ?_⟩
  refine ⟨by show 3 ≤ sizeLine; rw [sizeLine_eq]; omega, fun q9 hq9 => ?_⟩
  refine ⟨m9, q9, _, _, rfl, rfl, by rw [upd_ne (ne_of_none upd_same hq9), upd_same], upd_same, by show 3 + 3 ≤ sizeLine; rw [sizeLine_eq]; omega, fun r9 hr9 => ?_⟩
  have y1 : Ext H9 (upd (upd (upd H9 l9 (.lst [V.bl true])) m9 (.lst (List.replicate (3 : Int).toNat [V.bl true]).flatten)) q9 (.lst [.bl false, .bl true, .bl false])) := ((Ext.upd hl9).upd' hm9).upd' hq9
  have y2 := y1.upd' (o := .lst ((List.replicate (3 : Int).toNat [V.bl true]).flatten ++ [.bl false, .bl true, .bl false])) hr9
  refine rd_ne_bls (xs := [true, true, true, false, true, false]) (ys := [true, true, true, false, true, false]) (y2 _ _ hD) upd_same rfl ?_
  refine ⟨_, rfl, iteF ?_⟩
  have S10 := (S8.ext x9).ext y2
  have z10 : Ext H (upd (upd (upd (upd H9 l9 (.lst [V.bl true])) m9 (.lst (List.replicate (3 : Int).toNat [V.bl true]).flatten)) q9 (.lst [.bl false, .bl true, .bl false])) r9 (.lst ((List.replicate (3 : Int).toNat [V.bl true]).flatten ++ [.bl false, .bl true, .bl false]))) := e1.trans (e2.trans (e3.trans (x4.trans (x5.trans (x6.trans (x7.trans (x8.trans (x9.trans y2))))))))
  generalize upd (upd (upd (upd H9 l9 (.lst [V.bl true])) m9 (.lst (List.replicate (3 : Int).toNat [V.bl true]).flatten)) q9 (.lst [.bl false, .bl true, .bl false])) r9 (.lst ((List.replicate (3 : Int).toNat [V.bl true]).flatten ++ [.bl false, .bl true, .bl false])) = H10 at S10 z10 ⊢
  -- the fourth test
  refine ix0 3 rfl S10.l rfl ?_
  refine ⟨.ref p3, .ref L.CP, _, _, true, rfl, .own _, pap_ty L.nmD S10.h3, L.nmD.isP, ?_⟩
  refine ⟨_, rfl, iteF ?_⟩
  refine ix0 0 rfl S10.l rfl ?_
  refine ⟨.ref p0, .ref L.CD, _, _, false, rfl, .own _, pap_ty L.nmP S10.h0, L.kPD, ?_⟩
  refine ⟨_, rfl, iteF ?_⟩
  exact k H10 z10
end
end K00
end K00C3_text
section K00C2_text
set_option Elab.async false
set_option linter.all false
set_option maxRecDepth 100000
set_option maxHeartbeats 4000000
/-! k00: the law's turn, from near on. Terms printed by mkC2.py. -/
namespace K00
open PySem PySem.Spec PyProof.Rows L2 StX

theorem ExtB.rfl' {x : Addr} {H : Hp} : ExtB x H H := fun _ _ _ e => e
/-- a datum that stands whatever happens to the pen -/
def Stb (p : Addr) (K : PySem.W.Frag) (H : Hp) (v : V) (d : PyData) : Prop := ∀ H', ExtB p H H' → Dp K H' v d
theorem Stb.dp {p : Addr} {K : PySem.W.Frag} {H : Hp} {v : V} {d : PyData} (h : Stb p K H v d) : Dp K H v d := h H ExtB.rfl'
theorem Stb.ext {p : Addr} {K : PySem.W.Frag} {H H' : Hp} {v : V} {d : PyData} (h : Stb p K H v d) (e : ExtB p H H') : Stb p K H' v d := fun H'' e' => h H'' (e.trans e')
theorem New.stb {p : Addr} {K : PySem.W.Frag} {H H' : Hp} {v : V} {d : PyData} {o : HO} (h : New K H H' v d) (hp : H p = some o) : Stb p K H' v d := fun H'' e => h H'' fun a o' h0 q => e a o' (fun z => by rw [z, hp] at h0; cases h0) q
theorem pen_ext {H H' : Hp} {p c : Addr} {ns : List Int} {t : Nat} {l : Int} (h : PenAt H p c ns t l) (e : Ext H H') : PenAt H' p c ns t l := ⟨e _ _ h.1, e _ _ h.2.1, h.2.2⟩
theorem fine_one : Fine 0 100 (.str "one") := ⟨by decide +kernel, by decide +kernel, by decide +kernel, by decide +kernel, by decide +kernel⟩
theorem fine_two : Fine 0 100 (.str "two") := ⟨by decide +kernel, by decide +kernel, by decide +kernel, by decide +kernel, by decide +kernel⟩
theorem fine_t1 {t : PyData} (h : Fine 2 912 t) : Fine 50 90000 (.tuple [t]) :=
  (fine_tuple (xs := [t]) (n := 2) (w := 912) fun x hx => by rw [List.mem_singleton.mp hx]; exact h).mono (by omega) (by show 1 * (912 + 1) ≤ 90000; decide)
/-- a paper is made of these values -/
theorem pap_made {K : PySem.W.Frag} {C x dx : Addr} {wd : Str} {xs : List V} {ds : List PyData} {H1 : Hp} {Q : VK} (T1 : PapC K C) (hx : H1 x = none) (hdx : H1 dx = none) (ha : DpAll K H1 xs ds) (hf : Fine 50 90000 (.tuple ds)) (hf2 : Fine 50 90000 (.tuple (ds.map tupd))) (hw : Fine 0 100 (.str wd))
    (k : ∀ H', Ext H1 H' → PapAt K H' x C wd (ds.map tupd) → Q (.ref x) H') : spPap K 50 (.ref x :: .str wd :: xs) (upd (upd H1 dx (.own x)) x (.ins C dx [])) (fun v H2 => v = .non ∧ Q (.ref x) H2) E0 := by
  have e1 : Ext H1 (upd (upd H1 dx (.own x)) x (.ins C dx [])) := fun b o e => by rw [upd_ne (ne_of_none e hx), upd_ne (ne_of_none e hdx)]; exact e
  refine ⟨x, C, dx, .str wd, xs, ds, rfl, T1, upd_same, dpAll_ext e1 ha, hf.mono (Nat.le_refl _) (by omega), fun t H' e hx' nw => ⟨rfl, k H' (fun b o q => e b o (ne_of_none q hx) (e1 b o q)) ⟨dx, t, [], by rw [List.append_nil]; exact hx', nw.dp, hf2, hw⟩⟩⟩
theorem gset {i : Nat} {v : V} {σ : L2.St} {H : Hp} {Q : L2.St → Hp → Prop} (h : Q (σ.set i (some v)) H) : gName i v σ H Q := h
theorem cons1 {te : TE} {ts : TA} {σ : L2.St} {H : Hp} {Q : List V → Hp → Prop} (h : te σ H fun x H1 => ts σ H1 fun xs H2 => Q (x :: xs) H2) : tCons te ts σ H Q := h
theorem seq_lst {te : TE} {ts : TA} {g : TG} {rest : TS} {D : Ends} {σ : L2.St} {H : Hp} (h : te σ H fun x H1 => ts σ H1 fun xs H2 => (x :: xs).length ≤ sizeLine ∧ ∀ p, H2 p = none → g (.ref p) σ (upd H2 p (.lst (x :: xs))) fun σ' H' => rest D σ' H') : tSeq (tAsg (tLst (tCons te ts)) g) rest D σ H := h
theorem rd_mk7 {K : PySem.W.Frag} {σ : L2.St} {H : Hp} {Q : VK} {i : Nat} {v : V} {d : PyData} {C : Addr} {wd : Str} (T1 : PapC K C) (hw : Fine 0 100 (.str wd)) (hi : σ[i]? = some (some v)) (hv : Dp K H v d) (fd : Fine 2 912 d) (ft : Fine 2 912 (tupd d))
    (k : ∀ x H', Ext H H' → PapAt K H' x C wd [tupd d, .int 7] → Q (.ref x) H') : tMakeR C (spPap K 50) E0 (tCons (tC (.str wd)) (tCons (tVar i) (tCons (tC (.int 7)) tNil))) σ H Q := by
  have m1 : [d, .int 7].map tupd = [tupd d, .int 7] := by simp [tupd]
  refine ⟨_, hi, fun x dx nx nd ne => pap_made (ds := [d, .int 7]) T1 nx nd (.cons hv (.cons (.int 7) .nil)) (fine_t7 fd) (by rw [m1]; exact fine_t7 ft) hw fun H' e q => k x H' e ?_⟩
  rw [m1] at q
  exact q
theorem rd_mk1 {K : PySem.W.Frag} {σ : L2.St} {H : Hp} {Q : VK} {i : Nat} {v : V} {d : PyData} {C : Addr} {wd : Str} (T1 : PapC K C) (hw : Fine 0 100 (.str wd)) (hi : σ[i]? = some (some v)) (hv : Dp K H v d) (fd : Fine 2 912 d) (ft : Fine 2 912 (tupd d))
    (k : ∀ x H', Ext H H' → PapAt K H' x C wd [tupd d] → Q (.ref x) H') : tMakeR C (spPap K 50) E0 (tCons (tC (.str wd)) (tCons (tVar i) tNil)) σ H Q :=
  ⟨_, hi, fun x dx nx nd ne => pap_made (ds := [d]) T1 nx nd (.cons hv .nil) (fine_t1 fd) (fine_t1 ft) hw fun H' e q => k x H' e q⟩
section
variable {P : Program} {w : World} {K : PySem.W.Frag} {mg : Str → Option Value} {base : Heap} {f : Addr} {cdv : Value} {A : Around} {outer : List Env} {s0 : Shared} {H0 : Hp} {E0' : XK}
theorem chunk2 (L : LT P w K mg base) (hr : Room 60 (A.deeper (envOfC "law" (defScope sLaw) s0.heap.objs.size f cdv))) (hg : (A.deeper (envOfC "law" (defScope sLaw) s0.heap.objs.size f cdv)).guards = some []) (hu : (A.deeper (envOfC "law" (defScope sLaw) s0.heap.objs.size f cdv)).units + 64 < cLine) :
    ∃ t, PSs (XL P w K mg base f cdv A outer s0 H0 E0') (turnBody.drop 5) t ∧ ∀ (D : Ends) (H : Hp) (p c : Addr) (ns : List Int) (tn : Nat) (left : Int) (v1 v2 : V) (d1 d2 : PyData) (a0 a2 a5 a6 a7 a8 a9 a10 a11 a12 a13 a14 a15 a16 a17 a18 a19 : Option V),
      PenAt H p c ns tn left → tn ≤ 99999 → Dr 2 d1 → Dr 2 d2 → Stb p K H v1 d1 → Stb p K H v2 d2 →
      (∀ H' t' l' b10 b11 b12, ExtB p H H' → PenAt H' p c ns t' l' → t' ≤ tn + 1 → D.nx [a0, some (.ref p), a2, some v1, some v2, a5, a6, a7, a8, a9, b10, b11, b12, a13, a14, a15, a16, a17, a18, a19] H') →
      t D [a0, some (.ref p), a2, some v1, some v2, a5, a6, a7, a8, a9, a10, a11, a12, a13, a14, a15, a16, a17, a18, a19] H := by
  have hr1 : Room 1 (A.deeper (envOfC "law" (defScope sLaw) s0.heap.objs.size f cdv)) := hr.mono (by decide)
  have hr2 : Room 2 (A.deeper (envOfC "law" (defScope sLaw) s0.heap.objs.size f cdv)) := hr.mono (by decide)
  have hr3 : Room 3 (A.deeper (envOfC "law" (defScope sLaw) s0.heap.objs.size f cdv)) := hr.mono (by decide)
  have hr5 : Room 5 (A.deeper (envOfC "law" (defScope sLaw) s0.heap.objs.size f cdv)) := hr.mono (by decide)
  have hr51 : Room 51 (A.deeper (envOfC "law" (defScope sLaw) s0.heap.objs.size f cdv)) := hr.mono (by decide)
  have hr53 : Room 53 (A.deeper (envOfC "law" (defScope sLaw) s0.heap.objs.size f cdv)) := hr.mono (by decide)
  have hr54 : Room 54 (A.deeper (envOfC "law" (defScope sLaw) s0.heap.objs.size f cdv)) := hr.mono (by decide)
  obtain ⟨t3, ht3, q3⟩ := chunk3 (P := P) (w := w) (f := f) (cdv := cdv) (A := A) (outer := outer) (s0 := s0) (H0 := H0) (E0' := E0') L hr hg hu
  refine ⟨_, (pss_cons (ps_set (i := 10) scL.nd rfl (Or.inl rfl) (pe_call L.okPick hr2 (by rfl) L.gPick L.kpPick L.bPick .nil pass0 (pa_cons (pv 1) (pa_cons (pe_lst (pa_cons (pv 3) (pa_cons (pv 4) (pa_cons (pe_call L.okTup hr51 (by rfl) L.gTup L.kpTup L.bTup .nil pass0 (pa_cons (pv 3) pa_nil)) (pa_cons (pe_ifExp (pt_val (pe_callB call_isi (by rfl) L.T.isi (by decide +kernel) (pa_cons (pv 3) (pa_cons (pe_bltn (v := .ty "bool") (by rfl) L.T.bool (by decide +kernel) rfl) pa_nil)))) (pe_callTy call_int1 (by rfl) L.T.int (by decide +kernel) (pa_cons (pv 3) pa_nil)) (pv 3)) pa_nil))))) pa_nil))))
      (pss_cons (ps_set (i := 11) scL.nd rfl (Or.inr rfl) (pe_lst (pa_cons (StX.pe_makeR L.mkP L.okI hr53 (by rfl) L.gP pass0 (pa_cons pe_str (pa_cons (pv 3) (pa_cons pe_int pa_nil)))) (pa_cons (StX.pe_makeR L.mkP L.okI hr53 (by rfl) L.gP pass0 (pa_cons pe_str (pa_cons (pv 10) (pa_cons pe_int pa_nil)))) (pa_cons (StX.pe_makeR L.mkP L.okI hr53 (by rfl) L.gP pass0 (pa_cons pe_str (pa_cons (pv 3) (pa_cons pe_int pa_nil)))) (pa_cons (StX.pe_makeR L.mkD L.okI hr53 (by rfl) L.gD pass0 (pa_cons pe_str (pa_cons (pv 3) (pa_cons pe_int pa_nil)))) (pa_cons (StX.pe_makeR L.mkP L.okI hr53 (by rfl) L.gP pass0 (pa_cons pe_str (pa_cons (pv 3) pa_nil))) (pa_cons (StX.pe_makeR L.mkD L.okI hr53 (by rfl) L.gD pass0 (pa_cons pe_str (pa_cons (pv 10) (pa_cons pe_int pa_nil)))) pa_nil))))))))
      (pss_cons (ps_set (i := 12) scL.nd rfl (Or.inl rfl) (pe_cmpR op_eq (pe_callB (call_repr hg hu) (by rfl) L.T.repr (by decide +kernel) (pa_cons (pe_call L.okTup hr51 (by rfl) L.gTup L.kpTup L.bTup .nil pass0 (pa_cons (pv 3) pa_nil)) pa_nil)) (pe_callB (call_repr hg hu) (by rfl) L.T.repr (by decide +kernel) (pa_cons (pe_call L.okTup hr51 (by rfl) L.gTup L.kpTup L.bTup .nil pass0 (pa_cons (pv 10) pa_nil)) pa_nil)) (nomark _)))
      ht3))), ?_⟩
  intro D H p c ns tn left v1 v2 d1 d2 a0 a2 a5 a6 a7 a8 a9 a10 a11 a12 a13 a14 a15 a16 a17 a18 a19 hp htn hd1 hd2 hv1 hv2 k
  -- near
  refine ⟨_, rfl, _, rfl, _, rfl, _, rfl, ?_⟩
  refine ⟨v1, d1, rfl, hv1.dp, hd1.fine.mono (by omega) (by decide), fun v3 H1 x1 n1 => ?_⟩
  have y1 : ExtB p H H1 := Ext.b x1
  have s1 := hv1.ext y1
  have s3 : Stb p K H1 v3 (tupd d1) := n1.stb hp.1
  refine isi_one s1.dp (kit_bool d1 (dp_nodict s1.dp)) ?_ _ _ (fun R q => ⟨v1, rfl, q⟩)
  refine ⟨_, rfl, ?_⟩
  refine ite2 ?c1 ?c2
  case' c1 =>
    intro hb
    obtain ⟨b, ev, ed⟩ : ∃ b, v1 = .bl b ∧ d1 = .bool b := by
      have z := s1.dp
      cases d1 with
      | bool b => cases z; exact ⟨b, rfl, rfl⟩
      | _ => cases hb
    refine ⟨v1, rfl, .inr ⟨b, by rw [ev], ?_⟩⟩
    have h4 : ∃ d4, Dr 2 d4 ∧ Stb p K H1 (.int (if b = true then 1 else 0)) d4 := ⟨.int (if b = true then 1 else 0), .at_ (by cases b <;> simp [atoms]), fun _ _ => .int _⟩
    generalize V.int (if b = true then 1 else 0) = v4 at h4 ⊢
  case' c2 =>
    intro hb
    refine ⟨v1, rfl, ?_⟩
    have h4 : ∃ d4, Dr 2 d4 ∧ Stb p K H1 v1 d4 := ⟨d1, hd1, s1⟩
  all_goals
    obtain ⟨d4, hd4, s4⟩ := h4
    refine ⟨by show 4 ≤ sizeLine; rw [sizeLine_eq]; omega, fun l hl => ?_⟩
    have hp1 := pen_ext hp x1
    refine ⟨p, c, l, ns, tn, left, _, rfl, pen_laid hp1 hl, by omega, (ne_of_none hp1.1 hl).symm, upd_same, by show 1 ≤ 4; decide, by show 4 ≤ 1000; decide, fun i x t2 l2 H2 hx e2 x2 hp2 => ?_⟩
    have y2 : ExtB p H H2 := y1.trans ((Ext.b (Ext.upd hl)).trans x2)
    have w1 := hv1.ext y2
    have w2 := hv2.ext y2
    obtain ⟨dn, hdn, sx⟩ : ∃ dn, Dr 2 dn ∧ Stb p K H2 x dn := by
      match i, hx with
      | 0, hx => cases hx; exact ⟨d1, hd1, w1⟩
      | 1, hx => cases hx; exact ⟨d2, hd2, w2⟩
      | 2, hx => cases hx; exact ⟨tupd d1, hd1.tupd, (s3.ext (Ext.b (Ext.upd hl))).ext x2⟩
      | 3, hx => cases hx; exact ⟨d4, hd4, (s4.ext (Ext.b (Ext.upd hl))).ext x2⟩
      | i + 4, hx => simp at hx
    have fo := hd1.tupd.fine
    have fn := hdn.tupd.fine
    have fo0 := hd1.fine
    have fn0 := hdn.fine
    have to : (tupd (.int 7) = .int 7) := by simp [tupd]
    have so : Dp K H2 v1 d1 := w1.dp
    have sn : Dp K H2 x dn := sx.dp
    -- the papers
    refine gset ?_
    dsimp only
    refine seq_lst ?_
    refine rd_mk7 L.nmP.toPapC fine_one rfl so fo0 fo fun x0 H3 x3 q0 => ?_
    refine cons1 ?_
    refine rd_mk7 L.nmP.toPapC fine_one rfl (dp_ext x3 sn) fn0 fn fun x1' H4 x4 q1 => ?_
    have e4 := x3.trans x4
    refine cons1 ?_
    refine rd_mk7 L.nmP.toPapC fine_two rfl (dp_ext e4 so) fo0 fo fun x2' H5 x5 q2 => ?_
    have e5 := e4.trans x5
    refine cons1 ?_
    refine rd_mk7 L.nmD.toPapC fine_one rfl (dp_ext e5 so) fo0 fo fun x3' H6 x6 q3' => ?_
    have e6 := e5.trans x6
    refine cons1 ?_
    refine rd_mk1 L.nmP.toPapC fine_one rfl (dp_ext e6 so) fo0 fo fun x4' H7 x7 q4 => ?_
    have e7 := e6.trans x7
    refine cons1 ?_
    refine rd_mk7 L.nmD.toPapC fine_one rfl (dp_ext e7 sn) fn0 fn fun x5' H8 x8 q5 => ?_
    have e8 := e7.trans x8
    refine ⟨by show 6 ≤ sizeLine; rw [sizeLine_eq]; omega, fun pl hpl => ?_⟩
    have S : Six L (upd H8 pl (.lst [.ref x0, .ref x1', .ref x2', .ref x3', .ref x4', .ref x5'])) pl x0 x1' x2' x3' x4' x5' (tupd d1) (tupd dn) := ⟨upd_same, (q0.ext (x4.trans (x5.trans (x6.trans (x7.trans x8))))).ext (Ext.upd hpl), (q1.ext (x5.trans (x6.trans (x7.trans x8)))).ext (Ext.upd hpl), (q2.ext (x6.trans (x7.trans x8))).ext (Ext.upd hpl), (q3'.ext (x7.trans x8)).ext (Ext.upd hpl), (q4.ext x8).ext (Ext.upd hpl), q5.ext (Ext.upd hpl)⟩
    have e9 : Ext H2 (upd H8 pl (.lst [.ref x0, .ref x1', .ref x2', .ref x3', .ref x4', .ref x5'])) := e8.upd' hpl
    generalize upd H8 pl (.lst [.ref x0, .ref x1', .ref x2', .ref x3', .ref x4', .ref x5']) = H9 at S e9 ⊢
    -- is_same
    refine ⟨_, rfl, v1, d1, rfl, dp_ext e9 so, fo0.mono (by omega) (by decide), fun va Ha xa na => ?_⟩
    refine ⟨va, tupd d1, rfl, na.dp, fo.mono (by omega) (by decide), ?_⟩
    refine ⟨_, rfl, x, dn, rfl, dp_ext (e9.trans xa) sn, fn0.mono (by omega) (by decide), fun vb Hb xb nb => ?_⟩
    refine ⟨vb, tupd dn, rfl, nb.dp, fn.mono (by omega) (by decide), rfl, ?_⟩
    have ec : decide (V.str (tupd d1).shown = V.str (tupd dn).shown) = decide ((tupd d1).shown = (tupd dn).shown) := by
      by_cases h : (tupd d1).shown = (tupd dn).shown
      · rw [h]; simp
      · rw [decide_eq_false h, decide_eq_false (fun z => h (V.str.inj z))]
    rw [ec]
    exact q3 D Hb pl x0 x1' x2' x3' x4' x5' d1 dn v1 _ _ _ _ _ _ _ _ _ _ _ _ _ _ _ _ _ hd1 hdn (dp_ext (e9.trans (xa.trans xb)) so) (S.ext (xa.trans xb)) fun H' xz => k H' t2 l2 _ _ _ (y2.trans (Ext.b (e9.trans (xa.trans (xb.trans xz))))) (pen_ext hp2 (e9.trans (xa.trans (xb.trans xz)))) e2
end
end K00
end K00C2_text
section K00C1_text
set_option Elab.async false
set_option linter.all false
set_option maxRecDepth 100000
set_option maxHeartbeats 4000000
/-! k00: the law's turn, from the errors' classes on. Terms printed by mkC1.py. -/
namespace K00
open PySem PySem.Spec PyProof.Rows L2 StX

section
variable {K : PySem.W.Frag} {σ : L2.St} {H : Hp} {Q : VK} {C : Addr} {i : Nat}
theorem rd_isxT {a : Addr} {fs : List (Str × V)} {b : Bool} {n : String} (hi : σ[i]? = some (some (.ref a))) (h : ErrAt H a C fs) (x : ExcC K C) (kk : PySem.W.kitOne K (.ref C) (.type n) = some b) (q : Q (.bl b) H) : tCB (rIsX K) (tCons (tVar i) (tCons (tC (.ty n)) tNil)) σ H Q := by
  obtain ⟨d, h1, h2⟩ := h
  exact ⟨_, hi, a, C, d, fs, .ty n, .type n, b, rfl, h1, h2, x, .ty n, kk, q⟩
theorem lst1 {te : TE} {ts : TA} (h : te σ H fun x H1 => ts σ H1 fun xs H2 => (x :: xs).length ≤ sizeLine ∧ ∀ p, H2 p = none → Q (.ref p) (upd H2 p (.lst (x :: xs)))) : tLst (tCons te ts) σ H Q := h
theorem seq_set {te : TE} {g : TG} {rest : TS} {D : Ends} (h : te σ H fun x H1 => g x σ H1 fun σ' H' => rest D σ' H') : tSeq (tAsg te g) rest D σ H := h
theorem op2 {r : R2} {ta tb : TE} (h : ta σ H fun x H1 => tb σ H1 fun y H2 => r x y H2 Q) : tOp r ta tb σ H Q := h
end
theorem dec_place (k i : Nat) : decide (V.int ((0 : Int) + (k : Int)) = V.int (i : Int)) = decide (i = k) := by
  by_cases h : i = k
  · rw [h]
    simp
  · rw [decide_eq_false h, decide_eq_false]
    intro z
    have := V.int.inj z
    omega
section
variable {P : Program} {w : World} {K : PySem.W.Frag} {mg : Str → Option Value} {base : Heap} {f : Addr} {cdv : Value} {A : Around} {outer : List Env} {s0 : Shared} {H0 : Hp} {E0' : XK}
/-- the eleven errors in their list -/
structure Errs (L : LT P w K mg base) (H : Hp) (sl : Addr) (es : List Addr) : Prop where
  l : H sl = some (.lst (es.map V.ref))
  n : es.length = 11
  at_ : ∀ i a, es[i]? = some a → ∃ fs, ErrAt H a (L.e i) fs
theorem Errs.ext {L : LT P w K mg base} {H H' : Hp} {sl : Addr} {es : List Addr} (h : Errs L H sl es) (e : Ext H H') : Errs L H' sl es :=
  ⟨e _ _ h.l, h.n, fun i a q => let ⟨fs, z⟩ := h.at_ i a q; ⟨fs, z.ext e⟩⟩
theorem chunk1 (L : LT P w K mg base) (hr : Room 60 (A.deeper (envOfC "law" (defScope sLaw) s0.heap.objs.size f cdv))) (hg : (A.deeper (envOfC "law" (defScope sLaw) s0.heap.objs.size f cdv)).guards = some []) (hu : (A.deeper (envOfC "law" (defScope sLaw) s0.heap.objs.size f cdv)).units + 64 < cLine) :
    ∃ t, PSs (XL P w K mg base f cdv A outer s0 H0 E0') (turnBody.drop 4) t ∧ ∀ (D : Ends) (H : Hp) (p c sl : Addr) (es : List Addr) (ns : List Int) (tn : Nat) (left : Int) (v1 v2 : V) (d1 d2 : PyData) (a0 a2 a6 a7 a8 a9 a10 a11 a12 a13 a14 a15 a16 a17 a18 a19 : Option V),
      PenAt H p c ns tn left → tn ≤ 99999 → Dr 2 d1 → Dr 2 d2 → Stb p K H v1 d1 → Stb p K H v2 d2 → Errs L H sl es →
      (∀ H' t' l' b7 b8 b9 b10 b11 b12, ExtB p H H' → PenAt H' p c ns t' l' → t' ≤ tn + 1 → D.nx [a0, some (.ref p), a2, some v1, some v2, some (.ref sl), a6, b7, b8, b9, b10, b11, b12, a13, a14, a15, a16, a17, a18, a19] H') →
      t D [a0, some (.ref p), a2, some v1, some v2, some (.ref sl), a6, a7, a8, a9, a10, a11, a12, a13, a14, a15, a16, a17, a18, a19] H := by
  have hr1 : Room 1 (A.deeper (envOfC "law" (defScope sLaw) s0.heap.objs.size f cdv)) := hr.mono (by decide)
  have hr2 : Room 2 (A.deeper (envOfC "law" (defScope sLaw) s0.heap.objs.size f cdv)) := hr.mono (by decide)
  obtain ⟨t3, ht3, q3⟩ := chunk2 (P := P) (w := w) (f := f) (cdv := cdv) (A := A) (outer := outer) (s0 := s0) (H0 := H0) (E0' := E0') L hr hg hu
  refine ⟨_, (pss_cons (ps_for PassesOwn.never rfl (pi_enum (by rfl) L.T.enum (pa_cons (pv 5) pa_nil)) (pg_tup rfl (pgs_cons (pg_name (i := 7) scL.nd rfl (Or.inr rfl)) (pgs_cons (pg_name (i := 8) scL.nd rfl (Or.inl rfl)) pgs_nil))) (pss_cons (ps_set (i := 9) scL.nd rfl (Or.inl rfl) (pe_lst (pa_cons (pe_callB call_isX (by rfl) L.T.isi (by decide +kernel) (pa_cons (pv 8) (pa_cons (pe_glob (v := .ref (L.e 0)) rfl L.g0 rfl) pa_nil))) (pa_cons (pe_callB call_isX (by rfl) L.T.isi (by decide +kernel) (pa_cons (pv 8) (pa_cons (pe_glob (v := .ref (L.e 1)) rfl L.g1 rfl) pa_nil))) (pa_cons (pe_callB call_isX (by rfl) L.T.isi (by decide +kernel) (pa_cons (pv 8) (pa_cons (pe_glob (v := .ref (L.e 2)) rfl L.g2 rfl) pa_nil))) (pa_cons (pe_callB call_isX (by rfl) L.T.isi (by decide +kernel) (pa_cons (pv 8) (pa_cons (pe_glob (v := .ref (L.e 3)) rfl L.g3 rfl) pa_nil))) (pa_cons (pe_callB call_isX (by rfl) L.T.isi (by decide +kernel) (pa_cons (pv 8) (pa_cons (pe_glob (v := .ref (L.e 4)) rfl L.g4 rfl) pa_nil))) (pa_cons (pe_callB call_isX (by rfl) L.T.isi (by decide +kernel) (pa_cons (pv 8) (pa_cons (pe_glob (v := .ref (L.e 5)) rfl L.g5 rfl) pa_nil))) pa_nil))))))))
      (pss_cons (ps_set (i := 9) scL.nd rfl (Or.inl rfl) (pe_op op_cat (pv 9) (pe_lst (pa_cons (pe_callB call_isX (by rfl) L.T.isi (by decide +kernel) (pa_cons (pv 8) (pa_cons (pe_glob (v := .ref (L.e 6)) rfl L.g6 rfl) pa_nil))) (pa_cons (pe_callB call_isX (by rfl) L.T.isi (by decide +kernel) (pa_cons (pv 8) (pa_cons (pe_glob (v := .ref (L.e 7)) rfl L.g7 rfl) pa_nil))) (pa_cons (pe_callB call_isX (by rfl) L.T.isi (by decide +kernel) (pa_cons (pv 8) (pa_cons (pe_glob (v := .ref (L.e 8)) rfl L.g8 rfl) pa_nil))) (pa_cons (pe_callB call_isX (by rfl) L.T.isi (by decide +kernel) (pa_cons (pv 8) (pa_cons (pe_glob (v := .ref (L.e 9)) rfl L.g9 rfl) pa_nil))) (pa_cons (pe_callB call_isX (by rfl) L.T.isi (by decide +kernel) (pa_cons (pv 8) (pa_cons (pe_glob (v := .ref (L.e 10)) rfl L.g10 rfl) pa_nil))) pa_nil))))))))
      (pss_one (ps_if (PW.pt (pw_or (pt_cmpR (op_neD hu) (pv 9) (pe_lc (own := [("place", 18)]) (g := gName 18) (tt := tYes) rfl scL.nd (pi_range1 (by rfl) L.T.range (pa_cons pe_int pa_nil)) (blkOk_by (N := NL) (sc := defScope sLaw) (by decide +kernel)) (fun _ _ _ _ _ => pg_name (i := 18) scL.nd rfl (Or.inl rfl)) (fun _ _ _ _ _ => pts_nil) (fun _ _ _ _ _ => pe_cmpR op_eq (pv 18) (pv 7) (nomark _))) (nomark _)) (pw_or (pt_not (pt_val (pe_callB call_isX (by rfl) L.T.isi (by decide +kernel) (pa_cons (pv 8) (pa_cons (pe_glob (v := .ref L.PE) rfl L.gPE rfl) pa_nil))))) (pw_or1 (pt_not (pt_val (pe_callB call_isX (by rfl) L.T.isi (by decide +kernel) (pa_cons (pv 8) (pa_cons (pe_bltn (v := .ty "ValueError") (by rfl) L.T.ve (by decide +kernel) rfl) pa_nil))))))))) (pss_one (ps_ret pe_bl)) pss_nil))))) ht3), ?_⟩
  intro D H p c sl es ns tn left v1 v2 d1 d2 a0 a2 a6 a7 a8 a9 a10 a11 a12 a13 a14 a15 a16 a17 a18 a19 hp htn hd1 hd2 hv1 hv2 hE k
  refine ⟨_, rfl, sl, _, rfl, .inl (.inl hE.l), ?_⟩
  refine for_it (walk_enum (K := K) (a := sl) (xs := es.map V.ref)) (fun i σ H' => Ext H H' ∧ ∃ b7 b8 b9, σ = [a0, some (.ref p), a2, some v1, some v2, some (.ref sl), a6, b7, b8, b9, a10, a11, a12, a13, a14, a15, a16, a17, a18, a19]) ⟨Ext.rfl', a7, a8, a9, rfl⟩ (fun i σ H' _ z => .inl (.inl (z.1 _ _ hE.l))) ?_ ?_
  · rintro i x σ H1 H2 hi ⟨x1, b7, b8, b9, rfl⟩ ⟨T, u, v, rfl, hT, rfl, hu', hv'⟩
    rw [List.length_map, hE.n] at hi
    obtain rfl : u = V.int (i : Nat) := (Option.some.inj hu').symm
    obtain ⟨a, ha, rfl⟩ : ∃ a, es[i]? = some a ∧ v = V.ref a := by
      have hv' : (es.map V.ref)[i]? = some v := hv'
      rw [List.getElem?_map] at hv'
      cases e : es[i]? with
      | none => rw [e] at hv'; cases hv'
      | some z => rw [e] at hv'; exact ⟨z, rfl, (Option.some.inj hv').symm⟩
    have y2 : Ext H (upd H1 T (.tup [.int (i : Nat), .ref a])) := x1.upd' hT
    refine ⟨T, _, rfl, .inl (.inl upd_same), rfl, _, _, rfl, _, _, rfl, rfl, ?_⟩
    generalize upd H1 T (.tup [.int (i : Nat), .ref a]) = H3 at y2 ⊢
    obtain ⟨fs, er⟩ := (hE.ext y2).at_ i a ha
    try dsimp only
    refine seq_set ?_
    refine lst1 ?_
    refine rd_isx rfl er (L.ec i hi) (L.kit i 0 hi (by decide)) ?_
    refine cons1 ?_
    refine rd_isx rfl er (L.ec i hi) (L.kit i 1 hi (by decide)) ?_
    refine cons1 ?_
    refine rd_isx rfl er (L.ec i hi) (L.kit i 2 hi (by decide)) ?_
    refine cons1 ?_
    refine rd_isx rfl er (L.ec i hi) (L.kit i 3 hi (by decide)) ?_
    refine cons1 ?_
    refine rd_isx rfl er (L.ec i hi) (L.kit i 4 hi (by decide)) ?_
    refine cons1 ?_
    refine rd_isx rfl er (L.ec i hi) (L.kit i 5 hi (by decide)) ?_
    refine ⟨by show 6 ≤ sizeLine; rw [sizeLine_eq]; omega, fun q1 hq1 => ?_⟩
    have er1 := er.ext (Ext.upd (o := .lst [.bl (decide (i = 0)), .bl (decide (i = 1)), .bl (decide (i = 2)), .bl (decide (i = 3)), .bl (decide (i = 4)), .bl (decide (i = 5))]) hq1)
    have y3 := y2.upd' (o := .lst [.bl (decide (i = 0)), .bl (decide (i = 1)), .bl (decide (i = 2)), .bl (decide (i = 3)), .bl (decide (i = 4)), .bl (decide (i = 5))]) hq1
    have g1 : upd H3 q1 (.lst [.bl (decide (i = 0)), .bl (decide (i = 1)), .bl (decide (i = 2)), .bl (decide (i = 3)), .bl (decide (i = 4)), .bl (decide (i = 5))]) q1 = some (.lst [.bl (decide (i = 0)), .bl (decide (i = 1)), .bl (decide (i = 2)), .bl (decide (i = 3)), .bl (decide (i = 4)), .bl (decide (i = 5))]) := upd_same
    generalize upd H3 q1 (.lst [.bl (decide (i = 0)), .bl (decide (i = 1)), .bl (decide (i = 2)), .bl (decide (i = 3)), .bl (decide (i = 4)), .bl (decide (i = 5))]) = H4 at er1 y3 g1 ⊢
    try dsimp only
    refine seq_set ?_
    refine ⟨_, rfl, ?_⟩
    refine lst1 ?_
    refine rd_isx rfl er1 (L.ec i hi) (L.kit i 6 hi (by decide)) ?_
    refine cons1 ?_
    refine rd_isx rfl er1 (L.ec i hi) (L.kit i 7 hi (by decide)) ?_
    refine cons1 ?_
    refine rd_isx rfl er1 (L.ec i hi) (L.kit i 8 hi (by decide)) ?_
    refine cons1 ?_
    refine rd_isx rfl er1 (L.ec i hi) (L.kit i 9 hi (by decide)) ?_
    refine cons1 ?_
    refine rd_isx rfl er1 (L.ec i hi) (L.kit i 10 hi (by decide)) ?_
    refine ⟨by show 5 ≤ sizeLine; rw [sizeLine_eq]; omega, fun q2 hq2 => ?_⟩
    refine ⟨q1, q2, _, _, rfl, rfl, by rw [upd_ne (ne_of_none g1 hq2)]; exact g1, upd_same, by show 6 + 5 ≤ sizeLine; rw [sizeLine_eq]; omega, fun q3 hq3 => ?_⟩
    have y4 := (y3.upd' (o := .lst [.bl (decide (i = 6)), .bl (decide (i = 7)), .bl (decide (i = 8)), .bl (decide (i = 9)), .bl (decide (i = 10))]) hq2).upd' (o := .lst (([.bl (decide (i = 0)), .bl (decide (i = 1)), .bl (decide (i = 2)), .bl (decide (i = 3)), .bl (decide (i = 4)), .bl (decide (i = 5))] : List V) ++ [.bl (decide (i = 6)), .bl (decide (i = 7)), .bl (decide (i = 8)), .bl (decide (i = 9)), .bl (decide (i = 10))])) hq3
    have er2 := (er1.ext (Ext.upd (o := .lst [.bl (decide (i = 6)), .bl (decide (i = 7)), .bl (decide (i = 8)), .bl (decide (i = 9)), .bl (decide (i = 10))]) hq2)).ext (Ext.upd (o := .lst (([.bl (decide (i = 0)), .bl (decide (i = 1)), .bl (decide (i = 2)), .bl (decide (i = 3)), .bl (decide (i = 4)), .bl (decide (i = 5))] : List V) ++ [.bl (decide (i = 6)), .bl (decide (i = 7)), .bl (decide (i = 8)), .bl (decide (i = 9)), .bl (decide (i = 10))])) hq3)
    have g3 : upd (upd H4 q2 (.lst [.bl (decide (i = 6)), .bl (decide (i = 7)), .bl (decide (i = 8)), .bl (decide (i = 9)), .bl (decide (i = 10))])) q3 (.lst (([.bl (decide (i = 0)), .bl (decide (i = 1)), .bl (decide (i = 2)), .bl (decide (i = 3)), .bl (decide (i = 4)), .bl (decide (i = 5))] : List V) ++ [.bl (decide (i = 6)), .bl (decide (i = 7)), .bl (decide (i = 8)), .bl (decide (i = 9)), .bl (decide (i = 10))])) q3 = some (.lst (([decide (i = 0), decide (i = 1), decide (i = 2), decide (i = 3), decide (i = 4), decide (i = 5), decide (i = 6), decide (i = 7), decide (i = 8), decide (i = 9), decide (i = 10)] : List Bool).map V.bl)) := upd_same
    generalize upd (upd H4 q2 (.lst [.bl (decide (i = 6)), .bl (decide (i = 7)), .bl (decide (i = 8)), .bl (decide (i = 9)), .bl (decide (i = 10))])) q3 (.lst (([.bl (decide (i = 0)), .bl (decide (i = 1)), .bl (decide (i = 2)), .bl (decide (i = 3)), .bl (decide (i = 4)), .bl (decide (i = 5))] : List V) ++ [.bl (decide (i = 6)), .bl (decide (i = 7)), .bl (decide (i = 8)), .bl (decide (i = 9)), .bl (decide (i = 10))])) = H5 at y4 er2 g3 ⊢
    try dsimp only
    refine ⟨_, rfl, 11, rfl, by decide, by decide, fun D5 hD5 => ?_⟩
    refine lc_range (lo := 0) (n := (11 : Int).toNat) (fun k H' => Ext H5 H' ∧ H' D5 = some (.lst (((List.range k).map fun j => decide (i = j)).map V.bl))) ⟨Ext.upd hD5, upd_same⟩ ?_ ?_
    · rintro k' H' hk' ⟨x6, hD'⟩
      refine ⟨rfl, _, rfl, _, rfl, rfl, _, hD', ?_, fun c o e => ?_, ?_⟩
      · rw [List.length_map, List.length_map, List.length_range, sizeLine_eq]
        have : k' < 11 := hk'
        omega
      · rw [upd_ne (ne_of_none e hD5)]
        exact x6 _ _ e
      · rw [upd_same, List.range_succ, List.map_append, List.map_append, dec_place]
        rfl
    rintro H6 ⟨x6, hD6⟩
    refine rd_ne_bls (x6 _ _ g3) hD6 rfl ?_
    refine ⟨_, rfl, iteF ?_⟩
    refine rd_isx rfl (er2.ext x6) (L.ec i hi) (L.kitP i hi) ?_
    refine ⟨_, rfl, iteF ?_⟩
    refine rd_isxT rfl (er2.ext x6) (L.ec i hi) (L.kitV i hi) ?_
    refine ⟨_, rfl, iteF ?_⟩
    exact ⟨y4.trans x6, _, _, _, rfl⟩
  · rintro σ H1 ⟨x1, b7, b8, b9, rfl⟩
    exact q3 D H1 p c ns tn left v1 v2 d1 d2 _ _ _ _ _ _ _ _ _ _ _ _ _ _ _ _ _ (pen_ext hp x1) htn hd1 hd2 (hv1.ext (Ext.b x1)) (hv2.ext (Ext.b x1)) fun H' t' l' b10 b11 b12 e z1 z2 => k H' t' l' _ _ _ b10 b11 b12 ((Ext.b x1).trans e) z1 z2
end
end K00
end K00C1_text
section K00C0_text
set_option Elab.async false
set_option linter.all false
set_option maxRecDepth 100000
set_option maxHeartbeats 4000000
/-! k00: the law's turn, its beginning. Terms printed by mkC0.py. -/
namespace K00
open PySem PySem.Spec PyProof.Rows L2 StX

theorem yes1 {te : TE} {σ : L2.St} {H : Hp} {Q : VK} {R : Hp → Prop} (h : te σ H Q) : tYes σ H fun b H3 => if b = true then te σ H3 Q else R H3 := by
  show if true = true then te σ H Q else R H
  exact iteT h
theorem cut8 (xs : List V) (h : xs.length = 11) : cutV xs none (some 8) = xs.take 8 := by
  have e : HT.sIx xs.length xs.length (some 8) = 8 := (HT.sIx_nat _ _ 8).trans (by omega)
  unfold cutV
  rw [e]
  show (xs.drop 0).take (8 - 0) = xs.take 8
  simp
theorem dp12 {K : PySem.W.Frag} {H : Hp} {v u : V} {d e : PyData} (h : Dp K H v d) (k : Dp K H u e) : DpAll K H [v, v, v, v, v, v, v, v, v, v, v, u] [d, d, d, d, d, d, d, d, d, d, d, e] :=
  .cons h (.cons h (.cons h (.cons h (.cons h (.cons h (.cons h (.cons h (.cons h (.cons h (.cons h (.cons k .nil)))))))))))
theorem fine12 {d e : PyData} (h : Fine 2 912 d) (k : Fine 2 912 e) : Fine 60 100000 (.list [d, d, d, d, d, d, d, d, d, d, d, e]) := by
  have z := fine_list (xs := [d, d, d, d, d, d, d, d, d, d, d, e]) (n := 2) (w := 912) fun x hx => by
    simp only [List.mem_cons, List.not_mem_nil, or_false] at hx
    rcases hx with rfl | rfl | rfl | rfl | rfl | rfl | rfl | rfl | rfl | rfl | rfl | rfl <;> assumption
  exact z.mono (by omega) (by show 12 * (912 + 1) ≤ 100000; decide)
section
variable {P : Program} {w : World} {K : PySem.W.Frag} {mg : Str → Option Value} {base : Heap} {f : Addr} {cdv : Value} {A : Around} {outer : List Env} {s0 : Shared} {H0 : Hp} {E0' : XK}
/-- the eleven errors, each with what it was given -/
structure ErrsV (L : LT P w K mg base) (H : Hp) (sl : Addr) (es : List Addr) (v1 v2 : V) : Prop where
  l : H sl = some (.lst (es.map V.ref))
  n : es.length = 11
  p : ∀ i a, i < 8 → es[i]? = some a → ErrAt H a (L.e i) [("part", v1)]
  w_ : ∀ i a, 8 ≤ i → i < 10 → es[i]? = some a → ErrAt H a (L.e i) [("word", v1)]
  t : ∀ a, es[10]? = some a → ErrAt H a (L.e 10) [("most", v2), ("what", v1)]
theorem ErrsV.ext {L : LT P w K mg base} {H H' : Hp} {sl : Addr} {es : List Addr} {v1 v2 : V} (h : ErrsV L H sl es v1 v2) (e : Ext H H') : ErrsV L H' sl es v1 v2 :=
  ⟨e _ _ h.l, h.n, fun i a k q => (h.p i a k q).ext e, fun i a k k2 q => (h.w_ i a k k2 q).ext e, fun a q => (h.t a q).ext e⟩
theorem ErrsV.errs {L : LT P w K mg base} {H : Hp} {sl : Addr} {es : List Addr} {v1 v2 : V} (h : ErrsV L H sl es v1 v2) : Errs L H sl es := by
  refine ⟨h.l, h.n, fun i a q => ?_⟩
  have hi : i < 11 := by
    have := (List.getElem?_eq_some_iff.mp q).1
    rw [h.n] at this
    exact this
  by_cases h1 : i < 8
  · exact ⟨_, h.p i a h1 q⟩
  · by_cases h2 : i < 10
    · exact ⟨_, h.w_ i a (by omega) h2 q⟩
    · obtain rfl : i = 10 := by omega
      exact ⟨_, h.t a q⟩
theorem errsV_mk {L : LT P w K mg base} {H : Hp} {sl a0 a1 a2 a3 a4 a5 a6 a7 a8 a9 a10 : Addr} {v1 v2 : V} (l : H sl = some (.lst [.ref a0, .ref a1, .ref a2, .ref a3, .ref a4, .ref a5, .ref a6, .ref a7, .ref a8, .ref a9, .ref a10]))
    (h0 : ErrAt H a0 (L.e 0) [("part", v1)]) (h1 : ErrAt H a1 (L.e 1) [("part", v1)]) (h2 : ErrAt H a2 (L.e 2) [("part", v1)]) (h3 : ErrAt H a3 (L.e 3) [("part", v1)]) (h4 : ErrAt H a4 (L.e 4) [("part", v1)]) (h5 : ErrAt H a5 (L.e 5) [("part", v1)]) (h6 : ErrAt H a6 (L.e 6) [("part", v1)]) (h7 : ErrAt H a7 (L.e 7) [("part", v1)])
    (h8 : ErrAt H a8 (L.e 8) [("word", v1)]) (h9 : ErrAt H a9 (L.e 9) [("word", v1)]) (h10 : ErrAt H a10 (L.e 10) [("most", v2), ("what", v1)]) : ErrsV L H sl [a0, a1, a2, a3, a4, a5, a6, a7, a8, a9, a10] v1 v2 := by
  refine ⟨l, rfl, fun i a hi q => ?_, fun i a h1' h2' q => ?_, fun a q => ?_⟩
  · match i, q with
    | 0, q => cases q; exact h0
    | 1, q => cases q; exact h1
    | 2, q => cases q; exact h2
    | 3, q => cases q; exact h3
    | 4, q => cases q; exact h4
    | 5, q => cases q; exact h5
    | 6, q => cases q; exact h6
    | 7, q => cases q; exact h7
    | i + 8, q => omega
  · match i, q with
    | 8, q => cases q; exact h8
    | 9, q => cases q; exact h9
    | i + 10, q => omega
    | 0, q => omega
    | 1, q => omega
    | 2, q => omega
    | 3, q => omega
    | 4, q => omega
    | 5, q => omega
    | 6, q => omega
    | 7, q => omega
  · cases q
    exact h10
theorem chunk0b (L : LT P w K mg base) (hr : Room 60 (A.deeper (envOfC "law" (defScope sLaw) s0.heap.objs.size f cdv))) (hg : (A.deeper (envOfC "law" (defScope sLaw) s0.heap.objs.size f cdv)).guards = some []) (hu : (A.deeper (envOfC "law" (defScope sLaw) s0.heap.objs.size f cdv)).units + 64 < cLine) :
    ∃ t, PSs (XL P w K mg base f cdv A outer s0 H0 E0') (turnBody.drop 2) t ∧ ∀ (D : Ends) (H : Hp) (p c sl : Addr) (es : List Addr) (ns : List Int) (tn : Nat) (left : Int) (v1 v2 : V) (d1 d2 : PyData) (a0 a2 a6 a7 a8 a9 a10 a11 a12 a13 a14 a15 a16 a17 a18 a19 : Option V),
      PenAt H p c ns tn left → tn ≤ 99999 → Dr 2 d1 → Dr 2 d2 → Stb p K H v1 d1 → Stb p K H v2 d2 → ErrsV L H sl es v1 v2 →
      (∀ H' t' l' b6 b7 b8 b9 b10 b11 b12, ExtB p H H' → PenAt H' p c ns t' l' → t' ≤ tn + 1 → D.nx [a0, some (.ref p), a2, some v1, some v2, some (.ref sl), b6, b7, b8, b9, b10, b11, b12, a13, a14, a15, a16, a17, a18, a19] H') →
      t D [a0, some (.ref p), a2, some v1, some v2, some (.ref sl), a6, a7, a8, a9, a10, a11, a12, a13, a14, a15, a16, a17, a18, a19] H := by
  have hr1 : Room 1 (A.deeper (envOfC "law" (defScope sLaw) s0.heap.objs.size f cdv)) := hr.mono (by decide)
  have hr2 : Room 2 (A.deeper (envOfC "law" (defScope sLaw) s0.heap.objs.size f cdv)) := hr.mono (by decide)
  have hr5 : Room 5 (A.deeper (envOfC "law" (defScope sLaw) s0.heap.objs.size f cdv)) := hr.mono (by decide)
  obtain ⟨t3, ht3, qt3⟩ := chunk1 (P := P) (w := w) (f := f) (cdv := cdv) (A := A) (outer := outer) (s0 := s0) (H0 := H0) (E0' := E0') L hr hg hu
  refine ⟨_, (pss_cons (ps_set (i := 6) scL.nd rfl (Or.inl rfl) (pe_op op_cat (pe_lc (own := [("error", 8)]) (g := gName 8) (tt := tYes) (te := tXv K "part" (tVar 8)) rfl scL.nd (pi_list (pe_slice sl_list (pv 5) po_none (po_some pe_int))) (blkOk_by (N := NL) (sc := defScope sLaw) (by decide +kernel)) (fun _ _ _ _ _ => pg_name (i := 8) scL.nd rfl (Or.inl rfl)) (fun _ _ _ _ _ => pts_nil) (fun _ _ _ _ _ => pe_xv (pv 8))) (pe_lst (pa_cons (pe_xv (pe_ix (r := rIxL K) ix_list (pv 5) pe_int (fun _ _ => rfl))) (pa_cons (pe_xv (pe_ix (r := rIxL K) ix_list (pv 5) pe_int (fun _ _ => rfl))) (pa_cons (pe_xv (pe_ix (r := rIxL K) ix_list (pv 5) pe_int (fun _ _ => rfl))) (pa_cons (pe_xv (pe_ix (r := rIxL K) ix_list (pv 5) pe_int (fun _ _ => rfl))) pa_nil)))))))
      (pss_cons (ps_if (pt_cmpR op_ne (pe_callB (call_repr hg hu) (by rfl) L.T.repr (by decide +kernel) (pa_cons (pv 6) pa_nil)) (pe_callB (call_repr hg hu) (by rfl) L.T.repr (by decide +kernel) (pa_cons (pe_op op_cat (pe_op op_rep (pe_lst (pa_cons (pv 3) pa_nil)) pe_int) (pe_lst (pa_cons (pv 4) pa_nil))) pa_nil)) (nomark _)) (pss_one (ps_ret pe_bl)) pss_nil)
      ht3)), ?_⟩
  intro D H p c sl es ns tn left v1 v2 d1 d2 a0 a2 a6 a7 a8 a9 a10 a11 a12 a13 a14 a15 a16 a17 a18 a19 hp htn hd1 hd2 hv1 hv2 hE k
  refine ⟨_, rfl, _, rfl, sl, _, rfl, .inl (.inl hE.l), fun q hq => ?_⟩
  rw [cut8 _ (by rw [List.length_map]; exact hE.n)]
  refine ⟨q, rfl, ⟨_, .inl (.inl upd_same)⟩, fun D1 hD1 => ?_⟩
  generalize eH1 : upd H q (.lst ((es.map V.ref).take 8)) = H1 at hD1 ⊢
  have x1 : Ext H H1 := by rw [← eH1]; exact Ext.upd hq
  have g1 : H1 q = some (.lst ((es.map V.ref).take 8)) := by rw [← eH1]; exact upd_same
  have hl8 : ((es.map V.ref).take 8).length = 8 := by rw [List.length_take, List.length_map, hE.n]; rfl
  refine lc_list (K := K) (a := q) (xs := (es.map V.ref).take 8) (fun i H' => Ext H1 H' ∧ H' D1 = some (.lst (List.replicate i v1))) ⟨Ext.upd hD1, upd_same⟩ (fun i H' _ z => .inl (.inl (z.1 _ _ g1))) ?_ ?_
  · rintro i x H' hi ⟨x2, hD⟩
    have hi8 : i < 8 := by
      have := (List.getElem?_eq_some_iff.mp hi).1
      rw [hl8] at this
      exact this
    obtain ⟨a, ha, rfl⟩ : ∃ a, es[i]? = some a ∧ x = V.ref a := by
      rw [List.getElem?_take_of_lt hi8, List.getElem?_map] at hi
      cases e : es[i]? with
      | none => rw [e] at hi; cases hi
      | some z => rw [e] at hi; exact ⟨z, rfl, (Option.some.inj hi).symm⟩
    have er := ((hE.ext x1).ext x2).p i a hi8 ha
    refine ⟨rfl, ?_⟩
    refine yes1 ?_
    refine rd_fld rfl er (L.xf i (by omega)) (L.nP i hi8) rfl ⟨_, hD, ?_, fun c o e => ?_, ?_⟩
    · rw [List.length_replicate, sizeLine_eq]
      omega
    · rw [upd_ne (ne_of_none e hD1)]
      exact x2 _ _ e
    · rw [upd_same, List.replicate_succ']
  rintro H2 ⟨x2, hD⟩
  rw [hl8] at hD
  have E2 := (hE.ext x1).ext x2
  have get : ∀ i, i < 11 → ∃ a, es[i]? = some a := fun i hi => ⟨_, List.getElem?_eq_getElem (by rw [hE.n]; exact hi)⟩
  have getv : ∀ i a, es[i]? = some a → (es.map V.ref)[i]? = some (V.ref a) := fun i a h => by rw [List.getElem?_map, h]; rfl
  obtain ⟨b8, h8⟩ := get 8 (by decide)
  obtain ⟨b9, h9⟩ := get 9 (by decide)
  obtain ⟨b10, h10⟩ := get 10 (by decide)
  obtain ⟨e8, q8, r8⟩ := E2.w_ 8 b8 (by decide) (by decide) h8
  obtain ⟨e9, q9, r9⟩ := E2.w_ 9 b9 (by decide) (by decide) h9
  obtain ⟨e10, q10, r10⟩ := E2.t b10 h10
  have lw : (([("most", v2), ("what", v1)] : List (Str × V))).lookup ("what" : Str) = some v1 := by
    have e : (("what" : Str) == ("most" : Str)) = false := by decide +kernel
    simp [List.lookup, e]
  refine ix0 8 rfl E2.l (getv 8 b8 h8) ⟨b8, L.e 8, e8, _, v1, rfl, q8, r8, L.xf 8 (by decide), L.nW 8 (by decide) (by decide), rfl, ?_⟩
  refine ix0 9 rfl E2.l (getv 9 b9 h9) ⟨b9, L.e 9, e9, _, v1, rfl, q9, r9, L.xf 9 (by decide), L.nW 9 (by decide) (by decide), rfl, ?_⟩
  refine ix0 10 rfl E2.l (getv 10 b10 h10) ⟨b10, L.e 10, e10, _, v1, rfl, q10, r10, L.xf 10 (by decide), L.nT1, lw, ?_⟩
  refine ix0 10 rfl E2.l (getv 10 b10 h10) ⟨b10, L.e 10, e10, _, v2, rfl, q10, r10, L.xf 10 (by decide), L.nT2, rfl, ?_⟩
  refine ⟨by show 4 ≤ sizeLine; rw [sizeLine_eq]; omega, fun l1 hl1 => ?_⟩
  refine ⟨D1, l1, _, _, rfl, rfl, by rw [upd_ne (ne_of_none hD hl1)]; exact hD, upd_same, by show 8 + 4 ≤ sizeLine; rw [sizeLine_eq]; omega, fun l2 hl2 => ?_⟩
  have x3 : Ext H2 (upd (upd H2 l1 (.lst [v1, v1, v1, v2])) l2 (.lst (List.replicate 8 v1 ++ [v1, v1, v1, v2]))) := (Ext.upd hl1).upd' hl2
  have g2 : upd (upd H2 l1 (.lst [v1, v1, v1, v2])) l2 (.lst (List.replicate 8 v1 ++ [v1, v1, v1, v2])) l2 = some (.lst [v1, v1, v1, v1, v1, v1, v1, v1, v1, v1, v1, v2]) := upd_same
  generalize upd (upd H2 l1 (.lst [v1, v1, v1, v2])) l2 (.lst (List.replicate 8 v1 ++ [v1, v1, v1, v2])) = H3 at x3 g2 ⊢
  have xx : Ext H H3 := x1.trans (x2.trans x3)
  have w1 := dp_ext xx hv1.dp
  have w2 := dp_ext xx hv2.dp
  have f1 := hd1.fine
  have f2 := hd2.fine
  try dsimp only
  refine ⟨_, rfl, .ref l2, .list [d1, d1, d1, d1, d1, d1, d1, d1, d1, d1, d1, d2], rfl, .lst (.inl (.inl g2)) (dp12 w1 w2), fine12 f1 f2, ?_⟩
  refine ⟨_, rfl, by show 1 ≤ sizeLine; rw [sizeLine_eq]; omega, fun m1 hm1 => ?_⟩
  refine ⟨m1, _, _, rfl, rfl, upd_same, by decide, by decide, by show 1 * 11 ≤ sizeLine; rw [sizeLine_eq]; omega, fun m2 hm2 => ?_⟩
  refine ⟨_, rfl, by show 1 ≤ sizeLine; rw [sizeLine_eq]; omega, fun m3 hm3 => ?_⟩
  refine ⟨m2, m3, _, _, rfl, rfl, by rw [upd_ne (ne_of_none upd_same hm3), upd_same], upd_same, by show 11 + 1 ≤ sizeLine; rw [sizeLine_eq]; omega, fun m4 hm4 => ?_⟩
  have x4 : Ext H3 (upd (upd (upd (upd H3 m1 (.lst [v1])) m2 (.lst (List.replicate (11 : Int).toNat [v1]).flatten)) m3 (.lst [v2])) m4 (.lst ((List.replicate (11 : Int).toNat [v1]).flatten ++ [v2]))) := (((Ext.upd hm1).upd' hm2).upd' hm3).upd' hm4
  have g4 : upd (upd (upd (upd H3 m1 (.lst [v1])) m2 (.lst (List.replicate (11 : Int).toNat [v1]).flatten)) m3 (.lst [v2])) m4 (.lst ((List.replicate (11 : Int).toNat [v1]).flatten ++ [v2])) m4 = some (.lst [v1, v1, v1, v1, v1, v1, v1, v1, v1, v1, v1, v2]) := upd_same
  generalize upd (upd (upd (upd H3 m1 (.lst [v1])) m2 (.lst (List.replicate (11 : Int).toNat [v1]).flatten)) m3 (.lst [v2])) m4 (.lst ((List.replicate (11 : Int).toNat [v1]).flatten ++ [v2])) = H4 at x4 g4 ⊢
  refine ⟨.ref m4, .list [d1, d1, d1, d1, d1, d1, d1, d1, d1, d1, d1, d2], rfl, .lst (.inl (.inl g4)) (dp12 (dp_ext x4 w1) (dp_ext x4 w2)), fine12 f1 f2, ?_⟩
  refine ⟨rfl, _, rfl, iteNS rfl ?_⟩
  have xy := xx.trans x4
  exact qt3 D H4 p c sl es ns tn left v1 v2 d1 d2 _ _ _ _ _ _ _ _ _ _ _ _ _ _ _ _ (pen_ext hp xy) htn hd1 hd2 (hv1.ext (Ext.b xy)) (hv2.ext (Ext.b xy)) (hE.errs.ext xy) fun H' t' l' b7 b8 b9 b10 b11 b12 e z1 z2 => k H' t' l' _ b7 b8 b9 b10 b11 b12 ((Ext.b xy).trans e) z1 z2
end
end K00
end K00C0_text
section K00C00_text
set_option Elab.async false
set_option linter.all false
set_option maxRecDepth 100000
set_option maxHeartbeats 4000000
/-! k00: the whole turn. Terms printed by mkC00.py. -/
namespace K00
open PySem PySem.Spec PyProof.Rows L2 StX

section
variable {P : Program} {w : World} {K : PySem.W.Frag} {mg : Str → Option Value} {base : Heap} {f : Addr} {cdv : Value} {A : Around} {outer : List Env} {s0 : Shared} {H0 : Hp} {E0' : XK}
theorem chunk0 (L : LT P w K mg base) (hr : Room 60 (A.deeper (envOfC "law" (defScope sLaw) s0.heap.objs.size f cdv))) (hg : (A.deeper (envOfC "law" (defScope sLaw) s0.heap.objs.size f cdv)).guards = some []) (hu : (A.deeper (envOfC "law" (defScope sLaw) s0.heap.objs.size f cdv)).units + 64 < cLine) :
    ∃ t, PSs (XL P w K mg base f cdv A outer s0 H0 E0') turnBody t ∧ ∀ (D : Ends) (H : Hp) (p c : Addr) (ns : List Int) (tn : Nat) (left : Int) (a0 a2 a3 a4 a5 a6 a7 a8 a9 a10 a11 a12 a13 a14 a15 a16 a17 a18 a19 : Option V),
      PenAt H p c ns tn left → tn ≤ 99000 →
      (∀ H' t' l' b3 b4 b5 b6 b7 b8 b9 b10 b11 b12, ExtB p H H' → PenAt H' p c ns t' l' → t' ≤ tn + 60 → D.nx [a0, some (.ref p), a2, b3, b4, b5, b6, b7, b8, b9, b10, b11, b12, a13, a14, a15, a16, a17, a18, a19] H') →
      t D [a0, some (.ref p), a2, a3, a4, a5, a6, a7, a8, a9, a10, a11, a12, a13, a14, a15, a16, a17, a18, a19] H := by
  have hr1 : Room 1 (A.deeper (envOfC "law" (defScope sLaw) s0.heap.objs.size f cdv)) := hr.mono (by decide)
  have hr2 : Room 2 (A.deeper (envOfC "law" (defScope sLaw) s0.heap.objs.size f cdv)) := hr.mono (by decide)
  have hr5 : Room 5 (A.deeper (envOfC "law" (defScope sLaw) s0.heap.objs.size f cdv)) := hr.mono (by decide)
  obtain ⟨t2, ht2, qt2⟩ := chunk0b (P := P) (w := w) (f := f) (cdv := cdv) (A := A) (outer := outer) (s0 := s0) (H0 := H0) (E0' := E0') L hr hg hu
  refine ⟨_, (pss_cons (ps_par (i := 3) (j := 4) rfl scL.nd rfl rfl (by decide) rfl rfl (pa_cons (pe_call L.okAny hr5 (by rfl) L.gAny L.kpAny L.bAny .nil pass0 (pa_cons (pv 1) (pa_cons pe_int pa_nil))) (pa_cons (pe_call L.okAny hr5 (by rfl) L.gAny L.kpAny L.bAny .nil pass0 (pa_cons (pv 1) (pa_cons pe_int pa_nil))) pa_nil)) (by rfl))
      (pss_cons (ps_if (pt_cmpR op_eq (pe_call L.okDraw hr1 (by rfl) L.gDraw L.kpDraw L.bDraw .nil pass0 (pa_cons (pv 1) (pa_cons pe_int pa_nil))) pe_int (nomark _)) (pss_cons (ps_set (i := 5) scL.nd rfl (Or.inl rfl) (pe_lst (pa_cons (pe_mkvK (L.oex 0 (by decide)) (L.okP 0 (by decide)) hr2 (L.kP 0 (by decide)) pass0 (by rfl) L.g0 (pk_cons (pv 3) pk_nil)) (pa_cons (pe_mkvK (L.oex 1 (by decide)) (L.okP 1 (by decide)) hr2 (L.kP 1 (by decide)) pass0 (by rfl) L.g1 (pk_cons (pv 3) pk_nil)) (pa_cons (pe_mkvK (L.oex 2 (by decide)) (L.okP 2 (by decide)) hr2 (L.kP 2 (by decide)) pass0 (by rfl) L.g2 (pk_cons (pv 3) pk_nil)) (pa_cons (pe_mkvK (L.oex 3 (by decide)) (L.okP 3 (by decide)) hr2 (L.kP 3 (by decide)) pass0 (by rfl) L.g3 (pk_cons (pv 3) pk_nil)) (pa_cons (pe_mkvK (L.oex 4 (by decide)) (L.okP 4 (by decide)) hr2 (L.kP 4 (by decide)) pass0 (by rfl) L.g4 (pk_cons (pv 3) pk_nil)) (pa_cons (pe_mkvK (L.oex 5 (by decide)) (L.okP 5 (by decide)) hr2 (L.kP 5 (by decide)) pass0 (by rfl) L.g5 (pk_cons (pv 3) pk_nil)) (pa_cons (pe_mkvK (L.oex 6 (by decide)) (L.okP 6 (by decide)) hr2 (L.kP 6 (by decide)) pass0 (by rfl) L.g6 (pk_cons (pv 3) pk_nil)) (pa_cons (pe_mkvK (L.oex 7 (by decide)) (L.okP 7 (by decide)) hr2 (L.kP 7 (by decide)) pass0 (by rfl) L.g7 (pk_cons (pv 3) pk_nil)) pa_nil))))))))))
      (pss_one (ps_set (i := 5) scL.nd rfl (Or.inl rfl) (pe_op op_cat (pv 5) (pe_lst (pa_cons (pe_mkvK (L.oex 8 (by decide)) (L.okW 8 (by decide) (by decide)) hr2 (L.kW 8 (by decide) (by decide)) pass0 (by rfl) L.g8 (pk_cons (pv 3) pk_nil)) (pa_cons (pe_mkvK (L.oex 9 (by decide)) (L.okW 9 (by decide) (by decide)) hr2 (L.kW 9 (by decide) (by decide)) pass0 (by rfl) L.g9 (pk_cons (pv 3) pk_nil)) (pa_cons (pe_mkvK (L.oex 10 (by decide)) L.okT hr2 L.kT pass0 (by rfl) L.g10 (pk_cons (pv 4) (pk_cons (pv 3) pk_nil))) pa_nil)))))))) (pss_one (ps_set (i := 5) scL.nd rfl (Or.inl rfl) (pe_lst (pa_cons (pe_mkv (L.oex 0 (by decide)) (L.okP 0 (by decide)) hr2 (L.bP 0 (by decide)) pass0 (by rfl) L.g0 (pa_cons (pv 3) pa_nil)) (pa_cons (pe_mkv (L.oex 1 (by decide)) (L.okP 1 (by decide)) hr2 (L.bP 1 (by decide)) pass0 (by rfl) L.g1 (pa_cons (pv 3) pa_nil)) (pa_cons (pe_mkv (L.oex 2 (by decide)) (L.okP 2 (by decide)) hr2 (L.bP 2 (by decide)) pass0 (by rfl) L.g2 (pa_cons (pv 3) pa_nil)) (pa_cons (pe_mkv (L.oex 3 (by decide)) (L.okP 3 (by decide)) hr2 (L.bP 3 (by decide)) pass0 (by rfl) L.g3 (pa_cons (pv 3) pa_nil)) (pa_cons (pe_mkv (L.oex 4 (by decide)) (L.okP 4 (by decide)) hr2 (L.bP 4 (by decide)) pass0 (by rfl) L.g4 (pa_cons (pv 3) pa_nil)) (pa_cons (pe_mkv (L.oex 5 (by decide)) (L.okP 5 (by decide)) hr2 (L.bP 5 (by decide)) pass0 (by rfl) L.g5 (pa_cons (pv 3) pa_nil)) (pa_cons (pe_mkv (L.oex 6 (by decide)) (L.okP 6 (by decide)) hr2 (L.bP 6 (by decide)) pass0 (by rfl) L.g6 (pa_cons (pv 3) pa_nil)) (pa_cons (pe_mkv (L.oex 7 (by decide)) (L.okP 7 (by decide)) hr2 (L.bP 7 (by decide)) pass0 (by rfl) L.g7 (pa_cons (pv 3) pa_nil)) (pa_cons (pe_mkv (L.oex 8 (by decide)) (L.okW 8 (by decide) (by decide)) hr2 (L.bW 8 (by decide) (by decide)) pass0 (by rfl) L.g8 (pa_cons (pv 3) pa_nil)) (pa_cons (pe_mkv (L.oex 9 (by decide)) (L.okW 9 (by decide) (by decide)) hr2 (L.bW 9 (by decide) (by decide)) pass0 (by rfl) L.g9 (pa_cons (pv 3) pa_nil)) (pa_cons (pe_mkv (L.oex 10 (by decide)) L.okT hr2 L.bT pass0 (by rfl) L.g10 (pa_cons (pv 3) (pa_cons (pv 4) pa_nil))) pa_nil)))))))))))))))
      ht2)), ?_⟩
  intro D H p c ns tn left a0 a2 a3 a4 a5 a6 a7 a8 a9 a10 a11 a12 a13 a14 a15 a16 a17 a18 a19 hp htn k
  have hc2 : cost 2 = 26 := rfl
  refine ⟨_, rfl, p, c, ns, tn, left, rfl, hp, by omega, fun v1 d1 t1 l1 H1 dr1 n1 e1 x1 hp1 => ?_⟩
  refine ⟨_, rfl, p, c, ns, t1, l1, rfl, hp1, by omega, fun v2 d2 t2' l2 H2 dr2 n2 e2 x2 hp2 => ?_⟩
  refine ⟨v1, v2, rfl, ?_⟩
  have sv1 : Stb p K H2 v1 d1 := (n1.stb hp.1).ext x2
  have sv2 : Stb p K H2 v2 d2 := n2.stb hp1.1
  refine ⟨_, rfl, p, c, ns, t2', l2, 2, rfl, hp2, by omega, by decide, by decide, fun r t3 l3 H3 r0 r1 e3 x3 hp3 => ?_⟩
  have sw1 := sv1.ext x3
  have sw2 := sv2.ext x3
  have x03 : ExtB p H H3 := x1.trans (x2.trans x3)
  have fin : ∀ (Hx : Hp) (sl : Addr) (es : List Addr), Ext H3 Hx → ErrsV L Hx sl es v1 v2 → t2 D [a0, some (.ref p), a2, some v1, some v2, some (.ref sl), a6, a7, a8, a9, a10, a11, a12, a13, a14, a15, a16, a17, a18, a19] Hx := fun Hx sl es ex hE =>
    qt2 D Hx p c sl es ns t3 l3 v1 v2 d1 d2 _ _ _ _ _ _ _ _ _ _ _ _ _ _ _ _ (pen_ext hp3 ex) (by omega) dr1 dr2 (sw1.ext (Ext.b ex)) (sw2.ext (Ext.b ex)) hE fun H' t' l' b6 b7 b8 b9 b10 b11 b12 e z1 z2 => k H' t' l' _ _ _ b6 b7 b8 b9 b10 b11 b12 (x03.trans ((Ext.b ex).trans e)) z1 (by omega)
  refine ⟨rfl, _, rfl, ?_⟩
  refine ite2 (fun hk => ?_) (fun hk => ?_)
  · try dsimp only
    refine seq_set ?_
    refine lst1 ?_
    refine rd_errK rfl fun a0' G0 x0 h0 => ?_
    refine cons1 ?_
    refine rd_errK rfl fun a1' G1 x1 h1 => ?_
    refine cons1 ?_
    refine rd_errK rfl fun a2' G2 x2 h2 => ?_
    refine cons1 ?_
    refine rd_errK rfl fun a3' G3 x3 h3 => ?_
    refine cons1 ?_
    refine rd_errK rfl fun a4' G4 x4 h4 => ?_
    refine cons1 ?_
    refine rd_errK rfl fun a5' G5 x5 h5 => ?_
    refine cons1 ?_
    refine rd_errK rfl fun a6' G6 x6 h6 => ?_
    refine cons1 ?_
    refine rd_errK rfl fun a7' G7 x7 h7 => ?_
    refine ⟨by show 8 ≤ sizeLine; rw [sizeLine_eq]; omega, fun q1 hq1 => ?_⟩
    have xq : Ext G7 (upd G7 q1 (.lst [.ref a0', .ref a1', .ref a2', .ref a3', .ref a4', .ref a5', .ref a6', .ref a7'])) := Ext.upd hq1
    have gq : upd G7 q1 (.lst [.ref a0', .ref a1', .ref a2', .ref a3', .ref a4', .ref a5', .ref a6', .ref a7']) q1 = some (.lst [.ref a0', .ref a1', .ref a2', .ref a3', .ref a4', .ref a5', .ref a6', .ref a7']) := upd_same
    generalize upd G7 q1 (.lst [.ref a0', .ref a1', .ref a2', .ref a3', .ref a4', .ref a5', .ref a6', .ref a7']) = GQ at xq gq ⊢
    try dsimp only
    refine seq_set ?_
    refine op2 ?_
    refine ⟨_, rfl, ?_⟩
    refine lst1 ?_
    refine rd_errK rfl fun a8' G8 x8 h8 => ?_
    refine cons1 ?_
    refine rd_errK rfl fun a9' G9 x9 h9 => ?_
    refine cons1 ?_
    refine rd_err2K rfl rfl fun a10' G10 x10 h10 => ?_
    refine ⟨by show 3 ≤ sizeLine; rw [sizeLine_eq]; omega, fun q2 hq2 => ?_⟩
    refine ⟨q1, q2, _, _, rfl, rfl, by rw [upd_ne (ne_of_none (x10 _ _ (x9 _ _ (x8 _ _ gq))) hq2)]; exact x10 _ _ (x9 _ _ (x8 _ _ gq)), upd_same, by show 8 + 3 ≤ sizeLine; rw [sizeLine_eq]; omega, fun q3 hq3 => ?_⟩
    have u : Ext G10 (upd (upd G10 q2 (.lst [.ref a8', .ref a9', .ref a10'])) q3 (.lst (([.ref a0', .ref a1', .ref a2', .ref a3', .ref a4', .ref a5', .ref a6', .ref a7'] : List V) ++ [.ref a8', .ref a9', .ref a10']))) := (Ext.upd hq2).upd' hq3
    have t7 := xq.trans (x8.trans (x9.trans (x10.trans u)))
    have x07 : Ext H3 G7 := x0.trans ((x1.trans (x2.trans (x3.trans (x4.trans (x5.trans (x6.trans x7)))))))
    try dsimp only
    refine fin _ q3 _ (x07.trans t7) (errsV_mk upd_same ((h0.ext (x1.trans (x2.trans (x3.trans (x4.trans (x5.trans (x6.trans x7))))))).ext t7) ((h1.ext (x2.trans (x3.trans (x4.trans (x5.trans (x6.trans x7)))))).ext t7) ((h2.ext (x3.trans (x4.trans (x5.trans (x6.trans x7))))).ext t7) ((h3.ext (x4.trans (x5.trans (x6.trans x7)))).ext t7) ((h4.ext (x5.trans (x6.trans x7))).ext t7) ((h5.ext (x6.trans x7)).ext t7) ((h6.ext x7).ext t7) ((h7.ext Ext.rfl').ext t7) (h8.ext (x9.trans (x10.trans u))) (h9.ext (x10.trans u)) (h10.ext u))
  · try dsimp only
    refine seq_set ?_
    refine lst1 ?_
    refine rd_err rfl fun a0' G0 x0 h0 => ?_
    refine cons1 ?_
    refine rd_err rfl fun a1' G1 x1 h1 => ?_
    refine cons1 ?_
    refine rd_err rfl fun a2' G2 x2 h2 => ?_
    refine cons1 ?_
    refine rd_err rfl fun a3' G3 x3 h3 => ?_
    refine cons1 ?_
    refine rd_err rfl fun a4' G4 x4 h4 => ?_
    refine cons1 ?_
    refine rd_err rfl fun a5' G5 x5 h5 => ?_
    refine cons1 ?_
    refine rd_err rfl fun a6' G6 x6 h6 => ?_
    refine cons1 ?_
    refine rd_err rfl fun a7' G7 x7 h7 => ?_
    refine cons1 ?_
    refine rd_err rfl fun a8' G8 x8 h8 => ?_
    refine cons1 ?_
    refine rd_err rfl fun a9' G9 x9 h9 => ?_
    refine cons1 ?_
    refine rd_err2 rfl rfl fun a10' G10 x10 h10 => ?_
    refine ⟨by show 11 ≤ sizeLine; rw [sizeLine_eq]; omega, fun q1 hq1 => ?_⟩
    have u : Ext G10 (upd G10 q1 (.lst [.ref a0', .ref a1', .ref a2', .ref a3', .ref a4', .ref a5', .ref a6', .ref a7', .ref a8', .ref a9', .ref a10'])) := Ext.upd hq1
    have x010 : Ext H3 G10 := x0.trans ((x1.trans (x2.trans (x3.trans (x4.trans (x5.trans (x6.trans (x7.trans (x8.trans (x9.trans x10))))))))))
    try dsimp only
    refine fin _ q1 _ (x010.trans u) (errsV_mk upd_same ((h0.ext (x1.trans (x2.trans (x3.trans (x4.trans (x5.trans (x6.trans (x7.trans (x8.trans (x9.trans x10)))))))))).ext u) ((h1.ext (x2.trans (x3.trans (x4.trans (x5.trans (x6.trans (x7.trans (x8.trans (x9.trans x10))))))))).ext u) ((h2.ext (x3.trans (x4.trans (x5.trans (x6.trans (x7.trans (x8.trans (x9.trans x10)))))))).ext u) ((h3.ext (x4.trans (x5.trans (x6.trans (x7.trans (x8.trans (x9.trans x10))))))).ext u) ((h4.ext (x5.trans (x6.trans (x7.trans (x8.trans (x9.trans x10)))))).ext u) ((h5.ext (x6.trans (x7.trans (x8.trans (x9.trans x10))))).ext u) ((h6.ext (x7.trans (x8.trans (x9.trans x10)))).ext u) ((h7.ext (x8.trans (x9.trans x10))).ext u) ((h8.ext (x9.trans x10)).ext u) ((h9.ext x10).ext u) ((h10.ext Ext.rfl').ext u))
end
end K00
end K00C00_text
section K00CT_text
set_option Elab.async false
set_option linter.all false
set_option maxRecDepth 100000
set_option maxHeartbeats 4000000
/-! k00: the law's end. Terms printed by mkCT.py. -/
namespace K00
open PySem PySem.Spec PyProof.Rows L2 StX

/-- a paper with named parts at x -/
def OwnAt (K : PySem.W.Frag) (H : Hp) (x C : Addr) (w : Str) (names : List Str) (ds : List PyData) : Prop := ∃ (dx t : Addr) (ts : List V), H x = some (.ins C dx (pf (.str w) (.ref t) ++ names.zip ts)) ∧ ts.length = names.length ∧ SqT K H t ts ∧ DpAll K H ts ds
theorem OwnAt.ext {K : PySem.W.Frag} {H H' : Hp} {x C : Addr} {w : Str} {names : List Str} {ds : List PyData} (h : OwnAt K H x C w names ds) (e : Ext H H') : OwnAt K H' x C w names ds := by
  obtain ⟨dx, t, ts, h1, h2, h3, h4⟩ := h
  exact ⟨dx, t, ts, e _ _ h1, h2, h3.ext e, dpAll_ext e h4⟩
theorem own_made {K : PySem.W.Frag} {C x dx : Addr} {wd : Str} {names : List Str} {xs : List V} {ds : List PyData} {H1 : Hp} {R : Hp → Prop} (hx : H1 x = none) (hdx : H1 dx = none) (hl : xs.length = names.length) (ha : DpAll K H1 xs ds) (hf : Fine 50 100000 (.tuple ds))
    (k : ∀ t ts H', Ext H1 H' → H' x = some (.ins C dx (pf (.str wd) (.ref t) ++ names.zip ts)) → ts.length = names.length → (∀ H'', Mk2 H1 H' H'' → SqT K H'' t ts ∧ DpAll K H'' ts (ds.map tupd)) → R H') :
    spOwn K C wd names (.ref x :: xs) (upd (upd H1 dx (.own x)) x (.ins C dx [])) (fun v H2 => v = .non ∧ R H2) E0 := by
  have e1 : Ext H1 (upd (upd H1 dx (.own x)) x (.ins C dx [])) := fun b o e => by rw [upd_ne (ne_of_none e hx), upd_ne (ne_of_none e hdx)]; exact e
  refine ⟨x, dx, xs, ds, rfl, hl, upd_same, dpAll_ext e1 ha, hf, fun t ts H' e hx' hl' hts => ⟨rfl, k t ts H' (fun b o q => e b o (ne_of_none q hx) (e1 b o q)) hx' hl' fun H'' z => hts H'' fun a o h0 h1 => z a o ?_ h1⟩⟩
  cases q0 : H1 a with
  | none => rfl
  | some o0 =>
    rw [e1 _ _ q0] at h0
    cases h0
/-- a paper made of values, its parts known to be new -/
theorem pap_new {K : PySem.W.Frag} {C x dx : Addr} {wd : Str} {xs : List V} {ds : List PyData} {H1 : Hp} {R : Hp → Prop} (T1 : PapC K C) (hx : H1 x = none) (hdx : H1 dx = none) (ha : DpAll K H1 xs ds) (hf : Fine 50 100000 (.tuple ds))
    (k : ∀ t H', Ext H1 H' → H' x = some (.ins C dx (pf (.str wd) t)) → New K H1 H' t (.tuple (ds.map tupd)) → R H') : spPap K 50 (.ref x :: .str wd :: xs) (upd (upd H1 dx (.own x)) x (.ins C dx [])) (fun v H2 => v = .non ∧ R H2) E0 := by
  have e1 : Ext H1 (upd (upd H1 dx (.own x)) x (.ins C dx [])) := fun b o e => by rw [upd_ne (ne_of_none e hx), upd_ne (ne_of_none e hdx)]; exact e
  exact ⟨x, C, dx, .str wd, xs, ds, rfl, T1, upd_same, dpAll_ext e1 ha, hf, fun t H' e hx' nw => ⟨rfl, k t H' (fun b o q => e b o (ne_of_none q hx) (e1 b o q)) hx' (nw.back e1)⟩⟩
theorem rd_ne_dp {K : PySem.W.Frag} {H : Hp} {Q : VK} {x y : V} {d : PyData} (hx : Dp K H x d) (hy : Dp K H y d) (hs : SeqAt.shaped d = true) (q : Q (.bl false) H) : rNeD K x y H Q := by
  refine ⟨d, d, hx, hy, hs, hs, ?_⟩
  rw [SeqAt.eqv_refl d (SeqAt.canLay_of_shaped hs)]
  exact q
theorem rd_eq_dp {K : PySem.W.Frag} {H : Hp} {Q : VK} {x y : V} {d : PyData} (hx : Dp K H x d) (hy : Dp K H y d) (hs : SeqAt.shaped d = true) (q : Q (.bl true) H) : rEqD K x y H Q := by
  refine ⟨d, d, hx, hy, hs, hs, ?_⟩
  rw [SeqAt.eqv_refl d (SeqAt.canLay_of_shaped hs)]
  exact q
theorem dp_tup {K : PySem.W.Frag} {H : Hp} {p : Addr} {xs : List V} {ds : List PyData} (h : H p = some (.tup xs)) (a : DpAll K H xs ds) : Dp K H (.ref p) (.tuple ds) := .tup (.inl (.inl h)) a
theorem dp_lst {K : PySem.W.Frag} {H : Hp} {p : Addr} {xs : List V} {ds : List PyData} (h : H p = some (.lst xs)) (a : DpAll K H xs ds) : Dp K H (.ref p) (.list ds) := .lst (.inl (.inl h)) a
/-- lookups behind word and parts -/
theorem look4 {w t b0 b1 b2 b3 : V} {n0 n1 n2 n3 : Str} (h : [("word" : Str), "parts", n0, n1, n2, n3].Nodup) : (pf w t ++ [n0, n1, n2, n3].zip [b0, b1, b2, b3]).lookup n3 = some b3 := by
  simp only [List.nodup_cons, List.mem_cons, not_or, List.not_mem_nil, not_false_eq_true, List.nodup_nil, and_true] at h
  obtain ⟨⟨_, _, _, _, h1⟩, ⟨_, _, _, h2⟩, ⟨_, _, h3⟩, ⟨_, h4⟩, h5⟩ := h
  simp [pf, List.lookup, beq_eq_false_iff_ne.mpr (Ne.symm h1), beq_eq_false_iff_ne.mpr (Ne.symm h2), beq_eq_false_iff_ne.mpr (Ne.symm h3), beq_eq_false_iff_ne.mpr (Ne.symm h4), beq_eq_false_iff_ne.mpr (Ne.symm h5)]
theorem look2 {w t b0 b1 : V} {n0 n1 : Str} (h : [("word" : Str), "parts", n0, n1].Nodup) : (pf w t ++ [n0, n1].zip [b0, b1]).lookup n0 = some b0 ∧ (pf w t ++ [n0, n1].zip [b0, b1]).lookup n1 = some b1 := by
  simp only [List.nodup_cons, List.mem_cons, not_or, List.not_mem_nil, not_false_eq_true, List.nodup_nil, and_true] at h
  obtain ⟨⟨_, h0, h1⟩, ⟨h2, h3⟩, h4⟩ := h
  constructor
  · simp [pf, List.lookup, beq_eq_false_iff_ne.mpr (Ne.symm h0), beq_eq_false_iff_ne.mpr (Ne.symm h2)]
  · simp [pf, List.lookup, beq_eq_false_iff_ne.mpr (Ne.symm h1), beq_eq_false_iff_ne.mpr (Ne.symm h3), beq_eq_false_iff_ne.mpr (Ne.symm h4)]
theorem fine_dec {n w : Nat} {d : PyData} (h : (d.canLay0 && (d.showable && (d.leavesShort 40 && (decide (d.depth ≤ n) && decide (d.weight ≤ w))))) = true) : Fine n w d := by
  simp only [Bool.and_eq_true, decide_eq_true_eq] at h
  exact ⟨h.1, h.2.1, h.2.2.1, h.2.2.2.1, h.2.2.2.2⟩
section
variable {P : Program} {w : World} {K : PySem.W.Frag} {mg : Str → Option Value} {base : Heap} {f : Addr} {cdv : Value} {A : Around} {outer : List Env} {s0 : Shared} {H0 : Hp} {E0' : XK}
theorem chunkT (L : LT P w K mg base) (hr : Room 60 (A.deeper (envOfC "law" (defScope sLaw) s0.heap.objs.size f cdv))) (hu : (A.deeper (envOfC "law" (defScope sLaw) s0.heap.objs.size f cdv)).units + 64 < cLine) :
    ∃ t, PSs (XL P w K mg base f cdv A outer s0 H0 E0') (lawBody.drop 2) t ∧ ∀ (D : Ends) (H : Hp) (a0 a1 a2 a3 a4 a5 a6 a7 a8 a9 a10 a11 a12 a13 a14 a15 a16 a17 a18 a19 : Option V), (∀ H', D.rt (.bl true) H') →
      t D [a0, a1, a2, a3, a4, a5, a6, a7, a8, a9, a10, a11, a12, a13, a14, a15, a16, a17, a18, a19] H := by
  have hr3 : Room 3 (A.deeper (envOfC "law" (defScope sLaw) s0.heap.objs.size f cdv)) := hr.mono (by decide)
  have hr53 : Room 53 (A.deeper (envOfC "law" (defScope sLaw) s0.heap.objs.size f cdv)) := hr.mono (by decide)
  have hr54 : Room 54 (A.deeper (envOfC "law" (defScope sLaw) s0.heap.objs.size f cdv)) := hr.mono (by decide)
  refine ⟨_, (pss_cons (ps_set (i := 13) scL.nd rfl (Or.inl rfl) (pe_lst (pa_cons (pe_lst (pa_cons pe_int (pa_cons pe_int pa_nil))) (pa_cons (pe_tup (pa_cons pe_int pa_nil)) pa_nil))))
      (pss_cons (ps_par (i := 14) (j := 6) rfl scL.nd rfl rfl (by decide) rfl rfl (pa_cons (StX.pe_makeR L.mkP L.okI hr53 (by rfl) L.gP pass0 (pa_cons pe_str (pa_cons (pv 13) pa_nil))) (pa_cons (pe_makeK0 L.mkG L.okG hr54 (by rfl) L.gG L.kG pass0 (pk_cons (pe_lst (pa_cons pe_int pa_nil)) (pk_cons pe_int (pk_cons pe_int (pk_cons pe_int pk_nil))))) pa_nil)) (by rfl))
      (pss_cons (ps_expr (pe_bm PySem.F.plainAttrs_list PySem.F.slot_list_append PySem.F.type_list_append mt_append (pe_ix (r := rIxL K) ix_list (pv 13) pe_int (fun _ _ => rfl)) (pa_cons pe_int pa_nil)))
      (pss_cons (ps_if (PW.pt (pw_or (pt_cmpR (op_neD hu) (pe_fld (pv 14) rfl) (pe_tup (pa_cons (pe_tup (pa_cons (pe_tup (pa_cons pe_int (pa_cons pe_int pa_nil))) (pa_cons (pe_tup (pa_cons pe_int pa_nil)) pa_nil))) pa_nil)) (nomark _)) (pw_or (pt_cmpR (op_neD hu) (pe_tup (pa_cons (pe_fld (pv 6) rfl) (pa_cons (pe_fld (pv 6) rfl) (pa_cons (pe_fld (pv 6) rfl) (pa_cons (pe_callTy (r := rBoolP P w K mg base) (call_boolP hr3) (by rfl) L.T.bool (by decide +kernel) (pa_cons (pv 6) pa_nil)) pa_nil))))) (pe_tup (pa_cons pe_str (pa_cons (pe_tup (pa_cons pe_int (pa_cons pe_int (pa_cons pe_int (pa_cons (pe_tup (pa_cons pe_int pa_nil)) pa_nil))))) (pa_cons (pe_tup (pa_cons pe_int pa_nil)) (pa_cons pe_bl pa_nil))))) (nomark _)) (pw_or1 (pt_cmpR (op_eqP L.okEq L.bEq L.isEq hr53) (pv 6) (pe_make L.mkG L.okG hr54 (by rfl) L.gG L.bG .nil pass0 (pa_cons pe_bl (pa_cons pe_int (pa_cons pe_int (pa_cons (pe_lst (pa_cons pe_int pa_nil)) pa_nil))))) (nomark _)))))) (pss_one (ps_ret pe_bl)) pss_nil)
      (pss_cons (ps_par (i := 15) (j := 16) rfl scL.nd rfl rfl (by decide) rfl rfl (pa_cons (pe_makeK0 L.mkS L.okS hr54 (by rfl) L.gS L.kS pass0 (pk_cons (pe_lst (pa_cons pe_int pa_nil)) (pk_cons pe_int pk_nil))) (pa_cons (pe_makeK0 L.mkF L.okF hr54 (by rfl) L.gF L.kF pass0 (pk_cons (pe_lst (pa_cons (pe_lst (pa_cons pe_int pa_nil)) pa_nil)) (pk_cons pe_int (pk_cons pe_int pk_nil)))) pa_nil)) (by rfl))
      (pss_cons (ps_if (PW.pt (pw_or (pt_cmpR (op_neD hu) (pe_tup (pa_cons (pe_fld (pv 15) rfl) (pa_cons (pe_fld (pv 15) rfl) (pa_cons (pe_callTy (r := rBoolP P w K mg base) (call_boolP hr3) (by rfl) L.T.bool (by decide +kernel) (pa_cons (pv 15) pa_nil)) pa_nil)))) (pe_tup (pa_cons pe_str (pa_cons (pe_tup (pa_cons pe_int (pa_cons (pe_tup (pa_cons pe_int pa_nil)) pa_nil))) (pa_cons pe_bl pa_nil)))) (nomark _)) (pw_or1 (pt_cmpR (op_neD hu) (pe_tup (pa_cons (pe_fld (pv 16) rfl) (pa_cons (pe_fld (pv 16) rfl) (pa_cons (pe_callTy (r := rBoolP P w K mg base) (call_boolP hr3) (by rfl) L.T.bool (by decide +kernel) (pa_cons (pv 16) pa_nil)) pa_nil)))) (pe_tup (pa_cons pe_str (pa_cons (pe_tup (pa_cons pe_int (pa_cons pe_int (pa_cons (pe_tup (pa_cons (pe_tup (pa_cons pe_int pa_nil)) pa_nil)) pa_nil)))) (pa_cons pe_bl pa_nil)))) (nomark _))))) (pss_one (ps_ret pe_bl)) pss_nil)
      (pss_cons (ps_par (i := 17) (j := 13) rfl scL.nd rfl rfl (by decide) rfl rfl (pa_cons (pe_makeK0 L.mkN L.okN hr54 (by rfl) L.gE L.kN pass0 (pk_cons (pe_lst (pa_cons pe_int pa_nil)) (pk_cons pe_int (pk_cons pe_int (pk_cons pe_int pk_nil))))) (pa_cons (pe_makeK0 L.mkK L.okK hr54 (by rfl) L.gK L.kK pass0 (pk_cons (pe_lst (pa_cons pe_int pa_nil)) (pk_cons (pe_lst (pa_cons (pe_lst (pa_cons pe_int pa_nil)) pa_nil)) pk_nil))) pa_nil)) (by rfl))
      (pss_one (ps_ret (pe_and (pe_cmpR (op_eqD hu) (pe_tup (pa_cons (pe_fld (pv 17) rfl) (pa_cons (pe_fld (pv 17) rfl) (pa_cons (pe_callTy (r := rBoolP P w K mg base) (call_boolP hr3) (by rfl) L.T.bool (by decide +kernel) (pa_cons (pv 17) pa_nil)) (pa_cons (pe_fld (pv 17) rfl) pa_nil))))) (pe_tup (pa_cons pe_str (pa_cons (pe_tup (pa_cons pe_int (pa_cons pe_int (pa_cons pe_int (pa_cons (pe_tup (pa_cons pe_int pa_nil)) pa_nil))))) (pa_cons pe_bl (pa_cons (pe_tup (pa_cons pe_int pa_nil)) pa_nil))))) (nomark _)) (pe_one (pe_cmpR (op_eqD hu) (pe_tup (pa_cons (pe_fld (pv 13) rfl) (pa_cons (pe_fld (pv 13) rfl) (pa_cons (pe_fld (pv 13) rfl) (pa_cons (pe_callTy (r := rBoolP P w K mg base) (call_boolP hr3) (by rfl) L.T.bool (by decide +kernel) (pa_cons (pv 13) pa_nil)) pa_nil))))) (pe_tup (pa_cons pe_str (pa_cons (pe_tup (pa_cons (pe_tup (pa_cons pe_int pa_nil)) pa_nil)) (pa_cons (pe_tup (pa_cons pe_int pa_nil)) (pa_cons pe_bl pa_nil))))) (nomark _))))))))))))), ?_⟩
  intro D H a0 a1 a2 a3 a4 a5 a6 a7 a8 a9 a10 a11 a12 a13 a14 a15 a16 a17 a18 a19 k
  -- box
  refine ⟨by show 2 ≤ sizeLine; rw [sizeLine_eq]; omega, fun l0 hl0 => ?_⟩
  refine ⟨by show 1 ≤ sizeLine; rw [sizeLine_eq]; omega, fun u0 hu0 => ?_⟩
  refine ⟨by show 2 ≤ sizeLine; rw [sizeLine_eq]; omega, fun bx hbx => ?_⟩
  have gl0 : upd (upd (upd H l0 (.lst [.int 1, .int 2])) u0 (.tup [.int 3])) bx (.lst [.ref l0, .ref u0]) l0 = some (.lst [.int 1, .int 2]) := by rw [upd_ne (ne_of_none (by rw [upd_ne (ne_of_none upd_same hu0)]; exact upd_same) hbx), upd_ne (ne_of_none upd_same hu0), upd_same]
  have gu0 : upd (upd (upd H l0 (.lst [.int 1, .int 2])) u0 (.tup [.int 3])) bx (.lst [.ref l0, .ref u0]) u0 = some (.tup [.int 3]) := by rw [upd_ne (ne_of_none upd_same hbx), upd_same]
  have gbx : upd (upd (upd H l0 (.lst [.int 1, .int 2])) u0 (.tup [.int 3])) bx (.lst [.ref l0, .ref u0]) bx = some (.lst [.ref l0, .ref u0]) := upd_same
  generalize upd (upd (upd H l0 (.lst [.int 1, .int 2])) u0 (.tup [.int 3])) bx (.lst [.ref l0, .ref u0]) = Hb at gl0 gu0 gbx ⊢
  -- kept, told
  refine ⟨_, rfl, fun x dx nx nd ne => pap_new (ds := [.list [.list [.int 1, .int 2], .tuple [.int 3]]]) L.nmP.toPapC nx nd (.cons (dp_lst gbx (.cons (dp_lst gl0 (.cons (.int 1) (.cons (.int 2) .nil))) (.cons (dp_tup gu0 (.cons (.int 3) .nil)) .nil))) .nil) (fine_dec (by decide +kernel)) fun t1 H1 e1 g1 n1 => ?_⟩
  refine ⟨by show 1 ≤ sizeLine; rw [sizeLine_eq]; omega, fun l4 hl4 => ?_⟩
  have gl4 : upd H1 l4 (.lst [.int 4]) l4 = some (.lst [.int 4]) := upd_same
  have e14 : Ext H1 (upd H1 l4 (.lst [.int 4])) := Ext.upd hl4
  generalize upd H1 l4 (.lst [.int 4]) = Hc at gl4 e14 ⊢
  refine ⟨rfl, rfl, fun y dy ny ndy ne2 => own_made (xs := [.int 1, .int 2, .int 3, .ref l4]) (ds := [.int 1, .int 2, .int 3, .list [.int 4]]) ny ndy rfl (.cons (.int 1) (.cons (.int 2) (.cons (.int 3) (.cons (dp_lst gl4 (.cons (.int 4) .nil)) .nil)))) (fine_dec (by decide +kernel)) fun t2 ts2 H2 e2 g2 len2 n2 => ?_⟩
  refine ⟨_, _, rfl, ?_⟩
  try dsimp only
  have eb2 : Ext Hb H2 := e1.trans (e14.trans e2)
  -- append
  refine ix0 0 rfl (eb2 _ _ gbx) rfl ⟨.inl ⟨rfl, _, .inl (.inl (eb2 _ _ gl0))⟩, l0, _, _, rfl, rfl, eb2 _ _ gl0, (by show 2 < sizeLine; rw [sizeLine_eq]; omega), ?_⟩
  have hxl : x ≠ l0 := fun z => by rw [z, gl0] at nx; cases nx
  have hyl : y ≠ l0 := fun z => by rw [z, e14 _ _ (e1 _ _ gl0)] at ny; cases ny
  have gx3 : upd H2 l0 (.lst ([.int 1, .int 2] ++ [.int 4])) x = some (.ins L.CP dx (pf (.str "box") t1)) := by rw [upd_ne hxl]; exact e2 _ _ (e14 _ _ g1)
  have gy3 : upd H2 l0 (.lst ([.int 1, .int 2] ++ [.int 4])) y = some (.ins L.CG dy (pf (.str "gear") (.ref t2) ++ (["span", "step", "gain", "bound"] : List Str).zip ts2)) := by rw [upd_ne hyl]; exact g2
  have dk := n1 (upd H2 l0 (.lst ([.int 1, .int 2] ++ [.int 4]))) fun a o h0 h1 => by
    have ha : a ≠ l0 := fun z => by rw [z, gl0] at h0; cases h0
    rw [upd_ne ha]
    exact e2 _ _ (e14 _ _ h1)
  have dg := n2 (upd H2 l0 (.lst ([.int 1, .int 2] ++ [.int 4]))) fun a o h0 h1 => by
    have ha : a ≠ l0 := fun z => by rw [z, e14 _ _ (e1 _ _ gl0)] at h0; cases h0
    rw [upd_ne ha]
    exact h1
  generalize upd H2 l0 (.lst ([.int 1, .int 2] ++ [.int 4])) = H3 at gx3 gy3 dk dg ⊢
  have mk : [PyData.list [.list [.int 1, .int 2], .tuple [.int 3]]].map tupd = [.tuple [.tuple [.int 1, .int 2], .tuple [.int 3]]] := by simp [tupd, tupdAll]
  have mg_ : [PyData.int 1, .int 2, .int 3, .list [.int 4]].map tupd = [.int 1, .int 2, .int 3, .tuple [.int 4]] := by simp [tupd, tupdAll]
  rw [mk] at dk
  rw [mg_] at dg
  obtain ⟨sg, ag⟩ := dg
  match ts2, len2, ag with
  | [b0, b1, b2, b3], _, ag =>
  have d3 : Dp K H3 b3 (.tuple [.int 4]) := by
    cases ag with
    | cons _ r => cases r with
      | cons _ r => cases r with
        | cons _ r => cases r with
          | cons z _ => exact z
  try dsimp only
  -- the first test
  refine ⟨_, rfl, x, L.CP, dx, _, t1, rfl, gx3, L.nmP.cl, L.nmP.nP, look_parts _ _, ?_⟩
  refine ⟨by show 2 ≤ sizeLine; rw [sizeLine_eq]; omega, fun p1 hp1 => ?_⟩
  refine ⟨by show 1 ≤ sizeLine; rw [sizeLine_eq]; omega, fun p2 hp2 => ?_⟩
  refine ⟨by show 2 ≤ sizeLine; rw [sizeLine_eq]; omega, fun p3 hp3 => ?_⟩
  refine ⟨by show 1 ≤ sizeLine; rw [sizeLine_eq]; omega, fun p4 hp4 => ?_⟩
  have f1 : Ext H3 (upd (upd (upd (upd H3 p1 (.tup [.int 1, .int 2])) p2 (.tup [.int 3])) p3 (.tup [.ref p1, .ref p2])) p4 (.tup [.ref p3])) := (((Ext.upd hp1).upd' hp2).upd' hp3).upd' hp4
  have w1 : upd (upd (upd (upd H3 p1 (.tup [.int 1, .int 2])) p2 (.tup [.int 3])) p3 (.tup [.ref p1, .ref p2])) p4 (.tup [.ref p3]) p1 = some (.tup [.int 1, .int 2]) := ((Ext.upd hp2).upd' hp3).upd' hp4 _ _ upd_same
  have w2 : upd (upd (upd (upd H3 p1 (.tup [.int 1, .int 2])) p2 (.tup [.int 3])) p3 (.tup [.ref p1, .ref p2])) p4 (.tup [.ref p3]) p2 = some (.tup [.int 3]) := (Ext.upd hp3).upd' hp4 _ _ upd_same
  have w3 : upd (upd (upd (upd H3 p1 (.tup [.int 1, .int 2])) p2 (.tup [.int 3])) p3 (.tup [.ref p1, .ref p2])) p4 (.tup [.ref p3]) p3 = some (.tup [.ref p1, .ref p2]) := Ext.upd hp4 _ _ upd_same
  have w4 : upd (upd (upd (upd H3 p1 (.tup [.int 1, .int 2])) p2 (.tup [.int 3])) p3 (.tup [.ref p1, .ref p2])) p4 (.tup [.ref p3]) p4 = some (.tup [.ref p3]) := upd_same
  generalize upd (upd (upd (upd H3 p1 (.tup [.int 1, .int 2])) p2 (.tup [.int 3])) p3 (.tup [.ref p1, .ref p2])) p4 (.tup [.ref p3]) = H4 at f1 w1 w2 w3 w4 ⊢
  refine rd_ne_dp (dp_ext f1 dk) (dp_tup w4 (.cons (dp_tup w3 (.cons (dp_tup w1 (.cons (.int 1) (.cons (.int 2) .nil))) (.cons (dp_tup w2 (.cons (.int 3) .nil)) .nil))) .nil)) (by decide +kernel) ?_
  refine ⟨_, rfl, iteF ?_⟩
  -- the second test
  have gy4 := f1 _ _ gy3
  have sg4 := sg.ext f1
  have ag4 := dpAll_ext f1 ag
  refine ⟨_, rfl, y, L.CG, dy, _, .str "gear", rfl, gy4, L.nmG.cl, L.nmG.nW, look_word, ?_⟩
  refine ⟨_, rfl, y, L.CG, dy, _, .ref t2, rfl, gy4, L.nmG.cl, L.nmG.nP, look_parts2, ?_⟩
  refine ⟨_, rfl, y, L.CG, dy, _, b3, rfl, gy4, L.nmG.cl, L.naG, look4 (by decide +kernel), ?_⟩
  refine ⟨_, rfl, y, L.CG, dy, L.fT, _, true, rfl, gy4, L.boG, ?_⟩
  refine ⟨by show 4 ≤ sizeLine; rw [sizeLine_eq]; omega, fun p5 hp5 => ?_⟩
  refine ⟨by show 1 ≤ sizeLine; rw [sizeLine_eq]; omega, fun p6 hp6 => ?_⟩
  refine ⟨by show 4 ≤ sizeLine; rw [sizeLine_eq]; omega, fun p7 hp7 => ?_⟩
  refine ⟨by show 1 ≤ sizeLine; rw [sizeLine_eq]; omega, fun p8 hp8 => ?_⟩
  refine ⟨by show 4 ≤ sizeLine; rw [sizeLine_eq]; omega, fun p9 hp9 => ?_⟩
  have f2 : Ext H4 (upd (upd (upd (upd (upd H4 p5 (.tup [.str "gear", .ref t2, b3, .bl true])) p6 (.tup [.int 4])) p7 (.tup [.int 1, .int 2, .int 3, .ref p6])) p8 (.tup [.int 4])) p9 (.tup [.str "gear", .ref p7, .ref p8, .bl true])) := ((((Ext.upd hp5).upd' hp6).upd' hp7).upd' hp8).upd' hp9
  have w5 : upd (upd (upd (upd (upd H4 p5 (.tup [.str "gear", .ref t2, b3, .bl true])) p6 (.tup [.int 4])) p7 (.tup [.int 1, .int 2, .int 3, .ref p6])) p8 (.tup [.int 4])) p9 (.tup [.str "gear", .ref p7, .ref p8, .bl true]) p5 = some (.tup [.str "gear", .ref t2, b3, .bl true]) := (((Ext.upd hp6).upd' hp7).upd' hp8).upd' hp9 _ _ upd_same
  have w6 : upd (upd (upd (upd (upd H4 p5 (.tup [.str "gear", .ref t2, b3, .bl true])) p6 (.tup [.int 4])) p7 (.tup [.int 1, .int 2, .int 3, .ref p6])) p8 (.tup [.int 4])) p9 (.tup [.str "gear", .ref p7, .ref p8, .bl true]) p6 = some (.tup [.int 4]) := ((Ext.upd hp7).upd' hp8).upd' hp9 _ _ upd_same
  have w7 : upd (upd (upd (upd (upd H4 p5 (.tup [.str "gear", .ref t2, b3, .bl true])) p6 (.tup [.int 4])) p7 (.tup [.int 1, .int 2, .int 3, .ref p6])) p8 (.tup [.int 4])) p9 (.tup [.str "gear", .ref p7, .ref p8, .bl true]) p7 = some (.tup [.int 1, .int 2, .int 3, .ref p6]) := (Ext.upd hp8).upd' hp9 _ _ upd_same
  have w8 : upd (upd (upd (upd (upd H4 p5 (.tup [.str "gear", .ref t2, b3, .bl true])) p6 (.tup [.int 4])) p7 (.tup [.int 1, .int 2, .int 3, .ref p6])) p8 (.tup [.int 4])) p9 (.tup [.str "gear", .ref p7, .ref p8, .bl true]) p8 = some (.tup [.int 4]) := Ext.upd hp9 _ _ upd_same
  have w9 : upd (upd (upd (upd (upd H4 p5 (.tup [.str "gear", .ref t2, b3, .bl true])) p6 (.tup [.int 4])) p7 (.tup [.int 1, .int 2, .int 3, .ref p6])) p8 (.tup [.int 4])) p9 (.tup [.str "gear", .ref p7, .ref p8, .bl true]) p9 = some (.tup [.str "gear", .ref p7, .ref p8, .bl true]) := upd_same
  generalize upd (upd (upd (upd (upd H4 p5 (.tup [.str "gear", .ref t2, b3, .bl true])) p6 (.tup [.int 4])) p7 (.tup [.int 1, .int 2, .int 3, .ref p6])) p8 (.tup [.int 4])) p9 (.tup [.str "gear", .ref p7, .ref p8, .bl true]) = H5 at f2 w5 w6 w7 w8 w9 ⊢
  have four : ∀ q : Addr, H5 q = some (.tup [.int 4]) → Dp K H5 (.ref q) (.tuple [.int 4]) := fun q h => dp_tup h (.cons (.int 4) .nil)
  have sg5 := sg4.ext f2
  have ag5 := dpAll_ext f2 ag4
  refine rd_ne_dp (d := .tuple [.str "gear", .tuple [.int 1, .int 2, .int 3, .tuple [.int 4]], .tuple [.int 4], .bool true]) (dp_tup w5 (.cons (.str _) (.cons (.tup sg5 ag5) (.cons (dp_ext (f1.trans f2) d3) (.cons (.bl true) .nil))))) (dp_tup w9 (.cons (.str _) (.cons (dp_tup w7 (.cons (.int 1) (.cons (.int 2) (.cons (.int 3) (.cons (four p6 w6) .nil))))) (.cons (four p8 w8) (.cons (.bl true) .nil))))) (by decide +kernel) ?_
  refine ⟨_, rfl, iteF ?_⟩
  -- the third test
  have gy5 := f2 _ _ gy4
  refine ⟨_, rfl, ?_⟩
  refine ⟨by show 1 ≤ sizeLine; rw [sizeLine_eq]; omega, fun l6 hl6 => ?_⟩
  have gl6 : upd H5 l6 (.lst [.int 4]) l6 = some (.lst [.int 4]) := upd_same
  have f3 : Ext H5 (upd H5 l6 (.lst [.int 4])) := Ext.upd hl6
  generalize upd H5 l6 (.lst [.int 4]) = H6 at gl6 f3 ⊢
  refine fun z dz nz ndz ne3 => own_made (xs := [.bl true, .int 2, .int 3, .ref l6]) (ds := [.bool true, .int 2, .int 3, .list [.int 4]]) nz ndz rfl (.cons (.bl true) (.cons (.int 2) (.cons (.int 3) (.cons (dp_lst gl6 (.cons (.int 4) .nil)) .nil)))) (fine_dec (by decide +kernel)) fun t4 ts4 H7 e7 g7 len7 n7 => ?_
  have fg : Fine 0 100 (.str "gear") := fine_dec (by decide +kernel)
  have f57 := f3.trans e7
  have d7 := n7 H7 fun _ _ _ h => h
  have mz : [PyData.bool true, .int 2, .int 3, .list [.int 4]].map tupd = [.bool true, .int 2, .int 3, .tuple [.int 4]] := by simp [tupd, tupdAll]
  rw [mz] at d7
  refine ⟨y, L.CG, "Gear", "gear", [.int 1, .int 2, .int 3, .tuple [.int 4]], rfl, L.nmG, ⟨dy, _, _, f57 _ _ gy5, .tup (sg5.ext f57) (dpAll_ext f57 ag5), fine_dec (by decide +kernel), fg⟩, L.eqG, .inr (.inl ⟨z, "gear", [.bool true, .int 2, .int 3, .tuple [.int 4]], rfl, ⟨dz, _, _, g7, .tup d7.1 d7.2, fine_dec (by decide +kernel), fg⟩, fun H8 e8 => ?_⟩)⟩
  have pq : papEq "Gear" "Gear" "gear" "gear" [.int 1, .int 2, .int 3, .tuple [.int 4]] [.bool true, .int 2, .int 3, .tuple [.int 4]] = false := by
    unfold papEq
    simp [like, likeAll, isB, PyData.eqv]
  rw [pq]
  refine ⟨_, rfl, iteF ?_⟩
  -- denial, table
  clear dk gx3 w1 w2 w3 w4 w5 w6 w7 w8 w9
  refine ⟨by show 1 ≤ sizeLine; rw [sizeLine_eq]; omega, fun r1 hr1 => ?_⟩
  have wr1 : upd H8 r1 (.lst [V.int 1]) r1 = some (.lst [V.int 1]) := upd_same
  have er1 : Ext H8 (upd H8 r1 (.lst [V.int 1])) := Ext.upd hr1
  generalize upd H8 r1 (.lst [V.int 1]) = K1 at wr1 er1 ⊢
  refine ⟨rfl, rfl, fun xs dxs nxs ndxs nexs => own_made (C := L.CS) (wd := "stiff") (names := ["span", "bound"]) (xs := [.int 2, .ref r1]) (ds := [.int 2, .list [.int 1]]) nxs ndxs rfl (.cons (.int 2) (.cons (dp_lst wr1 (.cons (.int 1) .nil)) .nil)) (fine_dec (by decide +kernel)) fun txs tsxs K2 exs gxs lenxs qxs => ?_⟩
  have sxs := qxs K2 fun _ _ _ h => h
  have mxs : ([.int 2, .list [.int 1]] : List PyData).map tupd = [.int 2, .tuple [.int 1]] := by simp [tupd, tupdAll]
  rw [mxs] at sxs
  obtain ⟨sqxs, alxs⟩ := sxs
  refine ⟨by show 1 ≤ sizeLine; rw [sizeLine_eq]; omega, fun r2 hr2 => ?_⟩
  have wr2 : upd K2 r2 (.lst [V.int 1]) r2 = some (.lst [V.int 1]) := upd_same
  have er2 : Ext K2 (upd K2 r2 (.lst [V.int 1])) := Ext.upd hr2
  generalize upd K2 r2 (.lst [V.int 1]) = K3 at wr2 er2 ⊢
  refine ⟨by show 1 ≤ sizeLine; rw [sizeLine_eq]; omega, fun r3 hr3 => ?_⟩
  have wr3 : upd K3 r3 (.lst [V.ref r2]) r3 = some (.lst [V.ref r2]) := upd_same
  have er3 : Ext K3 (upd K3 r3 (.lst [V.ref r2])) := Ext.upd hr3
  generalize upd K3 r3 (.lst [V.ref r2]) = K4 at wr3 er3 ⊢
  refine ⟨rfl, rfl, fun xf dxf nxf ndxf nexf => own_made (C := L.CF) (wd := "finite") (names := ["modulus", "table", "chains"]) (xs := [.int 3, .int 2, .ref r3]) (ds := [.int 3, .int 2, .list [.list [.int 1]]]) nxf ndxf rfl (.cons (.int 3) (.cons (.int 2) (.cons (dp_lst wr3 (.cons (dp_lst (er3 _ _ wr2) (.cons (.int 1) .nil)) .nil)) .nil))) (fine_dec (by decide +kernel)) fun txf tsxf K5 exf gxf lenxf qxf => ?_⟩
  have sxf := qxf K5 fun _ _ _ h => h
  have mxf : ([.int 3, .int 2, .list [.list [.int 1]]] : List PyData).map tupd = [.int 3, .int 2, .tuple [.tuple [.int 1]]] := by simp [tupd, tupdAll]
  rw [mxf] at sxf
  obtain ⟨sqxf, alxf⟩ := sxf
  refine ⟨_, _, rfl, ?_⟩
  try dsimp only
  refine ⟨_, rfl, xs, L.CS, dxs, _, .str "stiff", rfl, ((er2.trans (er3.trans exf)) _ _ gxs), L.pcS.cl, L.pcS.nW, look_word, ?_⟩
  refine ⟨_, rfl, xs, L.CS, dxs, _, .ref txs, rfl, ((er2.trans (er3.trans exf)) _ _ gxs), L.pcS.cl, L.pcS.nP, look_parts2, ?_⟩
  refine ⟨_, rfl, xs, L.CS, dxs, L.fN0, _, false, rfl, ((er2.trans (er3.trans exf)) _ _ gxs), L.boS, ?_⟩
  refine ⟨by show 3 ≤ sizeLine; rw [sizeLine_eq]; omega, fun r4 hr4 => ?_⟩
  have wr4 : upd K5 r4 (.tup [V.str "stiff", .ref txs, .bl false]) r4 = some (.tup [V.str "stiff", .ref txs, .bl false]) := upd_same
  have er4 : Ext K5 (upd K5 r4 (.tup [V.str "stiff", .ref txs, .bl false])) := Ext.upd hr4
  generalize upd K5 r4 (.tup [V.str "stiff", .ref txs, .bl false]) = K6 at wr4 er4 ⊢
  refine ⟨by show 1 ≤ sizeLine; rw [sizeLine_eq]; omega, fun r5 hr5 => ?_⟩
  have wr5 : upd K6 r5 (.tup [V.int 1]) r5 = some (.tup [V.int 1]) := upd_same
  have er5 : Ext K6 (upd K6 r5 (.tup [V.int 1])) := Ext.upd hr5
  generalize upd K6 r5 (.tup [V.int 1]) = K7 at wr5 er5 ⊢
  refine ⟨by show 2 ≤ sizeLine; rw [sizeLine_eq]; omega, fun r6 hr6 => ?_⟩
  have wr6 : upd K7 r6 (.tup [V.int 2, .ref r5]) r6 = some (.tup [V.int 2, .ref r5]) := upd_same
  have er6 : Ext K7 (upd K7 r6 (.tup [V.int 2, .ref r5])) := Ext.upd hr6
  generalize upd K7 r6 (.tup [V.int 2, .ref r5]) = K8 at wr6 er6 ⊢
  refine ⟨by show 3 ≤ sizeLine; rw [sizeLine_eq]; omega, fun r7 hr7 => ?_⟩
  have wr7 : upd K8 r7 (.tup [V.str "stiff", .ref r6, .bl false]) r7 = some (.tup [V.str "stiff", .ref r6, .bl false]) := upd_same
  have er7 : Ext K8 (upd K8 r7 (.tup [V.str "stiff", .ref r6, .bl false])) := Ext.upd hr7
  generalize upd K8 r7 (.tup [V.str "stiff", .ref r6, .bl false]) = K9 at wr7 er7 ⊢
  refine rd_ne_dp (d := .tuple [.str "stiff", .tuple [.int 2, .tuple [.int 1]], .bool false]) (dp_tup ((er5.trans (er6.trans er7)) _ _ wr4) (.cons (.str _) (.cons (.tup (sqxs.ext (er2.trans (er3.trans (exf.trans (er4.trans (er5.trans (er6.trans er7))))))) (dpAll_ext (er2.trans (er3.trans (exf.trans (er4.trans (er5.trans (er6.trans er7)))))) alxs)) (.cons (.bl false) .nil)))) (dp_tup wr7 (.cons (.str _) (.cons (dp_tup (er7 _ _ wr6) (.cons (.int 2) (.cons (dp_tup ((er6.trans er7) _ _ wr5) (.cons (.int 1) .nil)) .nil))) (.cons (.bl false) .nil)))) (by decide +kernel) ?_
  refine ⟨_, rfl, iteF ?_⟩
  refine ⟨_, rfl, xf, L.CF, dxf, _, .str "finite", rfl, ((er4.trans (er5.trans (er6.trans er7))) _ _ gxf), L.pcF.cl, L.pcF.nW, look_word, ?_⟩
  refine ⟨_, rfl, xf, L.CF, dxf, _, .ref txf, rfl, ((er4.trans (er5.trans (er6.trans er7))) _ _ gxf), L.pcF.cl, L.pcF.nP, look_parts2, ?_⟩
  refine ⟨_, rfl, xf, L.CF, dxf, L.fT, _, true, rfl, ((er4.trans (er5.trans (er6.trans er7))) _ _ gxf), L.boF, ?_⟩
  refine ⟨by show 3 ≤ sizeLine; rw [sizeLine_eq]; omega, fun r8 hr8 => ?_⟩
  have wr8 : upd K9 r8 (.tup [V.str "finite", .ref txf, .bl true]) r8 = some (.tup [V.str "finite", .ref txf, .bl true]) := upd_same
  have er8 : Ext K9 (upd K9 r8 (.tup [V.str "finite", .ref txf, .bl true])) := Ext.upd hr8
  generalize upd K9 r8 (.tup [V.str "finite", .ref txf, .bl true]) = K10 at wr8 er8 ⊢
  refine ⟨by show 1 ≤ sizeLine; rw [sizeLine_eq]; omega, fun r9 hr9 => ?_⟩
  have wr9 : upd K10 r9 (.tup [V.int 1]) r9 = some (.tup [V.int 1]) := upd_same
  have er9 : Ext K10 (upd K10 r9 (.tup [V.int 1])) := Ext.upd hr9
  generalize upd K10 r9 (.tup [V.int 1]) = K11 at wr9 er9 ⊢
  refine ⟨by show 1 ≤ sizeLine; rw [sizeLine_eq]; omega, fun r10 hr10 => ?_⟩
  have wr10 : upd K11 r10 (.tup [V.ref r9]) r10 = some (.tup [V.ref r9]) := upd_same
  have er10 : Ext K11 (upd K11 r10 (.tup [V.ref r9])) := Ext.upd hr10
  generalize upd K11 r10 (.tup [V.ref r9]) = K12 at wr10 er10 ⊢
  refine ⟨by show 3 ≤ sizeLine; rw [sizeLine_eq]; omega, fun r11 hr11 => ?_⟩
  have wr11 : upd K12 r11 (.tup [V.int 3, .int 2, .ref r10]) r11 = some (.tup [V.int 3, .int 2, .ref r10]) := upd_same
  have er11 : Ext K12 (upd K12 r11 (.tup [V.int 3, .int 2, .ref r10])) := Ext.upd hr11
  generalize upd K12 r11 (.tup [V.int 3, .int 2, .ref r10]) = K13 at wr11 er11 ⊢
  refine ⟨by show 3 ≤ sizeLine; rw [sizeLine_eq]; omega, fun r12 hr12 => ?_⟩
  have wr12 : upd K13 r12 (.tup [V.str "finite", .ref r11, .bl true]) r12 = some (.tup [V.str "finite", .ref r11, .bl true]) := upd_same
  have er12 : Ext K13 (upd K13 r12 (.tup [V.str "finite", .ref r11, .bl true])) := Ext.upd hr12
  generalize upd K13 r12 (.tup [V.str "finite", .ref r11, .bl true]) = K14 at wr12 er12 ⊢
  refine rd_ne_dp (d := .tuple [.str "finite", .tuple [.int 3, .int 2, .tuple [.tuple [.int 1]]], .bool true]) (dp_tup ((er9.trans (er10.trans (er11.trans er12))) _ _ wr8) (.cons (.str _) (.cons (.tup (sqxf.ext (er4.trans (er5.trans (er6.trans (er7.trans (er8.trans (er9.trans (er10.trans (er11.trans er12))))))))) (dpAll_ext (er4.trans (er5.trans (er6.trans (er7.trans (er8.trans (er9.trans (er10.trans (er11.trans er12)))))))) alxf)) (.cons (.bl true) .nil)))) (dp_tup wr12 (.cons (.str _) (.cons (dp_tup (er12 _ _ wr11) (.cons (.int 3) (.cons (.int 2) (.cons (dp_tup ((er11.trans er12) _ _ wr10) (.cons (dp_tup ((er10.trans (er11.trans er12)) _ _ wr9) (.cons (.int 1) .nil)) .nil)) .nil)))) (.cons (.bl true) .nil)))) (by decide +kernel) ?_
  refine ⟨_, rfl, iteF ?_⟩
  refine ⟨by show 1 ≤ sizeLine; rw [sizeLine_eq]; omega, fun r13 hr13 => ?_⟩
  have wr13 : upd K14 r13 (.lst [V.int 4]) r13 = some (.lst [V.int 4]) := upd_same
  have er13 : Ext K14 (upd K14 r13 (.lst [V.int 4])) := Ext.upd hr13
  generalize upd K14 r13 (.lst [V.int 4]) = K15 at wr13 er13 ⊢
  refine ⟨rfl, rfl, fun xe dxe nxe ndxe nexe => own_made (C := L.CE) (wd := "endless") (names := ["chain", "ring", "prime", "on"]) (xs := [.int 1, .int 2, .int 3, .ref r13]) (ds := [.int 1, .int 2, .int 3, .list [.int 4]]) nxe ndxe rfl (.cons (.int 1) (.cons (.int 2) (.cons (.int 3) (.cons (dp_lst wr13 (.cons (.int 4) .nil)) .nil)))) (fine_dec (by decide +kernel)) fun txe tsxe K16 exe gxe lenxe qxe => ?_⟩
  have sxe := qxe K16 fun _ _ _ h => h
  have mxe : ([.int 1, .int 2, .int 3, .list [.int 4]] : List PyData).map tupd = [.int 1, .int 2, .int 3, .tuple [.int 4]] := by simp [tupd, tupdAll]
  rw [mxe] at sxe
  obtain ⟨sqxe, alxe⟩ := sxe
  refine ⟨by show 1 ≤ sizeLine; rw [sizeLine_eq]; omega, fun r14 hr14 => ?_⟩
  have wr14 : upd K16 r14 (.lst [V.int 1]) r14 = some (.lst [V.int 1]) := upd_same
  have er14 : Ext K16 (upd K16 r14 (.lst [V.int 1])) := Ext.upd hr14
  generalize upd K16 r14 (.lst [V.int 1]) = K17 at wr14 er14 ⊢
  refine ⟨by show 1 ≤ sizeLine; rw [sizeLine_eq]; omega, fun r15 hr15 => ?_⟩
  have wr15 : upd K17 r15 (.lst [V.int 2]) r15 = some (.lst [V.int 2]) := upd_same
  have er15 : Ext K17 (upd K17 r15 (.lst [V.int 2])) := Ext.upd hr15
  generalize upd K17 r15 (.lst [V.int 2]) = K18 at wr15 er15 ⊢
  refine ⟨by show 1 ≤ sizeLine; rw [sizeLine_eq]; omega, fun r16 hr16 => ?_⟩
  have wr16 : upd K18 r16 (.lst [V.ref r15]) r16 = some (.lst [V.ref r15]) := upd_same
  have er16 : Ext K18 (upd K18 r16 (.lst [V.ref r15])) := Ext.upd hr16
  generalize upd K18 r16 (.lst [V.ref r15]) = K19 at wr16 er16 ⊢
  refine ⟨rfl, rfl, fun xk dxk nxk ndxk nexk => own_made (C := L.CK) (wd := "kit") (names := ["rows", "counts"]) (xs := [.ref r16, .ref r14]) (ds := [.list [.list [.int 2]], .list [.int 1]]) nxk ndxk rfl (.cons (dp_lst wr16 (.cons (dp_lst (er16 _ _ wr15) (.cons (.int 2) .nil)) .nil)) (.cons (dp_lst ((er15.trans er16) _ _ wr14) (.cons (.int 1) .nil)) .nil)) (fine_dec (by decide +kernel)) fun txk tsxk K20 exk gxk lenxk qxk => ?_⟩
  have sxk := qxk K20 fun _ _ _ h => h
  have mxk : ([.list [.list [.int 2]], .list [.int 1]] : List PyData).map tupd = [.tuple [.tuple [.int 2]], .tuple [.int 1]] := by simp [tupd, tupdAll]
  rw [mxk] at sxk
  obtain ⟨sqxk, alxk⟩ := sxk
  refine ⟨_, _, rfl, ?_⟩
  try dsimp only
  match tsxe, lenxe, alxe, gxe, sqxe with
  | [b0, b1, b2, b3], _, alxe, gxe, sqxe =>
  match tsxk, lenxk, alxk, gxk, sqxk with
  | [c0, c1], _, alxk, gxk, sqxk =>
  have d3e : Dp K K16 b3 (.tuple [.int 4]) := by
    cases alxe with
    | cons _ r => cases r with
      | cons _ r => cases r with
        | cons _ r => cases r with
          | cons z _ => exact z
  have d0k : Dp K K20 c0 (.tuple [.tuple [.int 2]]) := by
    cases alxk with
    | cons z _ => exact z
  have d1k : Dp K K20 c1 (.tuple [.int 1]) := by
    cases alxk with
    | cons _ r => cases r with
      | cons z _ => exact z
  refine ⟨_, rfl, xe, L.CE, dxe, _, .str "endless", rfl, ((er14.trans (er15.trans (er16.trans exk))) _ _ gxe), L.pcE.cl, L.pcE.nW, look_word, ?_⟩
  refine ⟨_, rfl, xe, L.CE, dxe, _, .ref txe, rfl, ((er14.trans (er15.trans (er16.trans exk))) _ _ gxe), L.pcE.cl, L.pcE.nP, look_parts2, ?_⟩
  refine ⟨_, rfl, xe, L.CE, dxe, L.fN0, _, false, rfl, ((er14.trans (er15.trans (er16.trans exk))) _ _ gxe), L.boE, ?_⟩
  refine ⟨_, rfl, xe, L.CE, dxe, _, b3, rfl, ((er14.trans (er15.trans (er16.trans exk))) _ _ gxe), L.pcE.cl, L.naE, look4 (by decide +kernel), ?_⟩
  refine ⟨by show 4 ≤ sizeLine; rw [sizeLine_eq]; omega, fun r17 hr17 => ?_⟩
  have wr17 : upd K20 r17 (.tup [V.str "endless", .ref txe, .bl false, b3]) r17 = some (.tup [V.str "endless", .ref txe, .bl false, b3]) := upd_same
  have er17 : Ext K20 (upd K20 r17 (.tup [V.str "endless", .ref txe, .bl false, b3])) := Ext.upd hr17
  generalize upd K20 r17 (.tup [V.str "endless", .ref txe, .bl false, b3]) = K21 at wr17 er17 ⊢
  refine ⟨by show 1 ≤ sizeLine; rw [sizeLine_eq]; omega, fun r18 hr18 => ?_⟩
  have wr18 : upd K21 r18 (.tup [V.int 4]) r18 = some (.tup [V.int 4]) := upd_same
  have er18 : Ext K21 (upd K21 r18 (.tup [V.int 4])) := Ext.upd hr18
  generalize upd K21 r18 (.tup [V.int 4]) = K22 at wr18 er18 ⊢
  refine ⟨by show 4 ≤ sizeLine; rw [sizeLine_eq]; omega, fun r19 hr19 => ?_⟩
  have wr19 : upd K22 r19 (.tup [V.int 1, .int 2, .int 3, .ref r18]) r19 = some (.tup [V.int 1, .int 2, .int 3, .ref r18]) := upd_same
  have er19 : Ext K22 (upd K22 r19 (.tup [V.int 1, .int 2, .int 3, .ref r18])) := Ext.upd hr19
  generalize upd K22 r19 (.tup [V.int 1, .int 2, .int 3, .ref r18]) = K23 at wr19 er19 ⊢
  refine ⟨by show 1 ≤ sizeLine; rw [sizeLine_eq]; omega, fun r20 hr20 => ?_⟩
  have wr20 : upd K23 r20 (.tup [V.int 4]) r20 = some (.tup [V.int 4]) := upd_same
  have er20 : Ext K23 (upd K23 r20 (.tup [V.int 4])) := Ext.upd hr20
  generalize upd K23 r20 (.tup [V.int 4]) = K24 at wr20 er20 ⊢
  refine ⟨by show 4 ≤ sizeLine; rw [sizeLine_eq]; omega, fun r21 hr21 => ?_⟩
  have wr21 : upd K24 r21 (.tup [V.str "endless", .ref r19, .bl false, .ref r20]) r21 = some (.tup [V.str "endless", .ref r19, .bl false, .ref r20]) := upd_same
  have er21 : Ext K24 (upd K24 r21 (.tup [V.str "endless", .ref r19, .bl false, .ref r20])) := Ext.upd hr21
  generalize upd K24 r21 (.tup [V.str "endless", .ref r19, .bl false, .ref r20]) = K25 at wr21 er21 ⊢
  refine rd_eq_dp (d := .tuple [.str "endless", .tuple [.int 1, .int 2, .int 3, .tuple [.int 4]], .bool false, .tuple [.int 4]]) (dp_tup ((er18.trans (er19.trans (er20.trans er21))) _ _ wr17) (.cons (.str _) (.cons (.tup (sqxe.ext (er14.trans (er15.trans (er16.trans (exk.trans (er17.trans (er18.trans (er19.trans (er20.trans er21))))))))) (dpAll_ext (er14.trans (er15.trans (er16.trans (exk.trans (er17.trans (er18.trans (er19.trans (er20.trans er21)))))))) alxe)) (.cons (.bl false) (.cons (dp_ext (er14.trans (er15.trans (er16.trans (exk.trans (er17.trans (er18.trans (er19.trans (er20.trans er21)))))))) d3e) .nil))))) (dp_tup wr21 (.cons (.str _) (.cons (dp_tup ((er20.trans er21) _ _ wr19) (.cons (.int 1) (.cons (.int 2) (.cons (.int 3) (.cons (dp_tup ((er19.trans (er20.trans er21)) _ _ wr18) (.cons (.int 4) .nil)) .nil))))) (.cons (.bl false) (.cons (dp_tup (er21 _ _ wr20) (.cons (.int 4) .nil)) .nil))))) (by decide +kernel) ?_
  refine ⟨_, rfl, iteT ?_⟩
  refine ⟨_, rfl, xk, L.CK, dxk, _, .str "kit", rfl, ((er17.trans (er18.trans (er19.trans (er20.trans er21)))) _ _ gxk), L.pcK.cl, L.pcK.nW, look_word, ?_⟩
  refine ⟨_, rfl, xk, L.CK, dxk, _, c0, rfl, ((er17.trans (er18.trans (er19.trans (er20.trans er21)))) _ _ gxk), L.pcK.cl, L.naK1, (look2 (by decide +kernel)).1, ?_⟩
  refine ⟨_, rfl, xk, L.CK, dxk, _, c1, rfl, ((er17.trans (er18.trans (er19.trans (er20.trans er21)))) _ _ gxk), L.pcK.cl, L.naK2, (look2 (by decide +kernel)).2, ?_⟩
  refine ⟨_, rfl, xk, L.CK, dxk, L.fT, _, true, rfl, ((er17.trans (er18.trans (er19.trans (er20.trans er21)))) _ _ gxk), L.boK, ?_⟩
  refine ⟨by show 4 ≤ sizeLine; rw [sizeLine_eq]; omega, fun r22 hr22 => ?_⟩
  have wr22 : upd K25 r22 (.tup [V.str "kit", c0, c1, .bl true]) r22 = some (.tup [V.str "kit", c0, c1, .bl true]) := upd_same
  have er22 : Ext K25 (upd K25 r22 (.tup [V.str "kit", c0, c1, .bl true])) := Ext.upd hr22
  generalize upd K25 r22 (.tup [V.str "kit", c0, c1, .bl true]) = K26 at wr22 er22 ⊢
  refine ⟨by show 1 ≤ sizeLine; rw [sizeLine_eq]; omega, fun r23 hr23 => ?_⟩
  have wr23 : upd K26 r23 (.tup [V.int 2]) r23 = some (.tup [V.int 2]) := upd_same
  have er23 : Ext K26 (upd K26 r23 (.tup [V.int 2])) := Ext.upd hr23
  generalize upd K26 r23 (.tup [V.int 2]) = K27 at wr23 er23 ⊢
  refine ⟨by show 1 ≤ sizeLine; rw [sizeLine_eq]; omega, fun r24 hr24 => ?_⟩
  have wr24 : upd K27 r24 (.tup [V.ref r23]) r24 = some (.tup [V.ref r23]) := upd_same
  have er24 : Ext K27 (upd K27 r24 (.tup [V.ref r23])) := Ext.upd hr24
  generalize upd K27 r24 (.tup [V.ref r23]) = K28 at wr24 er24 ⊢
  refine ⟨by show 1 ≤ sizeLine; rw [sizeLine_eq]; omega, fun r25 hr25 => ?_⟩
  have wr25 : upd K28 r25 (.tup [V.int 1]) r25 = some (.tup [V.int 1]) := upd_same
  have er25 : Ext K28 (upd K28 r25 (.tup [V.int 1])) := Ext.upd hr25
  generalize upd K28 r25 (.tup [V.int 1]) = K29 at wr25 er25 ⊢
  refine ⟨by show 4 ≤ sizeLine; rw [sizeLine_eq]; omega, fun r26 hr26 => ?_⟩
  have wr26 : upd K29 r26 (.tup [V.str "kit", .ref r24, .ref r25, .bl true]) r26 = some (.tup [V.str "kit", .ref r24, .ref r25, .bl true]) := upd_same
  have er26 : Ext K29 (upd K29 r26 (.tup [V.str "kit", .ref r24, .ref r25, .bl true])) := Ext.upd hr26
  generalize upd K29 r26 (.tup [V.str "kit", .ref r24, .ref r25, .bl true]) = K30 at wr26 er26 ⊢
  refine rd_eq_dp (d := .tuple [.str "kit", .tuple [.tuple [.int 2]], .tuple [.int 1], .bool true]) (dp_tup ((er23.trans (er24.trans (er25.trans er26))) _ _ wr22) (.cons (.str _) (.cons (dp_ext (er17.trans (er18.trans (er19.trans (er20.trans (er21.trans (er22.trans (er23.trans (er24.trans (er25.trans er26))))))))) d0k) (.cons (dp_ext (er17.trans (er18.trans (er19.trans (er20.trans (er21.trans (er22.trans (er23.trans (er24.trans (er25.trans er26))))))))) d1k) (.cons (.bl true) .nil))))) (dp_tup wr26 (.cons (.str _) (.cons (dp_tup ((er25.trans er26) _ _ wr24) (.cons (dp_tup ((er24.trans (er25.trans er26)) _ _ wr23) (.cons (.int 2) .nil)) .nil)) (.cons (dp_tup (er26 _ _ wr25) (.cons (.int 1) .nil)) (.cons (.bl true) .nil))))) (by decide +kernel) ?_
  exact k _
end
end K00
end K00CT_text
section K00Law_text
set_option Elab.async false
set_option linter.all false
set_option maxRecDepth 100000
set_option maxHeartbeats 4000000
/-! k00: the law, about the place at which it is called. -/
namespace K00
open PySem PySem.Spec PyProof.Rows L2 StX

section
variable {P : Program} {w : World} {K : PySem.W.Frag} {mg mb : Str → Option Value} {base : Heap} {f : Addr} {fd : FuncData}
theorem law_here (L : LT P w K mg base) (F : Fun K "law" "law" sLaw f fd) (hb : ∀ (s : Shared) (u : Value), BindsTo s fd ⟨[u], []⟩ [("script", u)]) {a : Addr} {ns : List Int} {s1 : Shared} {H : Hp} (hs : SqL K H a (ns.map V.int)) (hl : ns.length ≤ 63) (e0 : Env0 P w K mg base callerA [] s1 H) :
    codeAny (model P w) callerA (.call (.ref f) ⟨[.ref a], []⟩) (CR CX0 [] P w H s1 (fun v _ => v = .bl true) E0) s1 := by
  obtain ⟨oc, od, kV, doc, pm, an, cdv, ct, osl, rfl, lk, hcd⟩ := F.ex
  refine run_here (k := 60) (N := NL) (ps := ["script"]) (vs := [.ref a]) (us := [.ref a]) lk hcd scL rfl ⟨rfl, by decide, by decide⟩ e0 (hb s1 (.ref a)) (.cons rfl .nil) fun hr => ?_
  have hg : (callerA.deeper (envOfC "law" (defScope sLaw) s1.heap.objs.size f cdv)).guards = some [] := rfl
  have hu : (callerA.deeper (envOfC "law" (defScope sLaw) s1.heap.objs.size f cdv)).units + 64 < cLine := hr.units
  have hr1 : Room 1 (callerA.deeper (envOfC "law" (defScope sLaw) s1.heap.objs.size f cdv)) := hr.mono (by decide)
  obtain ⟨t0, h0, q0⟩ := chunk0 (P := P) (w := w) (f := f) (cdv := cdv) (A := callerA) (outer := []) (s0 := s1) (H0 := H) (E0' := E0) L hr hg hu
  obtain ⟨tT, hT, qT⟩ := chunkT (P := P) (w := w) (f := f) (cdv := cdv) (A := callerA) (outer := []) (s0 := s1) (H0 := H) (E0' := E0) L hr hu
  refine ⟨_, PSs.nox (X := cxOf CX0 P w K mg base NL "law" (defScope sLaw) f cdv callerA [] s1 H E0) (pss_cons (ps_set (i := 1) scL.nd rfl (Or.inl rfl) (pe_call L.okPen hr1 (by rfl) L.gPen L.kpPen L.bPen .nil pass0 (pa_cons (pv 0) pa_nil))) (pss_cons (ps_for PassesOwn.never rfl (pi_range1 (by rfl) L.T.range (pa_cons pe_int pa_nil)) (pg_name (i := 2) scL.nd rfl (Or.inl rfl)) h0) hT)), ?_⟩
  refine ⟨_, rfl, a, ns, rfl, hs, hl, fun p c H1 x1 np hp => ?_⟩
  refine ⟨12, rfl, by decide, by decide, ?_⟩
  refine for_range (lo := 0) (n := 12) (fun i σ H' => ∃ (t : Nat) (l : Int) (b2 b3 b4 b5 b6 b7 b8 b9 b10 b11 b12 b13 b14 b15 b16 b17 b18 b19 : Option V), σ = [some (.ref a), some (.ref p), b2, b3, b4, b5, b6, b7, b8, b9, b10, b11, b12, b13, b14, b15, b16, b17, b18, b19] ∧ PenAt H' p c ns t l ∧ t ≤ 60 * i) ⟨0, 0, none, none, none, none, none, none, none, none, none, none, none, none, none, none, none, none, none, none, rfl, hp, Nat.zero_le _⟩ ?_ ?_
  · rintro i σ H' hi ⟨t, l, b2, b3, b4, b5, b6, b7, b8, b9, b10, b11, b12, b13, b14, b15, b16, b17, b18, b19, rfl, hpen, ht⟩
    refine q0 _ H' p c ns t l _ _ _ _ _ _ _ _ _ _ _ _ _ _ _ _ _ _ _ hpen (by omega) fun H'' t' l' c3 c4 c5 c6 c7 c8 c9 c10 c11 c12 e z1 z2 => ?_
    exact ⟨t', l', _, _, _, _, _, _, _, _, _, _, _, _, _, _, _, _, _, _, rfl, z1, by omega⟩
  · rintro σ H' ⟨t, l, b2, b3, b4, b5, b6, b7, b8, b9, b10, b11, b12, b13, b14, b15, b16, b17, b18, b19, rfl, hpen, ht⟩
    exact qT _ H' _ _ _ _ _ _ _ _ _ _ _ _ _ _ _ _ _ _ _ _ fun H'' => rfl
end
end K00
end K00Law_text
section K00Walk_text
set_option Elab.async false
set_option linter.all false
set_option maxRecDepth 100000
set_option maxHeartbeats 4000000
/-! k00: from the law's run about the claim's caller to the walk that the head asks. -/
namespace K00
open PySem PySem.Spec PyProof.Rows L2

/-- what is shown of the law's def at its one place -/
abbrev RunAt (P : Program) (w : World) (K : PySem.W.Frag) (mg : Str → Option Value) (fa a : Addr) (ns : List Int) (s1 : Shared) : Prop :=
  ∀ (base : Heap) (H : Hp), K.In base → base.Ns mainGlobals mg → SqL K H a (ns.map V.int) → Env0 P w K mg base callerA [] s1 H → codeAny (model P w) callerA (.call (.ref fa) ⟨[.ref a], []⟩) (CR CX0 [] P w H s1 (fun v _ => v = .bl true) E0) s1
theorem run_call {P : Program} {w : World} {K : PySem.W.Frag} {mg mb : Str → Option Value} {fa a : Addr} {s1 : Shared} {vs : List Value} {ns : List Int}
    (KX : K.In s1.heap) (hns : s1.heap.Ns mainGlobals mg) (hb : s1.heap.Ns builtinsNs mb) (hbb : ∀ x : Str, x ≠ "__name__" → mb x = bootBuiltins x) (hlim : s1.heap.NoLimit) (hg : s1.gens = #[])
    (ha : s1.heap.get? a = some { cls := .type "list", data := .seq vs.toArray }) (hi : IntsAre vs ns) (hl : ns.length ≤ sizeLine) (F : RunAt P w K mg fa a ns s1) :
    codeAny (model P w) callerA (.call (.ref fa) ⟨[.ref a], []⟩) (fun r s' => r = .ok (.ret (.bool true)) ∧ OldK s1.heap s'.heap ∧ s'.os = s1.os ∧ AllBare s'.gens) s1 := by
  have main : ∀ H : Hp, Only H → SqL K H a (ns.map V.int) → HOk P w H s1.heap → (∀ b, H b ≠ none → b = a) → (H a ≠ none → K.lookup a = none) →
      codeAny (model P w) callerA (.call (.ref fa) ⟨[.ref a], []⟩) (fun r s' => r = .ok (.ret (.bool true)) ∧ OldK s1.heap s'.heap ∧ s'.os = s1.os ∧ AllBare s'.gens) s1 := by
    intro H hO hS hok hA hK
    have free : ∀ {b : Addr} {o : Obj}, s1.heap.get? b = some o → b ≠ a → H b = none := fun {b o} _ hne => Classical.byContradiction fun q => hne (hA b q)
    have dfree : ∀ {b : Addr} {o : Obj} {es : Array DictEntry} {ep : Nat}, s1.heap.get? b = some o → o.data = .dict es ep → H b = none := fun {b o es ep} e d => free e fun z => by
      rw [z, ha] at e
      cases e
      cases (show Data.seq vs.toArray _ = Data.dict es ep from d)
    have ns_ : ∀ {b : Addr} {m : Str → Option Value}, s1.heap.Ns b m → (hidT s1.heap H).Ns b m := fun {b m} ⟨o, es, ep, e, d, r⟩ => ⟨o, es, ep, hidT_get e (dfree e d), d, r⟩
    have KB : K.In (hidT s1.heap H) := fun b o e => hidT_get (KX b o e) (by
      by_cases hba : b = a
      · cases q : H b with
        | none => rfl
        | some u =>
          rw [hba] at q e
          rw [hK (by rw [q]; simp)] at e
          cases e
      · exact free (KX b o e) hba)
    obtain ⟨mc, l1, l2⟩ := hlim
    have M : Mod K mg (hidT s1.heap H) := ⟨KB, ns_ hns, ⟨mb, ns_ hb, hbb⟩, mc, ns_ l1, l2⟩
    refine codeAny_mono (F _ H KB (ns_ hns) hS ⟨rfl, M, fun b o e => of_hidT e, Nat.le_of_eq (hidT_size _ _), trivial, fun b hb => absurd (show b ∈ ([] : List Addr) from hb) (by simp), hok, .of_eq hg⟩) fun r s' h => ?_
    match r, h with
    | .ok (.ret u), ⟨v, H', os, bare, un, hok', r', q⟩ =>
      have q' : v = .bl true := q
      subst q'
      obtain rfl : u = Value.bool true := r'
      refine ⟨rfl, OldK.of_keep fun b o e => ?_, os, bare⟩
      rcases hO b with z | ⟨ob, xs, z⟩
      · exact un.keep b o e z (fun y => absurd (show b ∈ ([] : List Addr) from y) (by simp)) (by simp)
      · obtain ⟨g1, _⟩ := hok b _ z
        obtain ⟨g2, _⟩ := hok' b _ (un.frzs b ob _ z)
        rw [e] at g1
        cases g1
        exact g2
  have rv := vals_ints hi
  cases hk : K.lookup a with
  | some o =>
    have e := KX a o hk
    rw [ha] at e
    cases e
    exact main (fun _ => none) (fun _ => .inl rfl) (.inr ⟨_, vs.toArray, _, hk, rfl, rfl, rfl, by rw [List.size_toArray, hi.length]; exact hl, by simpa using rv⟩) (fun b u z => by cases (show (none : Option HO) = some u from z)) (fun b z => absurd rfl z) fun z => absurd rfl z
  | none =>
    let u0 : HO := .frz { cls := .type "list", data := .seq vs.toArray } (.lst (ns.map V.int))
    have at_a : (fun b => if b = a then some u0 else none : Hp) a = some u0 := if_pos rfl
    have off : ∀ {b : Addr}, b ≠ a → (fun b => if b = a then some u0 else none : Hp) b = none := fun h => if_neg h
    refine main (fun b => if b = a then some u0 else none) (fun b => ?_) (.inl (.inr ⟨_, at_a⟩)) (fun b u z => ?_) (fun b z => Classical.byContradiction fun q => z (off q)) fun _ => hk
    · by_cases hba : b = a
      · exact .inr ⟨_, _, by rw [hba]; exact at_a⟩
      · exact .inl (off hba)
    · by_cases hba : b = a
      · subst hba
        cases at_a.symm.trans z
        exact ⟨ha, by rw [List.length_map]; exact hl, vs, _, rv, ha⟩
      · cases (off hba).symm.trans z
theorem walk_here {l : PySem.W.OpenLaw} {n : Nat} {q : Program} {loose : List Str} {XP : (Str → Option Value) → Heap → Prop} {YP : World → Heap → Prop} {d : DefRec} {K : Params → PySem.W.Frag}
    (hn : l.most = some n) (hn2 : n ≤ sizeLine) (hdf : d.params.defaults = []) (hY : ∀ (w : World) (h : Heap), YP w h → (K w.params).In h)
    (F : ∀ (w : World) (mg : Str → Option Value) (fa : Addr) (h : Heap), (K w.params).In h → h.Ns mainGlobals mg → mg d.name = some (.ref fa) → ∀ (a : Addr) (ns : List Int) (s1 : Shared), ns.length ≤ n → RunAt l.prog w (K w.params) mg fa a ns s1) :
    PySem.W.WalkO q loose XP YP l.row.toRowW d [] (fun f vs => PySem.call f vs) := by
  refine Att.attach_call hn hdf fun w s0 s1 mg mb fa o pm cd doc a vs ns G Y ho hd hcd hmg hobj hints hlen hg => ?_
  have KX := hY w _ Y
  exact run_call KX G.T.g G.T.b G.T.builtins G.T.nolimit hg hobj hints (Nat.le_trans hlen hn2) (F w mg fa _ KX G.T.g hmg a ns s1 hlen)
end K00
end K00Walk_text
section K00End_text
set_option Elab.async false
set_option linter.all false
set_option maxRecDepth 100000
set_option maxHeartbeats 4000000
/-! k00: what the top has written, class by class, def by def. -/
namespace K00
open PySem PySem.Spec PyProof.Rows L2 StX NdefX

/-- an error's class and its __init__ as the body of the law wants them -/
structure BadG (P : Program) (w : World) (K : PySem.W.Frag) (mg : Str → Option Value) (C f : Addr) (fd : FuncData) (ps ks : List Str) (g : List Value → List Value → List Value) (gV : List V → List V → List V) (sp : Sp) : Prop where
  oex : OexM K C f
  xf : XfC K C
  ec : ExcC K C
  ok : ∀ base : Heap, FnOk P w K mg base CX0 1 f fd ps sp
  b : Binds K fd ps []
  k : KBn K fd ps 1 ks g gV
/-- the facts of a class with a base among the errors -/
structure ExcK (K : PySem.W.Frag) (C f : Addr) : Prop where
  cls : ∃ nm q N bs bm sn sub ab col dd k0 k1 k2 k3 k5, K.lookup C = some (excClassObj nm q C N bs bm true sn sub ab col dd k0 k1 k2 k3 k5 "ValueError.__new__") ∧ PySem.HandSPX.refsVE bm = true
  sa : PySem.W.findIn K (.ref C) "__setattr__" = some (some (.builtin "object.__setattr__"))
  exC : PySem.W.subIn K (.ref C) (.type "BaseException") = some true
  tyC : PySem.W.typeIn K (.ref C) = some (.type "type")
  kC : PySem.W.keepIn K (.ref C) = true
  ini : PySem.W.findIn K (.ref C) "__init__" = some (some (.ref f))
  tyI : PySem.W.typeIn K (.ref f) = some (.type "function")
  ga : PySem.W.findIn K (.ref C) "__getattribute__" = some (some (.builtin "BaseException.__getattribute__"))
  gg : PySem.W.findIn K (.ref C) "__getattr__" = some none
  hd : PySem.W.hasDictIn K C = true
  ha : PySem.W.findIn K (.ref C) "__class__" = some (some (.builtin "object.__class__"))
  hn : PySem.W.specialIn K (.builtin "object.__class__") "__get__" = some (some (.builtin "getset_descriptor.__get__"))
  ht : PySem.W.takesIn K (.builtin "object.__class__") = some true
  hm : PySem.W.mroIn K C (.type "object") = some true
  sub : PySem.W.mroIn K C (.ref C) = some true
  sup : PySem.W.ks_superIn K C C "__init__" = some (some (.builtin "ValueError.__init__"))
  isV : PySem.W.subIn K (.ref C) (.type "ValueError") = some true
theorem ExcK.oex {K : PySem.W.Frag} {C f : Addr} (h : ExcK K C f) : OexC K C := ⟨h.cls, h.sa, h.exC, h.tyC, h.kC⟩
theorem ExcK.m {K : PySem.W.Frag} {C f : Addr} (h : ExcK K C f) : OexM K C f := ⟨h.oex, h.ini, h.tyI⟩
/-- the text of an __init__ that says super() -/
structure InitK (P : Program) (K : PySem.W.Frag) (mg : Str → Option Value) (st : Stmt) (qual : Str) (C f c cc : Addr) (fd : FuncData) : Prop where
  fdEq : ∃ doc pm an ctv kV, fd = PySem.W.fnX "__init__" qual (defArgs st) (defBody st) (defScope st) [(("__class__" : Str), cc)] .none kV doc pm an (.ref c) ctv
  lk : ∃ oc od osl, K.lookup f = some (⟨oc, od, .func fd, osl⟩ : Obj)
  hcd : PySem.W.codeIn K (.ref c) qual = true
  code : ∃ cl dd vs sl file tf, K.lookup c = some (⟨cl, dd, .fields vs, sl⟩ : Obj) ∧ vs[2]? = some (.str file tf) ∧ ((P.main.file : Str) == file) = true
  cell : ∃ cl dd sl, K.lookup cc = some (⟨cl, dd, .cell (some (.ref C)), sl⟩ : Obj)
  cls : ∃ cd, PySem.W.clsIn K C = some cd
  free : mg "super" = none
  top : (P.main.scope.names.lookup ("super" : Str)).isSome = false
  any_ : PySem.W.nsIn K cStatics "thirdparty.any" = some none
/-- what is plain of such a def's text -/
structure InitT (st : Stmt) : Prop where
  ar : ∃ ar : Arg, ((defArgs st).posonlyargs ++ (defArgs st).args).head? = some ar ∧ ar.arg = "self"
  hks : (defScope st).names.lookup ("super" : Str) = some .globalImplicit
  hkc : (defScope st).names.lookup ("__class__" : Str) = some .free
  hka : (defScope st).names.lookup ("self" : Str) = some .local
section
variable {P : Program} {w : World} {K : PySem.W.Frag} {mg : Str → Option Value} {st : Stmt} {qual : Str} {C f c cc : Addr} {fd : FuncData}
theorem InitK.sup (h : InitK P K mg st qual C f c cc fd) (t : InitT st) : SupTxt P K mg f c cc C fd := by
  obtain ⟨oc, od, osl, lk⟩ := h.lk
  obtain ⟨cl, dd, sl, cell⟩ := h.cell
  obtain ⟨doc, pm, an, ctv, kV, e⟩ := h.fdEq
  exact ⟨⟨oc, od, osl, lk⟩, by rw [e]; exact t.ar, h.code, ⟨cl, dd, sl, cell⟩, h.cls, h.free, h.top, h.any_⟩
theorem bad_txt (h : InitK P K mg st qual C f c cc fd) (t : InitT st) (x : ExcK K C f) : BadTxt P K mg ⟨"__init__", qual, defArgs st, defBody st, defScope st, [(("__class__" : Str), cc)], c⟩ C f cc fd := by
  obtain ⟨cl, dd, sl, cell⟩ := h.cell
  exact ⟨rfl, h.fdEq, h.lk, h.hcd, ⟨cl, dd, _, sl, cell⟩, t.hks, t.hkc, t.hka, h.sup t, ⟨x.oex, x.sub, x.sup, x.isV⟩⟩
/-- an error with one field -/
theorem bad_one {nm fld : Str} {n p0 p1 p2 p3 p4 q0 q1 q2 q3 : Pos} {j : Nat} (h : InitK P K mg st qual C f c cc fd) (t : InitT st) (x : ExcK K C f) (no : PySem.W.findIn K (.ref C) fld = some none) (hb : defBody st = [badCall nm n p0 p1 p2 p3 p4 j, badSet fld q0 q1 q2 q3])
    (hrd : SupRd (.Call (.Name "super" p0) [] [] p1) [.Constant (.str nm) j n] p2 p3) (S : NScope ["self", fld, "__class__"] ["self", fld] ["__class__"] (defScope st)) (hf : (defScope st).names.lookup fld = some .local)
    (hd1 : (fld == ("__debug__" : Str)) = false) (hd2 : (fld == ("__classdict__" : Str)) = false)
    (bd : ∀ (kV doc pm : Value) (an : Option Addr) (cdv ct : Value) (us : List Value), us.length = 2 → bindArgs (PySem.W.fnX "__init__" qual (defArgs st) (defBody st) (defScope st) [(("__class__" : Str), cc)] .none kV doc pm an cdv ct) ⟨us, []⟩ = pure ((["self", fld] : List Str).zip us))
    (bk : ∀ (kV doc pm : Value) (an : Option Addr) (cdv ct : Value) (us ws : List Value), us.length = 1 → ws.length = 1 → bindArgs (PySem.W.fnX "__init__" qual (defArgs st) (defBody st) (defScope st) [(("__class__" : Str), cc)] .none kV doc pm an cdv ct) ⟨us, ([fld] : List Str).zip ws⟩ = pure ((["self", fld] : List Str).zip (us ++ ws))) :
    BadG P w K mg C f fd ["self", fld] [fld] gApp gApp (spBad C fld) := by
  refine ⟨x.m, ⟨x.ga, x.gg, x.exC, x.hd⟩, ⟨x.ga, x.gg, x.exC, x.hd, x.ha, x.hn, x.ht, x.hm⟩, fun base => ok_bad (bad_txt h t x) hb hrd S hf no hd1 hd2, ?_, ?_⟩
  · obtain ⟨doc, pm, an, ctv, kV, rfl⟩ := h.fdEq
    exact Binds.all fun us hl => bd _ _ _ _ _ _ us hl
  · obtain ⟨doc, pm, an, ctv, kV, rfl⟩ := h.fdEq
    exact ⟨fun s us ws _ l1 l2 => .of_eq (bk _ _ _ _ _ _ us ws l1 l2), fun r1 r2 => r1.append r2⟩
theorem bad_two {nm fl gl : Str} {n p0 p1 p2 p3 p4 q0 q1 q2 q3 r0 r1 r2 r3 : Pos} {j : Nat} (h : InitK P K mg st qual C f c cc fd) (t : InitT st) (x : ExcK K C f) (no : PySem.W.findIn K (.ref C) fl = some none) (no2 : PySem.W.findIn K (.ref C) gl = some none) (hb : defBody st = [badCall nm n p0 p1 p2 p3 p4 j, badSet fl q0 q1 q2 q3, badSet gl r0 r1 r2 r3])
    (hrd : SupRd (.Call (.Name "super" p0) [] [] p1) [.Constant (.str nm) j n] p2 p3) (S : NScope ["self", fl, gl, "__class__"] ["self", fl, gl] ["__class__"] (defScope st)) (hf : (defScope st).names.lookup fl = some .local) (hg : (defScope st).names.lookup gl = some .local)
    (hd1 : (fl == ("__debug__" : Str)) = false) (hd2 : (fl == ("__classdict__" : Str)) = false) (hd3 : (gl == ("__debug__" : Str)) = false) (hd4 : (gl == ("__classdict__" : Str)) = false)
    (bd : ∀ (kV doc pm : Value) (an : Option Addr) (cdv ct : Value) (us : List Value), us.length = 3 → bindArgs (PySem.W.fnX "__init__" qual (defArgs st) (defBody st) (defScope st) [(("__class__" : Str), cc)] .none kV doc pm an cdv ct) ⟨us, []⟩ = pure ((["self", fl, gl] : List Str).zip us))
    (bk : ∀ (kV doc pm : Value) (an : Option Addr) (cdv ct : Value) (us ws : List Value), us.length = 1 → ws.length = 2 → bindArgs (PySem.W.fnX "__init__" qual (defArgs st) (defBody st) (defScope st) [(("__class__" : Str), cc)] .none kV doc pm an cdv ct) ⟨us, ([gl, fl] : List Str).zip ws⟩ = pure ((["self", fl, gl] : List Str).zip (us ++ ws.reverse))) :
    BadG P w K mg C f fd ["self", fl, gl] [gl, fl] gRev gRev (spBad2 C fl gl) := by
  refine ⟨x.m, ⟨x.ga, x.gg, x.exC, x.hd⟩, ⟨x.ga, x.gg, x.exC, x.hd, x.ha, x.hn, x.ht, x.hm⟩, fun base => ok_bad2 (bad_txt h t x) hb hrd S hf hg no no2 hd1 hd2 hd3 hd4, ?_, ?_⟩
  · obtain ⟨doc, pm, an, ctv, kV, rfl⟩ := h.fdEq
    exact Binds.all fun us hl => bd _ _ _ _ _ _ us hl
  · obtain ⟨doc, pm, an, ctv, kV, rfl⟩ := h.fdEq
    exact ⟨fun s us ws _ l1 l2 => .of_eq (bk _ _ _ _ _ _ us ws l1 l2), fun {vs us zs ws} r1 r2 => r1.append (vals_rev r2)⟩
where
  vals_rev {zs : List V} {ws : List Value} (r : Vals zs ws) : Vals zs.reverse ws.reverse := by
    induction r with
    | nil => exact .nil
    | cons a r ih =>
      rw [List.reverse_cons, List.reverse_cons]
      exact ih.append (.cons a .nil)
end
end K00
end K00End_text
section K00End2_text
set_option Elab.async false
set_option linter.all false
set_option maxRecDepth 100000
set_option maxHeartbeats 4000000
/-! k00: class by class. Printed by mkEnd2.py. -/
namespace K00
open PySem PySem.Spec PyProof.Rows L2 StX NdefX

section
variable {P : Program} {w : World} {K : PySem.W.Frag} {mg : Str → Option Value} {C f c cc g : Addr} {fd : FuncData}
theorem pap_txt {st : Stmt} {qual : Str} (h : InitK P K mg st qual C f c cc fd) (t : InitT st) (E : SupIns K C C g) : PapTxt P K mg ⟨"__init__", qual, defArgs st, defBody st, defScope st, [(("__class__" : Str), cc)], c⟩ C f cc g fd := by
  obtain ⟨cl, dd, sl, cell⟩ := h.cell
  exact ⟨rfl, h.fdEq, h.lk, h.hcd, ⟨cl, dd, _, sl, cell⟩, t.hks, t.hkc, t.hka, h.sup t, E⟩
theorem rel_rev {vs zs : List V} {us ws : List Value} (r1 : Vals vs us) (r2 : Vals zs ws) : Vals (gRev vs zs) (gRev us ws) := r1.append (bad_two.vals_rev r2)
theorem bad_0 (h : InitK P K mg (inClass (top 2) 0) "BadStep.__init__" C f c cc fd) (x : ExcK K C f) (no : PySem.W.findIn K (.ref C) "part" = some none) : BadG P w K mg C f fd ["self", "part"] ["part"] gApp gApp (spBad C "part") :=
  bad_one h ⟨⟨_, rfl, rfl⟩, by decide +kernel, by decide +kernel, by decide +kernel⟩ x no rfl ⟨_, fun env => rfl⟩ (nscope_by (by decide +kernel)) (by decide +kernel) (by decide +kernel) (by decide +kernel) (fun _ _ _ _ _ _ us hl => match us, hl with | [_, _], _ => rfl) (fun _ _ _ _ _ _ us ws h1 h2 => match us, ws, h1, h2 with | [_], [_], _, _ => rfl)
theorem bad_1 (h : InitK P K mg (inClass (top 3) 0) "BadForm.__init__" C f c cc fd) (x : ExcK K C f) (no : PySem.W.findIn K (.ref C) "part" = some none) : BadG P w K mg C f fd ["self", "part"] ["part"] gApp gApp (spBad C "part") :=
  bad_one h ⟨⟨_, rfl, rfl⟩, by decide +kernel, by decide +kernel, by decide +kernel⟩ x no rfl ⟨_, fun env => rfl⟩ (nscope_by (by decide +kernel)) (by decide +kernel) (by decide +kernel) (by decide +kernel) (fun _ _ _ _ _ _ us hl => match us, hl with | [_, _], _ => rfl) (fun _ _ _ _ _ _ us ws h1 h2 => match us, ws, h1, h2 with | [_], [_], _, _ => rfl)
theorem bad_2 (h : InitK P K mg (inClass (top 4) 0) "BadScheme.__init__" C f c cc fd) (x : ExcK K C f) (no : PySem.W.findIn K (.ref C) "part" = some none) : BadG P w K mg C f fd ["self", "part"] ["part"] gApp gApp (spBad C "part") :=
  bad_one h ⟨⟨_, rfl, rfl⟩, by decide +kernel, by decide +kernel, by decide +kernel⟩ x no rfl ⟨_, fun env => rfl⟩ (nscope_by (by decide +kernel)) (by decide +kernel) (by decide +kernel) (by decide +kernel) (fun _ _ _ _ _ _ us hl => match us, hl with | [_, _], _ => rfl) (fun _ _ _ _ _ _ us ws h1 h2 => match us, ws, h1, h2 with | [_], [_], _, _ => rfl)
theorem bad_3 (h : InitK P K mg (inClass (top 5) 0) "BadStore.__init__" C f c cc fd) (x : ExcK K C f) (no : PySem.W.findIn K (.ref C) "part" = some none) : BadG P w K mg C f fd ["self", "part"] ["part"] gApp gApp (spBad C "part") :=
  bad_one h ⟨⟨_, rfl, rfl⟩, by decide +kernel, by decide +kernel, by decide +kernel⟩ x no rfl ⟨_, fun env => rfl⟩ (nscope_by (by decide +kernel)) (by decide +kernel) (by decide +kernel) (by decide +kernel) (fun _ _ _ _ _ _ us hl => match us, hl with | [_, _], _ => rfl) (fun _ _ _ _ _ _ us ws h1 h2 => match us, ws, h1, h2 with | [_], [_], _, _ => rfl)
theorem bad_4 (h : InitK P K mg (inClass (top 6) 0) "BadValue.__init__" C f c cc fd) (x : ExcK K C f) (no : PySem.W.findIn K (.ref C) "part" = some none) : BadG P w K mg C f fd ["self", "part"] ["part"] gApp gApp (spBad C "part") :=
  bad_one h ⟨⟨_, rfl, rfl⟩, by decide +kernel, by decide +kernel, by decide +kernel⟩ x no rfl ⟨_, fun env => rfl⟩ (nscope_by (by decide +kernel)) (by decide +kernel) (by decide +kernel) (by decide +kernel) (fun _ _ _ _ _ _ us hl => match us, hl with | [_, _], _ => rfl) (fun _ _ _ _ _ _ us ws h1 h2 => match us, ws, h1, h2 with | [_], [_], _, _ => rfl)
theorem bad_5 (h : InitK P K mg (inClass (top 7) 0) "BadNumber.__init__" C f c cc fd) (x : ExcK K C f) (no : PySem.W.findIn K (.ref C) "part" = some none) : BadG P w K mg C f fd ["self", "part"] ["part"] gApp gApp (spBad C "part") :=
  bad_one h ⟨⟨_, rfl, rfl⟩, by decide +kernel, by decide +kernel, by decide +kernel⟩ x no rfl ⟨_, fun env => rfl⟩ (nscope_by (by decide +kernel)) (by decide +kernel) (by decide +kernel) (by decide +kernel) (fun _ _ _ _ _ _ us hl => match us, hl with | [_, _], _ => rfl) (fun _ _ _ _ _ _ us ws h1 h2 => match us, ws, h1, h2 with | [_], [_], _, _ => rfl)
theorem bad_6 (h : InitK P K mg (inClass (top 10) 0) "Misfit.__init__" C f c cc fd) (x : ExcK K C f) (no : PySem.W.findIn K (.ref C) "part" = some none) : BadG P w K mg C f fd ["self", "part"] ["part"] gApp gApp (spBad C "part") :=
  bad_one h ⟨⟨_, rfl, rfl⟩, by decide +kernel, by decide +kernel, by decide +kernel⟩ x no rfl ⟨_, fun env => rfl⟩ (nscope_by (by decide +kernel)) (by decide +kernel) (by decide +kernel) (by decide +kernel) (fun _ _ _ _ _ _ us hl => match us, hl with | [_, _], _ => rfl) (fun _ _ _ _ _ _ us ws h1 h2 => match us, ws, h1, h2 with | [_], [_], _, _ => rfl)
theorem bad_7 (h : InitK P K mg (inClass (top 11) 0) "Nothing.__init__" C f c cc fd) (x : ExcK K C f) (no : PySem.W.findIn K (.ref C) "part" = some none) : BadG P w K mg C f fd ["self", "part"] ["part"] gApp gApp (spBad C "part") :=
  bad_one h ⟨⟨_, rfl, rfl⟩, by decide +kernel, by decide +kernel, by decide +kernel⟩ x no rfl ⟨_, fun env => rfl⟩ (nscope_by (by decide +kernel)) (by decide +kernel) (by decide +kernel) (by decide +kernel) (fun _ _ _ _ _ _ us hl => match us, hl with | [_, _], _ => rfl) (fun _ _ _ _ _ _ us ws h1 h2 => match us, ws, h1, h2 with | [_], [_], _, _ => rfl)
theorem bad_8 (h : InitK P K mg (inClass (top 8) 0) "BadText.__init__" C f c cc fd) (x : ExcK K C f) (no : PySem.W.findIn K (.ref C) "word" = some none) : BadG P w K mg C f fd ["self", "word"] ["word"] gApp gApp (spBad C "word") :=
  bad_one h ⟨⟨_, rfl, rfl⟩, by decide +kernel, by decide +kernel, by decide +kernel⟩ x no rfl ⟨_, fun env => rfl⟩ (nscope_by (by decide +kernel)) (by decide +kernel) (by decide +kernel) (by decide +kernel) (fun _ _ _ _ _ _ us hl => match us, hl with | [_, _], _ => rfl) (fun _ _ _ _ _ _ us ws h1 h2 => match us, ws, h1, h2 with | [_], [_], _, _ => rfl)
theorem bad_9 (h : InitK P K mg (inClass (top 9) 0) "BadLine.__init__" C f c cc fd) (x : ExcK K C f) (no : PySem.W.findIn K (.ref C) "word" = some none) : BadG P w K mg C f fd ["self", "word"] ["word"] gApp gApp (spBad C "word") :=
  bad_one h ⟨⟨_, rfl, rfl⟩, by decide +kernel, by decide +kernel, by decide +kernel⟩ x no rfl ⟨_, fun env => rfl⟩ (nscope_by (by decide +kernel)) (by decide +kernel) (by decide +kernel) (by decide +kernel) (fun _ _ _ _ _ _ us hl => match us, hl with | [_, _], _ => rfl) (fun _ _ _ _ _ _ us ws h1 h2 => match us, ws, h1, h2 with | [_], [_], _, _ => rfl)
theorem bad_10 (h : InitK P K mg (inClass (top 12) 0) "TooMany.__init__" C f c cc fd) (x : ExcK K C f) (no : PySem.W.findIn K (.ref C) "what" = some none) (no2 : PySem.W.findIn K (.ref C) "most" = some none) : BadG P w K mg C f fd ["self", "what", "most"] ["most", "what"] gRev gRev (spBad2 C "what" "most") :=
  bad_two h ⟨⟨_, rfl, rfl⟩, by decide +kernel, by decide +kernel, by decide +kernel⟩ x no no2 rfl ⟨_, fun env => rfl⟩ (nscope_by (by decide +kernel)) (by decide +kernel) (by decide +kernel) (by decide +kernel) (by decide +kernel) (by decide +kernel) (by decide +kernel) (fun _ _ _ _ _ _ us hl => match us, hl with | [_, _, _], _ => rfl) (fun _ _ _ _ _ _ us ws h1 h2 => match us, ws, h1, h2 with | [_], [_, _], _, _ => rfl)
theorem own_Gear (h : InitK P K mg (inClass (top 19) 0) "Gear.__init__" C f c cc fd) (E : SupIns K C C g) (T1 : PapC K C) (G : ∀ base : Heap, FnR P w K mg base CX0 52 g (spPap K 50)) (no : ∀ x ∈ (["span", "step", "gain", "bound"] : List Str), NoAttr K C x) :
    (∀ base : Heap, FnOk P w K mg base CX0 53 f fd ["self", "span", "step", "gain", "bound"] (spOwn K C "gear" ["span", "step", "gain", "bound"])) ∧ Binds K fd ["self", "span", "step", "gain", "bound"] [] ∧ KBn K fd ["self", "span", "step", "gain", "bound"] 1 ["bound", "gain", "step", "span"] gRev gRev := by
  have S : NScope ["self", "span", "step", "gain", "bound", "__class__"] ["self", "span", "step", "gain", "bound"] ["__class__"] (defScope (inClass (top 19) 0)) := nscope_by (by decide +kernel)
  have hf : ∀ f ∈ (["span", "step", "gain", "bound"] : List Str), (defScope (inClass (top 19) 0)).names.lookup f = some NameKind.local := by decide +kernel
  refine ⟨fun base => ok_own4 (pap_txt h ⟨⟨_, rfl, rfl⟩, by decide +kernel, by decide +kernel, by decide +kernel⟩ E) T1 (G base) rfl ⟨_, fun env => rfl⟩ S hf no (by decide +kernel) (by decide +kernel) (by decide +kernel), ?_, ?_⟩
  · obtain ⟨doc, pm, an, ctv, kV, rfl⟩ := h.fdEq
    exact Binds.all fun us hl => match us, hl with | [_, _, _, _, _], _ => rfl
  · obtain ⟨doc, pm, an, ctv, kV, rfl⟩ := h.fdEq
    exact ⟨fun s us ws _ l1 l2 => .of_eq (match us, ws, l1, l2 with | [_], [_, _, _, _], _, _ => rfl), fun r1 r2 => rel_rev r1 r2⟩
theorem own_Stiff (h : InitK P K mg (inClass (top 20) 0) "Stiff.__init__" C f c cc fd) (E : SupIns K C C g) (T1 : PapC K C) (G : ∀ base : Heap, FnR P w K mg base CX0 52 g (spPap K 50)) (no : ∀ x ∈ (["span", "bound"] : List Str), NoAttr K C x) :
    (∀ base : Heap, FnOk P w K mg base CX0 53 f fd ["self", "span", "bound"] (spOwn K C "stiff" ["span", "bound"])) ∧ Binds K fd ["self", "span", "bound"] [] ∧ KBn K fd ["self", "span", "bound"] 1 ["bound", "span"] gRev gRev := by
  have S : NScope ["self", "span", "bound", "__class__"] ["self", "span", "bound"] ["__class__"] (defScope (inClass (top 20) 0)) := nscope_by (by decide +kernel)
  have hf : ∀ f ∈ (["span", "bound"] : List Str), (defScope (inClass (top 20) 0)).names.lookup f = some NameKind.local := by decide +kernel
  refine ⟨fun base => ok_own2 (pap_txt h ⟨⟨_, rfl, rfl⟩, by decide +kernel, by decide +kernel, by decide +kernel⟩ E) T1 (G base) rfl ⟨_, fun env => rfl⟩ S hf no (by decide +kernel) (by decide +kernel) (by decide +kernel), ?_, ?_⟩
  · obtain ⟨doc, pm, an, ctv, kV, rfl⟩ := h.fdEq
    exact Binds.all fun us hl => match us, hl with | [_, _, _], _ => rfl
  · obtain ⟨doc, pm, an, ctv, kV, rfl⟩ := h.fdEq
    exact ⟨fun s us ws _ l1 l2 => .of_eq (match us, ws, l1, l2 with | [_], [_, _], _, _ => rfl), fun r1 r2 => rel_rev r1 r2⟩
theorem own_Kit (h : InitK P K mg (inClass (top 22) 0) "Kit.__init__" C f c cc fd) (E : SupIns K C C g) (T1 : PapC K C) (G : ∀ base : Heap, FnR P w K mg base CX0 52 g (spPap K 50)) (no : ∀ x ∈ (["rows", "counts"] : List Str), NoAttr K C x) :
    (∀ base : Heap, FnOk P w K mg base CX0 53 f fd ["self", "rows", "counts"] (spOwn K C "kit" ["rows", "counts"])) ∧ Binds K fd ["self", "rows", "counts"] [] ∧ KBn K fd ["self", "rows", "counts"] 1 ["counts", "rows"] gRev gRev := by
  have S : NScope ["self", "rows", "counts", "__class__"] ["self", "rows", "counts"] ["__class__"] (defScope (inClass (top 22) 0)) := nscope_by (by decide +kernel)
  have hf : ∀ f ∈ (["rows", "counts"] : List Str), (defScope (inClass (top 22) 0)).names.lookup f = some NameKind.local := by decide +kernel
  refine ⟨fun base => ok_own2 (pap_txt h ⟨⟨_, rfl, rfl⟩, by decide +kernel, by decide +kernel, by decide +kernel⟩ E) T1 (G base) rfl ⟨_, fun env => rfl⟩ S hf no (by decide +kernel) (by decide +kernel) (by decide +kernel), ?_, ?_⟩
  · obtain ⟨doc, pm, an, ctv, kV, rfl⟩ := h.fdEq
    exact Binds.all fun us hl => match us, hl with | [_, _, _], _ => rfl
  · obtain ⟨doc, pm, an, ctv, kV, rfl⟩ := h.fdEq
    exact ⟨fun s us ws _ l1 l2 => .of_eq (match us, ws, l1, l2 with | [_], [_, _], _, _ => rfl), fun r1 r2 => rel_rev r1 r2⟩
theorem own_Finite (h : InitK P K mg (inClass (top 24) 0) "Finite.__init__" C f c cc fd) (E : SupIns K C C g) (T1 : PapC K C) (G : ∀ base : Heap, FnR P w K mg base CX0 52 g (spPap K 50)) (no : ∀ x ∈ (["modulus", "table", "chains"] : List Str), NoAttr K C x) :
    (∀ base : Heap, FnOk P w K mg base CX0 53 f fd ["self", "modulus", "table", "chains"] (spOwn K C "finite" ["modulus", "table", "chains"])) ∧ Binds K fd ["self", "modulus", "table", "chains"] [] ∧ KBn K fd ["self", "modulus", "table", "chains"] 1 ["chains", "table", "modulus"] gRev gRev := by
  have S : NScope ["self", "modulus", "table", "chains", "__class__"] ["self", "modulus", "table", "chains"] ["__class__"] (defScope (inClass (top 24) 0)) := nscope_by (by decide +kernel)
  have hf : ∀ f ∈ (["modulus", "table", "chains"] : List Str), (defScope (inClass (top 24) 0)).names.lookup f = some NameKind.local := by decide +kernel
  refine ⟨fun base => ok_own3 (pap_txt h ⟨⟨_, rfl, rfl⟩, by decide +kernel, by decide +kernel, by decide +kernel⟩ E) T1 (G base) rfl ⟨_, fun env => rfl⟩ S hf no (by decide +kernel) (by decide +kernel) (by decide +kernel), ?_, ?_⟩
  · obtain ⟨doc, pm, an, ctv, kV, rfl⟩ := h.fdEq
    exact Binds.all fun us hl => match us, hl with | [_, _, _, _], _ => rfl
  · obtain ⟨doc, pm, an, ctv, kV, rfl⟩ := h.fdEq
    exact ⟨fun s us ws _ l1 l2 => .of_eq (match us, ws, l1, l2 with | [_], [_, _, _], _, _ => rfl), fun r1 r2 => rel_rev r1 r2⟩
theorem own_Endless (h : InitK P K mg (inClass (top 25) 0) "Endless.__init__" C f c cc fd) (E : SupIns K C C g) (T1 : PapC K C) (G : ∀ base : Heap, FnR P w K mg base CX0 52 g (spPap K 50)) (no : ∀ x ∈ (["chain", "ring", "prime", "on"] : List Str), NoAttr K C x) :
    (∀ base : Heap, FnOk P w K mg base CX0 53 f fd ["self", "chain", "ring", "prime", "on"] (spOwn K C "endless" ["chain", "ring", "prime", "on"])) ∧ Binds K fd ["self", "chain", "ring", "prime", "on"] [] ∧ KBn K fd ["self", "chain", "ring", "prime", "on"] 1 ["on", "prime", "ring", "chain"] gRev gRev := by
  have S : NScope ["self", "chain", "ring", "prime", "on", "__class__"] ["self", "chain", "ring", "prime", "on"] ["__class__"] (defScope (inClass (top 25) 0)) := nscope_by (by decide +kernel)
  have hf : ∀ f ∈ (["chain", "ring", "prime", "on"] : List Str), (defScope (inClass (top 25) 0)).names.lookup f = some NameKind.local := by decide +kernel
  refine ⟨fun base => ok_own4 (pap_txt h ⟨⟨_, rfl, rfl⟩, by decide +kernel, by decide +kernel, by decide +kernel⟩ E) T1 (G base) rfl ⟨_, fun env => rfl⟩ S hf no (by decide +kernel) (by decide +kernel) (by decide +kernel), ?_, ?_⟩
  · obtain ⟨doc, pm, an, ctv, kV, rfl⟩ := h.fdEq
    exact Binds.all fun us hl => match us, hl with | [_, _, _, _, _], _ => rfl
  · obtain ⟨doc, pm, an, ctv, kV, rfl⟩ := h.fdEq
    exact ⟨fun s us ws _ l1 l2 => .of_eq (match us, ws, l1, l2 with | [_], [_, _, _, _], _, _ => rfl), fun r1 r2 => rel_rev r1 r2⟩
end
end K00
end K00End2_text
section K00End3_text
set_option Elab.async false
set_option linter.all false
set_option maxRecDepth 100000
set_option maxHeartbeats 4000000
/-! k00: raw facts, passed on one after the other. -/
namespace K00
open PySem PySem.Spec PyProof.Rows L2 StX NdefX

section
variable {P : Program} {w : World} {K : PySem.W.Frag} {mg : Str → Option Value} {base : Heap}
theorem scPB : FnScope ["self"] ["self"] (defScope sPBool) := ⟨rfl, rfl, rfl, by decide +kernel, rfl, by decide +kernel, by decide +kernel⟩
theorem scDB : FnScope ["self"] ["self"] (defScope sDBool) := ⟨rfl, rfl, rfl, by decide +kernel, rfl, by decide +kernel, by decide +kernel⟩
theorem ok_boolT {f : Addr} {fd : FuncData} (F : Fun K "__bool__" "Paper.__bool__" sPBool f fd) : FnOk P w K mg base CX0 1 f fd ["self"] (spBoolP true) := by
  refine F.ok scPB (fun vs H Q E h => ?_) (fun cdv A outer s H vs Q E hr h => ?_)
  · obtain ⟨a, rfl, _⟩ := h
    rfl
  · obtain ⟨a, rfl, k⟩ := h
    exact ⟨_, pss_one (ps_ret pe_bl), k⟩
theorem ok_boolF {f : Addr} {fd : FuncData} (F : Fun K "__bool__" "Denial.__bool__" sDBool f fd) : FnOk P w K mg base CX0 1 f fd ["self"] (spBoolP false) := by
  refine F.ok scDB (fun vs H Q E h => ?_) (fun cdv A outer s H vs Q E hr h => ?_)
  · obtain ⟨a, rfl, _⟩ := h
    rfl
  · obtain ⟨a, rfl, k⟩ := h
    exact ⟨_, pss_one (ps_ret pe_bl), k⟩
end
/-- what is free for all -/
structure Com (P : Program) (K : PySem.W.Frag) (mg : Str → Option Value) : Prop where
  free : mg "super" = none
  top : (P.main.scope.names.lookup ("super" : Str)).isSome = false
  any_ : PySem.W.nsIn K cStatics "thirdparty.any" = some none
  T : Free mg
section
variable {P : Program} {w : World} {K : PySem.W.Frag} {mg : Str → Option Value} {hh : Heap} {R : Prop}
theorem raw_com (X : K.In hh) (G : hh.Ns mainGlobals mg) (P : Program) (a1 : PySem.W.nsIn K mainGlobals "super" = some none) (a2 : (P.main.scope.names.lookup ("super" : Str)).isSome = false) (a3 : PySem.W.nsIn K cStatics "thirdparty.any" = some none)
    (b1 : PySem.W.nsIn K mainGlobals "isinstance" = some none) (b2 : PySem.W.nsIn K mainGlobals "list" = some none) (b3 : PySem.W.nsIn K mainGlobals "tuple" = some none) (b4 : PySem.W.nsIn K mainGlobals "bool" = some none)
    (b5 : PySem.W.nsIn K mainGlobals "len" = some none) (b6 : PySem.W.nsIn K mainGlobals "all" = some none) (b7 : PySem.W.nsIn K mainGlobals "zip" = some none) (b8 : PySem.W.nsIn K mainGlobals "int" = some none) (b9 : PySem.W.nsIn K mainGlobals "abs" = some none)
    (b10 : PySem.W.nsIn K mainGlobals "repr" = some none) (b11 : PySem.W.nsIn K mainGlobals "range" = some none) (b12 : PySem.W.nsIn K mainGlobals "enumerate" = some none) (b13 : PySem.W.nsIn K mainGlobals "ValueError" = some none) (k : Com P K mg → R) : R :=
  have z : ∀ {x : Str}, PySem.W.nsIn K mainGlobals x = some none → mg x = none := fun {x} h => PySem.W.mg_none_of X G h
  k ⟨z a1, a2, a3, ⟨z b1, z b2, z b3, z b4, z b5, z b6, z b7, z b8, z b9, z b10, z b11, z b12, z b13⟩⟩
theorem raw_fun (X : K.In hh) (G : hh.Ns mainGlobals mg) (st : Stmt) (nm : Str) {f : Addr} {oc kV doc pm cdv ct : Value} {od an : Option Addr} {osl : Array (Option Value)}
    (a1 : PySem.W.nsIn K mainGlobals nm = some (some (.ref f))) (a2 : K.lookup f = some ⟨oc, od, .func (PySem.W.fnOf nm nm (defArgs st) (defBody st) (defScope st) .none kV doc pm an cdv ct), osl⟩) (a3 : PySem.W.codeIn K cdv nm = true) (a4 : PySem.W.keepIn K (.ref f) = true)
    (k : mg nm = some (.ref f) → (∃ fd, Fun K nm nm st f fd) → R) : R := k (PySem.W.mg_of X G a1) ⟨_, fun_mk a2 a3 a4⟩
/-- a class's method -/
theorem raw_meth (X : K.In hh) (st : Stmt) (cn : Str) {C : Addr} (hg : mg cn = some (.ref C)) (nm qual : Str) {f : Addr} {oc kV doc pm cdv ct : Value} {od an : Option Addr} {osl : Array (Option Value)}
    (a1 : PySem.W.findIn K (.ref C) nm = some (some (.ref f))) (a2 : K.lookup f = some ⟨oc, od, .func (PySem.W.fnOf nm qual (defArgs st) (defBody st) (defScope st) .none kV doc pm an cdv ct), osl⟩) (a3 : PySem.W.codeIn K cdv qual = true) (a4 : PySem.W.keepIn K (.ref f) = true) (a5 : PySem.W.isFn K (.ref f) = true)
    (k : PySem.W.findIn K (.ref C) nm = some (some (.ref f)) → PySem.W.isFn K (.ref f) = true → (∃ fd, Fun K nm qual st f fd) → R) : R := k a1 a5 ⟨_, fun_mk a2 a3 a4⟩
theorem raw_cls (X : K.In hh) (G : hh.Ns mainGlobals mg) (nm : Str) {C : Addr} (a1 : PySem.W.nsIn K mainGlobals nm = some (some (.ref C))) (k : mg nm = some (.ref C) → R) : R := k (PySem.W.mg_of X G a1)
/-- an __init__ that says super() -/
theorem raw_init (X : K.In hh) (cm : Com P K mg) (st : Stmt) (qual cn : Str) {C : Addr} (hg : mg cn = some (.ref C)) {f c cc : Addr} {oc kV doc pm ct cl1 cl2 : Value} {od an dd1 dd2 : Option Addr} {osl sl1 sl2 : Array (Option Value)} {clo : List (Str × Addr)} {vs : Array Value} {file : Str} {tf : Nat} {cd : ClassData}
    (a1 : PySem.W.findIn K (.ref C) "__init__" = some (some (.ref f))) (a2 : K.lookup f = some (⟨oc, od, .func (PySem.W.fnX "__init__" qual (defArgs st) (defBody st) (defScope st) clo .none kV doc pm an (.ref c) ct), osl⟩ : Obj))
    (a3 : K.lookup c = some (⟨cl1, dd1, .fields vs, sl1⟩ : Obj)) (a4 : clo = [(("__class__" : Str), cc)]) (a5 : K.lookup cc = some (⟨cl2, dd2, .cell (some (.ref C)), sl2⟩ : Obj)) (a6 : vs[2]? = some (.str file tf)) (a7 : ((P.main.file : Str) == file) = true)
    (a8 : PySem.W.clsIn K C = some cd) (a9 : PySem.W.codeIn K (.ref c) qual = true)
    (k : PySem.W.findIn K (.ref C) "__init__" = some (some (.ref f)) → (∃ c cc fd, InitK P K mg st qual C f c cc fd) → R) : R :=
  k a1 ⟨c, cc, _, ⟨doc, pm, an, ct, kV, by rw [a4]⟩, ⟨oc, od, osl, a2⟩, a9, ⟨cl1, dd1, vs, sl1, file, tf, a3, a6, a7⟩, ⟨cl2, dd2, sl2, a5⟩, ⟨cd, a8⟩, cm.free, cm.top, cm.any_⟩
theorem raw_exc (X : K.In hh) {C f : Addr} (ini : PySem.W.findIn K (.ref C) "__init__" = some (some (.ref f))) {nm q : Str} {N : Addr} {bs bm : List Value} {sn : List Str} {sub : List Value} {ab : Bool} {col : Option Bool} {dd : Option Addr} {k0 k1 k2 k3 k5 : Option Value}
    (a1 : K.lookup C = some (excClassObj nm q C N bs bm true sn sub ab col dd k0 k1 k2 k3 k5 "ValueError.__new__")) (a2 : PySem.HandSPX.refsVE bm = true)
    (b1 : PySem.W.findIn K (.ref C) "__setattr__" = some (some (.builtin "object.__setattr__")))
    (b2 : PySem.W.subIn K (.ref C) (.type "BaseException") = some true)
    (b3 : PySem.W.typeIn K (.ref C) = some (.type "type"))
    (b4 : PySem.W.keepIn K (.ref C) = true)
    (b5 : PySem.W.typeIn K (.ref f) = some (.type "function"))
    (b6 : PySem.W.findIn K (.ref C) "__getattribute__" = some (some (.builtin "BaseException.__getattribute__")))
    (b7 : PySem.W.findIn K (.ref C) "__getattr__" = some none)
    (b8 : PySem.W.hasDictIn K C = true)
    (b9 : PySem.W.findIn K (.ref C) "__class__" = some (some (.builtin "object.__class__")))
    (b10 : PySem.W.specialIn K (.builtin "object.__class__") "__get__" = some (some (.builtin "getset_descriptor.__get__")))
    (b11 : PySem.W.takesIn K (.builtin "object.__class__") = some true)
    (b12 : PySem.W.mroIn K C (.type "object") = some true)
    (b13 : PySem.W.mroIn K C (.ref C) = some true)
    (b14 : PySem.W.ks_superIn K C C "__init__" = some (some (.builtin "ValueError.__init__")))
    (b15 : PySem.W.subIn K (.ref C) (.type "ValueError") = some true) (k : ExcK K C f → R) : R :=
  k ⟨⟨nm, q, N, bs, bm, sn, sub, ab, col, dd, k0, k1, k2, k3, k5, a1, a2⟩, b1, b2, b3, b4, ini, b5, b6, b7, b8, b9, b10, b11, b12, b13, b14, b15⟩
/-- a paper's class -/
theorem raw_pap (X : K.In hh) {C f : Addr} (nm : Str) (hg : mg nm = some (.ref C)) (ini : PySem.W.findIn K (.ref C) "__init__" = some (some (.ref f))) {CB fB : Addr} (hB : PySem.W.findIn K (.ref CB) "__bool__" = some (some (.ref fB)))
    (a1 : PySem.W.plainGet K C Str.empty = true) (a2 : PySem.W.hasDictIn K C = true) (a3 : PySem.W.plainOver K C = true) (a4 : PySem.W.findIn K (.ref C) "__setattr__" = some (some (.builtin "object.__setattr__")))
    (a5 : PySem.W.findIn K (.ref C) "word" = some none) (a6 : PySem.W.findIn K (.ref C) "parts" = some none) (a7 : PySem.W.makesIn K C = true) (a8 : PySem.W.isFn K (.ref f) = true) (a9 : PySem.W.keepIn K (.ref C) = true)
    (b1 : PySem.W.findIn K (.ref C) "__bool__" = some (some (.ref fB)))
    (k : PapC K C → Mk K C f → PySem.W.findIn K (.ref C) "__bool__" = some (some (.ref fB)) → R) : R :=
  k ⟨⟨a1, a2, a3, a4⟩, a5, a6⟩ ⟨a7, ini, a8, a9⟩ b1
theorem raw_pap0 (X : K.In hh) {C f CP : Addr} (nm : Str) (hg : mg nm = some (.ref C)) (ini : PySem.W.findIn K (.ref CP) "__init__" = some (some (.ref f))) {CB fB : Addr} (hB : PySem.W.findIn K (.ref CB) "__bool__" = some (some (.ref fB)))
    (a0 : PySem.W.findIn K (.ref C) "__init__" = some (some (.ref f)))
    (a1 : PySem.W.plainGet K C Str.empty = true) (a2 : PySem.W.hasDictIn K C = true) (a3 : PySem.W.plainOver K C = true) (a4 : PySem.W.findIn K (.ref C) "__setattr__" = some (some (.builtin "object.__setattr__")))
    (a5 : PySem.W.findIn K (.ref C) "word" = some none) (a6 : PySem.W.findIn K (.ref C) "parts" = some none) (a7 : PySem.W.makesIn K C = true) (a8 : PySem.W.isFn K (.ref f) = true) (a9 : PySem.W.keepIn K (.ref C) = true)
    (b1 : PySem.W.findIn K (.ref C) "__bool__" = some (some (.ref fB)))
    (k : PapC K C → Mk K C f → PySem.W.findIn K (.ref C) "__bool__" = some (some (.ref fB)) → R) : R :=
  k ⟨⟨a1, a2, a3, a4⟩, a5, a6⟩ ⟨a7, a0, a8, a9⟩ b1
theorem raw_no (X : K.In hh) (nm : Str) {C : Addr} (hg : mg nm = some (.ref C)) (x : Str) (a : PySem.W.findIn K (.ref C) x = some none) (k : PySem.W.findIn K (.ref C) x = some none → R) : R := k a
theorem raw_sup (X : K.In hh) (nm : Str) {C : Addr} (hg : mg nm = some (.ref C)) {CP g : Addr} (hi : PySem.W.findIn K (.ref CP) "__init__" = some (some (.ref g))) (a1 : PySem.W.mroIn K C (.ref C) = some true) (a2 : PySem.W.ks_superIn K C C "__init__" = some (some (.ref g))) (a3 : PySem.W.typeIn K (.ref g) = some (.type "function")) (a4 : PySem.W.fnIn K g = true)
    (k : SupIns K C C g → R) : R := k ⟨a1, a2, a3, a4⟩
theorem raw_nm (X : K.In hh) (cm : Com P K mg) (nm : Str) {C : Addr} (hg : mg nm = some (.ref C)) {CP fEq : Addr} (gP : mg "Paper" = some (.ref CP)) (hq : PySem.W.findIn K (.ref CP) "__eq__" = some (some (.ref fEq))) {cl : Value} {dd : Option Addr} {cd : ClassData} {sl : Array (Option Value)} {tk : Nat}
    (a1 : K.lookup C = some (⟨cl, dd, .cls cd, sl⟩ : Obj)) (a2 : sl[2]? = some (some (.str nm tk))) (a3 : PySem.W.typeIn K (.ref C) = some (.type "type"))
    (a4 : PySem.W.findCls K (.ref C) (.type "type") "__name__" = some (.get (.builtin "getset_descriptor.__get__") (.builtin "type.__name__") (.ref C) (.type "type"))) (a5 : PySem.W.isClsIn K C = true)
    (a6 : PySem.W.findIn K (.ref C) "__class__" = some (some (.builtin "object.__class__"))) (a7 : PySem.W.specialIn K (.builtin "object.__class__") "__get__" = some (some (.builtin "getset_descriptor.__get__"))) (a8 : PySem.W.takesIn K (.builtin "object.__class__") = some true) (a9 : PySem.W.mroIn K C (.type "object") = some true)
    (b1 : PySem.W.kitOne K (.ref C) (.ref CP) = some true) (b2 : PySem.W.findIn K (.ref C) "__eq__" = some (some (.ref fEq))) (b3 : PySem.W.findIn K (.ref C) "__ne__" = some (some (.builtin "object.__ne__")))
    (k : NmC K C nm → PySem.W.kitOne K (.ref C) (.ref CP) = some true → EqOwn K C fEq → R) : R :=
  k ⟨⟨cl, dd, cd, sl, tk, a1, a2⟩, a3, cm.any_, a4, a5, a6, a7, a8, a9⟩ b1 ⟨b2, b3⟩
/-- which error is of which class -/
def kitMat (K : PySem.W.Frag) (es : List Addr) : Bool := (List.range 11).all fun i => (List.range 11).all fun j => PySem.W.kitOne K (.ref (es.getD i 0)) (.ref (es.getD j 0)) == some (decide (i = j))
def kitCol (K : PySem.W.Frag) (es : List Addr) (v : Value) : Bool := (List.range 11).all fun i => PySem.W.kitOne K (.ref (es.getD i 0)) v == some true
theorem kitMat_at {es : List Addr} (h : kitMat K es = true) : ∀ i j, i < 11 → j < 11 → PySem.W.kitOne K (.ref (es.getD i 0)) (.ref (es.getD j 0)) = some (decide (i = j)) := fun i j hi hj => by
  have h1 := List.all_eq_true.mp (List.all_eq_true.mp h i (List.mem_range.mpr hi)) j (List.mem_range.mpr hj)
  exact eq_of_beq h1
theorem kitCol_at {es : List Addr} {v : Value} (h : kitCol K es v = true) : ∀ i, i < 11 → PySem.W.kitOne K (.ref (es.getD i 0)) v = some true := fun i hi => eq_of_beq (List.all_eq_true.mp h i (List.mem_range.mpr hi))
theorem raw_kit (X : K.In hh) (G : hh.Ns mainGlobals mg) {e0 e1 e2 e3 e4 e5 e6 e7 e8 e9 e10 PE : Addr}
    (g0 : mg "BadStep" = some (.ref e0)) (g1 : mg "BadForm" = some (.ref e1)) (g2 : mg "BadScheme" = some (.ref e2)) (g3 : mg "BadStore" = some (.ref e3)) (g4 : mg "BadValue" = some (.ref e4)) (g5 : mg "BadNumber" = some (.ref e5))
    (g6 : mg "Misfit" = some (.ref e6)) (g7 : mg "Nothing" = some (.ref e7)) (g8 : mg "BadText" = some (.ref e8)) (g9 : mg "BadLine" = some (.ref e9)) (g10 : mg "TooMany" = some (.ref e10)) (gP : mg "PartsError" = some (.ref PE))
    (a1 : kitMat K [e0, e1, e2, e3, e4, e5, e6, e7, e8, e9, e10] = true) (a2 : kitCol K [e0, e1, e2, e3, e4, e5, e6, e7, e8, e9, e10] (.ref PE) = true) (a3 : kitCol K [e0, e1, e2, e3, e4, e5, e6, e7, e8, e9, e10] (.type "ValueError") = true)
    (k : kitMat K [e0, e1, e2, e3, e4, e5, e6, e7, e8, e9, e10] = true → kitCol K [e0, e1, e2, e3, e4, e5, e6, e7, e8, e9, e10] (.ref PE) = true → kitCol K [e0, e1, e2, e3, e4, e5, e6, e7, e8, e9, e10] (.type "ValueError") = true → R) : R := k a1 a2 a3
theorem raw_last (X : K.In hh) {CP CD : Addr} (gP : mg "Paper" = some (.ref CP)) (gD : mg "Denial" = some (.ref CD)) (a1 : CD ≠ CP) (a2 : PySem.W.subIn K (.ref CD) (.ref CP) = some true) (a3 : PySem.W.kitOne K (.type "tuple") (.ref CP) = some false) (a4 : PySem.W.kitOne K (.type "NoneType") (.ref CP) = some false)
    (a5 : PySem.W.notFirst K CP (.type "tuple") = true) (a6 : PySem.W.notFirst K CP (.type "NoneType") = true) (a7 : PySem.W.kitOne K (.ref CP) (.ref CD) = some false)
    (k : (CD ≠ CP ∧ PySem.W.subIn K (.ref CD) (.ref CP) = some true ∧ PySem.W.kitOne K (.type "tuple") (.ref CP) = some false ∧ PySem.W.kitOne K (.type "NoneType") (.ref CP) = some false ∧ PySem.W.notFirst K CP (.type "tuple") = true ∧ PySem.W.notFirst K CP (.type "NoneType") = true ∧ PySem.W.kitOne K (.ref CP) (.ref CD) = some false) → R) : R :=
  k ⟨a1, a2, a3, a4, a5, a6, a7⟩
end
theorem all11 {Q : Nat → Prop} (q0 : Q 0) (q1 : Q 1) (q2 : Q 2) (q3 : Q 3) (q4 : Q 4) (q5 : Q 5) (q6 : Q 6) (q7 : Q 7) (q8 : Q 8) (q9 : Q 9) (q10 : Q 10) : ∀ i, i < 11 → Q i
  | 0, _ => q0 | 1, _ => q1 | 2, _ => q2 | 3, _ => q3 | 4, _ => q4 | 5, _ => q5 | 6, _ => q6 | 7, _ => q7 | 8, _ => q8 | 9, _ => q9 | 10, _ => q10
  | n + 11, h => absurd h (by omega)
theorem all8 {Q : Nat → Prop} (q0 : Q 0) (q1 : Q 1) (q2 : Q 2) (q3 : Q 3) (q4 : Q 4) (q5 : Q 5) (q6 : Q 6) (q7 : Q 7) : ∀ i, i < 8 → Q i
  | 0, _ => q0 | 1, _ => q1 | 2, _ => q2 | 3, _ => q3 | 4, _ => q4 | 5, _ => q5 | 6, _ => q6 | 7, _ => q7
  | n + 8, h => absurd h (by omega)
theorem all89 {Q : Nat → Prop} (q8 : Q 8) (q9 : Q 9) : ∀ i, 8 ≤ i → i < 10 → Q i
  | 8, _, _ => q8 | 9, _, _ => q9
  | n + 10, _, h => absurd h (by omega)
  | 0, h, _ => absurd h (by decide) | 1, h, _ => absurd h (by decide) | 2, h, _ => absurd h (by decide) | 3, h, _ => absurd h (by decide) | 4, h, _ => absurd h (by decide) | 5, h, _ => absurd h (by decide) | 6, h, _ => absurd h (by decide) | 7, h, _ => absurd h (by decide)
end K00
end K00End3_text
section K00End4_text
set_option Elab.async false
set_option linter.all false
set_option maxRecDepth 100000
set_option maxHeartbeats 4000000
/-! k00: all joined. Printed by mkEnd4.py. -/
namespace K00
open PySem PySem.Spec PyProof.Rows L2 StX NdefX

theorem fin {P : Program} {w : World} {K : PySem.W.Frag} {mg : Str → Option Value} {fa : Addr} (hfa : mg "law" = some (.ref fa))
    {afixed aare_like a_law_pen a_law_draw a_law_pick a_law_any a_law_tupled alaw CBadStep iBadStep CBadForm iBadForm CBadScheme iBadScheme CBadStore iBadStore CBadValue iBadValue CBadNumber iBadNumber CMisfit iMisfit CNothing iNothing CBadText iBadText CBadLine iBadLine CTooMany iTooMany PE CPaper miniPaper mbPaper mqPaper CDenial mbDenial CGear iGear CStiff iStiff CKit iKit CFinite iFinite CEndless iEndless : Addr}
    (cm : Com P K mg)
    (gfixed : mg "fixed" = some (.ref afixed))
    (ffixed : ∃ fd, Fun K "fixed" "fixed" (top 14) afixed fd)
    (gare_like : mg "are_like" = some (.ref aare_like))
    (fare_like : ∃ fd, Fun K "are_like" "are_like" (top 15) aare_like fd)
    (g_law_pen : mg "_law_pen" = some (.ref a_law_pen))
    (f_law_pen : ∃ fd, Fun K "_law_pen" "_law_pen" (top 27) a_law_pen fd)
    (g_law_draw : mg "_law_draw" = some (.ref a_law_draw))
    (f_law_draw : ∃ fd, Fun K "_law_draw" "_law_draw" (top 28) a_law_draw fd)
    (g_law_pick : mg "_law_pick" = some (.ref a_law_pick))
    (f_law_pick : ∃ fd, Fun K "_law_pick" "_law_pick" (top 29) a_law_pick fd)
    (g_law_any : mg "_law_any" = some (.ref a_law_any))
    (f_law_any : ∃ fd, Fun K "_law_any" "_law_any" (top 30) a_law_any fd)
    (g_law_tupled : mg "_law_tupled" = some (.ref a_law_tupled))
    (f_law_tupled : ∃ fd, Fun K "_law_tupled" "_law_tupled" (top 31) a_law_tupled fd)
    (glaw : mg "law" = some (.ref alaw))
    (flaw : ∃ fd, Fun K "law" "law" (top 32) alaw fd)
    (gBadStep : mg "BadStep" = some (.ref CBadStep))
    (iniBadStep : PySem.W.findIn K (.ref CBadStep) "__init__" = some (some (.ref iBadStep)))
    (itBadStep : ∃ c cc fd, InitK P K mg (inClass (top 2) 0) "BadStep.__init__" CBadStep iBadStep c cc fd)
    (exBadStep : ExcK K CBadStep iBadStep)
    (noBadStep0 : PySem.W.findIn K (.ref CBadStep) "part" = some none)
    (gBadForm : mg "BadForm" = some (.ref CBadForm))
    (iniBadForm : PySem.W.findIn K (.ref CBadForm) "__init__" = some (some (.ref iBadForm)))
    (itBadForm : ∃ c cc fd, InitK P K mg (inClass (top 3) 0) "BadForm.__init__" CBadForm iBadForm c cc fd)
    (exBadForm : ExcK K CBadForm iBadForm)
    (noBadForm0 : PySem.W.findIn K (.ref CBadForm) "part" = some none)
    (gBadScheme : mg "BadScheme" = some (.ref CBadScheme))
    (iniBadScheme : PySem.W.findIn K (.ref CBadScheme) "__init__" = some (some (.ref iBadScheme)))
    (itBadScheme : ∃ c cc fd, InitK P K mg (inClass (top 4) 0) "BadScheme.__init__" CBadScheme iBadScheme c cc fd)
    (exBadScheme : ExcK K CBadScheme iBadScheme)
    (noBadScheme0 : PySem.W.findIn K (.ref CBadScheme) "part" = some none)
    (gBadStore : mg "BadStore" = some (.ref CBadStore))
    (iniBadStore : PySem.W.findIn K (.ref CBadStore) "__init__" = some (some (.ref iBadStore)))
    (itBadStore : ∃ c cc fd, InitK P K mg (inClass (top 5) 0) "BadStore.__init__" CBadStore iBadStore c cc fd)
    (exBadStore : ExcK K CBadStore iBadStore)
    (noBadStore0 : PySem.W.findIn K (.ref CBadStore) "part" = some none)
    (gBadValue : mg "BadValue" = some (.ref CBadValue))
    (iniBadValue : PySem.W.findIn K (.ref CBadValue) "__init__" = some (some (.ref iBadValue)))
    (itBadValue : ∃ c cc fd, InitK P K mg (inClass (top 6) 0) "BadValue.__init__" CBadValue iBadValue c cc fd)
    (exBadValue : ExcK K CBadValue iBadValue)
    (noBadValue0 : PySem.W.findIn K (.ref CBadValue) "part" = some none)
    (gBadNumber : mg "BadNumber" = some (.ref CBadNumber))
    (iniBadNumber : PySem.W.findIn K (.ref CBadNumber) "__init__" = some (some (.ref iBadNumber)))
    (itBadNumber : ∃ c cc fd, InitK P K mg (inClass (top 7) 0) "BadNumber.__init__" CBadNumber iBadNumber c cc fd)
    (exBadNumber : ExcK K CBadNumber iBadNumber)
    (noBadNumber0 : PySem.W.findIn K (.ref CBadNumber) "part" = some none)
    (gMisfit : mg "Misfit" = some (.ref CMisfit))
    (iniMisfit : PySem.W.findIn K (.ref CMisfit) "__init__" = some (some (.ref iMisfit)))
    (itMisfit : ∃ c cc fd, InitK P K mg (inClass (top 10) 0) "Misfit.__init__" CMisfit iMisfit c cc fd)
    (exMisfit : ExcK K CMisfit iMisfit)
    (noMisfit0 : PySem.W.findIn K (.ref CMisfit) "part" = some none)
    (gNothing : mg "Nothing" = some (.ref CNothing))
    (iniNothing : PySem.W.findIn K (.ref CNothing) "__init__" = some (some (.ref iNothing)))
    (itNothing : ∃ c cc fd, InitK P K mg (inClass (top 11) 0) "Nothing.__init__" CNothing iNothing c cc fd)
    (exNothing : ExcK K CNothing iNothing)
    (noNothing0 : PySem.W.findIn K (.ref CNothing) "part" = some none)
    (gBadText : mg "BadText" = some (.ref CBadText))
    (iniBadText : PySem.W.findIn K (.ref CBadText) "__init__" = some (some (.ref iBadText)))
    (itBadText : ∃ c cc fd, InitK P K mg (inClass (top 8) 0) "BadText.__init__" CBadText iBadText c cc fd)
    (exBadText : ExcK K CBadText iBadText)
    (noBadText0 : PySem.W.findIn K (.ref CBadText) "word" = some none)
    (gBadLine : mg "BadLine" = some (.ref CBadLine))
    (iniBadLine : PySem.W.findIn K (.ref CBadLine) "__init__" = some (some (.ref iBadLine)))
    (itBadLine : ∃ c cc fd, InitK P K mg (inClass (top 9) 0) "BadLine.__init__" CBadLine iBadLine c cc fd)
    (exBadLine : ExcK K CBadLine iBadLine)
    (noBadLine0 : PySem.W.findIn K (.ref CBadLine) "word" = some none)
    (gTooMany : mg "TooMany" = some (.ref CTooMany))
    (iniTooMany : PySem.W.findIn K (.ref CTooMany) "__init__" = some (some (.ref iTooMany)))
    (itTooMany : ∃ c cc fd, InitK P K mg (inClass (top 12) 0) "TooMany.__init__" CTooMany iTooMany c cc fd)
    (exTooMany : ExcK K CTooMany iTooMany)
    (noTooMany0 : PySem.W.findIn K (.ref CTooMany) "what" = some none)
    (noTooMany1 : PySem.W.findIn K (.ref CTooMany) "most" = some none)
    (gPE : mg "PartsError" = some (.ref PE))
    (km : kitMat K [CBadStep, CBadForm, CBadScheme, CBadStore, CBadValue, CBadNumber, CMisfit, CNothing, CBadText, CBadLine, CTooMany] = true)
    (kp : kitCol K [CBadStep, CBadForm, CBadScheme, CBadStore, CBadValue, CBadNumber, CMisfit, CNothing, CBadText, CBadLine, CTooMany] (.ref PE) = true)
    (kv : kitCol K [CBadStep, CBadForm, CBadScheme, CBadStore, CBadValue, CBadNumber, CMisfit, CNothing, CBadText, CBadLine, CTooMany] (.type "ValueError") = true)
    (gPaper : mg "Paper" = some (.ref CPaper))
    (iniPaper : PySem.W.findIn K (.ref CPaper) "__init__" = some (some (.ref miniPaper)))
    (isiPaper : PySem.W.isFn K (.ref miniPaper) = true)
    (fiPaper : ∃ fd, Fun K "__init__" "Paper.__init__" sPInit miniPaper fd)
    (bPaper : PySem.W.findIn K (.ref CPaper) "__bool__" = some (some (.ref mbPaper)))
    (isbPaper : PySem.W.isFn K (.ref mbPaper) = true)
    (fbPaper : ∃ fd, Fun K "__bool__" "Paper.__bool__" sPBool mbPaper fd)
    (qPaper : PySem.W.findIn K (.ref CPaper) "__eq__" = some (some (.ref mqPaper)))
    (isqPaper : PySem.W.isFn K (.ref mqPaper) = true)
    (fqPaper : ∃ fd, Fun K "__eq__" "Paper.__eq__" sPEq mqPaper fd)
    (pcPaper : PapC K CPaper)
    (mkPaper : Mk K CPaper miniPaper)
    (hbPaper : PySem.W.findIn K (.ref CPaper) "__bool__" = some (some (.ref mbPaper)))
    (nmPaper : NmC K CPaper "Paper")
    (isPaper : PySem.W.kitOne K (.ref CPaper) (.ref CPaper) = some true)
    (eqPaper : EqOwn K CPaper mqPaper)
    (gDenial : mg "Denial" = some (.ref CDenial))
    (bDenial : PySem.W.findIn K (.ref CDenial) "__bool__" = some (some (.ref mbDenial)))
    (isbDenial : PySem.W.isFn K (.ref mbDenial) = true)
    (fbDenial : ∃ fd, Fun K "__bool__" "Denial.__bool__" sDBool mbDenial fd)
    (pcDenial : PapC K CDenial)
    (mkDenial : Mk K CDenial miniPaper)
    (hbDenial : PySem.W.findIn K (.ref CDenial) "__bool__" = some (some (.ref mbDenial)))
    (nmDenial : NmC K CDenial "Denial")
    (isDenial : PySem.W.kitOne K (.ref CDenial) (.ref CPaper) = some true)
    (eqDenial : EqOwn K CDenial mqPaper)
    (gGear : mg "Gear" = some (.ref CGear))
    (iniGear : PySem.W.findIn K (.ref CGear) "__init__" = some (some (.ref iGear)))
    (itGear : ∃ c cc fd, InitK P K mg (inClass (top 19) 0) "Gear.__init__" CGear iGear c cc fd)
    (pcGear : PapC K CGear)
    (mkGear : Mk K CGear iGear)
    (hbGear : PySem.W.findIn K (.ref CGear) "__bool__" = some (some (.ref mbPaper)))
    (suGear : SupIns K CGear CGear miniPaper)
    (noGear0 : PySem.W.findIn K (.ref CGear) "span" = some none)
    (noGear1 : PySem.W.findIn K (.ref CGear) "step" = some none)
    (noGear2 : PySem.W.findIn K (.ref CGear) "gain" = some none)
    (noGear3 : PySem.W.findIn K (.ref CGear) "bound" = some none)
    (gStiff : mg "Stiff" = some (.ref CStiff))
    (iniStiff : PySem.W.findIn K (.ref CStiff) "__init__" = some (some (.ref iStiff)))
    (itStiff : ∃ c cc fd, InitK P K mg (inClass (top 20) 0) "Stiff.__init__" CStiff iStiff c cc fd)
    (pcStiff : PapC K CStiff)
    (mkStiff : Mk K CStiff iStiff)
    (hbStiff : PySem.W.findIn K (.ref CStiff) "__bool__" = some (some (.ref mbDenial)))
    (suStiff : SupIns K CStiff CStiff miniPaper)
    (noStiff0 : PySem.W.findIn K (.ref CStiff) "span" = some none)
    (noStiff1 : PySem.W.findIn K (.ref CStiff) "bound" = some none)
    (gKit : mg "Kit" = some (.ref CKit))
    (iniKit : PySem.W.findIn K (.ref CKit) "__init__" = some (some (.ref iKit)))
    (itKit : ∃ c cc fd, InitK P K mg (inClass (top 22) 0) "Kit.__init__" CKit iKit c cc fd)
    (pcKit : PapC K CKit)
    (mkKit : Mk K CKit iKit)
    (hbKit : PySem.W.findIn K (.ref CKit) "__bool__" = some (some (.ref mbPaper)))
    (suKit : SupIns K CKit CKit miniPaper)
    (noKit0 : PySem.W.findIn K (.ref CKit) "rows" = some none)
    (noKit1 : PySem.W.findIn K (.ref CKit) "counts" = some none)
    (gFinite : mg "Finite" = some (.ref CFinite))
    (iniFinite : PySem.W.findIn K (.ref CFinite) "__init__" = some (some (.ref iFinite)))
    (itFinite : ∃ c cc fd, InitK P K mg (inClass (top 24) 0) "Finite.__init__" CFinite iFinite c cc fd)
    (pcFinite : PapC K CFinite)
    (mkFinite : Mk K CFinite iFinite)
    (hbFinite : PySem.W.findIn K (.ref CFinite) "__bool__" = some (some (.ref mbPaper)))
    (suFinite : SupIns K CFinite CFinite miniPaper)
    (noFinite0 : PySem.W.findIn K (.ref CFinite) "modulus" = some none)
    (noFinite1 : PySem.W.findIn K (.ref CFinite) "table" = some none)
    (noFinite2 : PySem.W.findIn K (.ref CFinite) "chains" = some none)
    (gEndless : mg "Endless" = some (.ref CEndless))
    (iniEndless : PySem.W.findIn K (.ref CEndless) "__init__" = some (some (.ref iEndless)))
    (itEndless : ∃ c cc fd, InitK P K mg (inClass (top 25) 0) "Endless.__init__" CEndless iEndless c cc fd)
    (pcEndless : PapC K CEndless)
    (mkEndless : Mk K CEndless iEndless)
    (hbEndless : PySem.W.findIn K (.ref CEndless) "__bool__" = some (some (.ref mbDenial)))
    (suEndless : SupIns K CEndless CEndless miniPaper)
    (noEndless0 : PySem.W.findIn K (.ref CEndless) "chain" = some none)
    (noEndless1 : PySem.W.findIn K (.ref CEndless) "ring" = some none)
    (noEndless2 : PySem.W.findIn K (.ref CEndless) "prime" = some none)
    (noEndless3 : PySem.W.findIn K (.ref CEndless) "on" = some none)
    (nmGear : NmC K CGear "Gear")
    (isGear : PySem.W.kitOne K (.ref CGear) (.ref CPaper) = some true)
    (eqGear : EqOwn K CGear mqPaper)
    (last : CDenial ≠ CPaper ∧ PySem.W.subIn K (.ref CDenial) (.ref CPaper) = some true ∧ PySem.W.kitOne K (.type "tuple") (.ref CPaper) = some false ∧ PySem.W.kitOne K (.type "NoneType") (.ref CPaper) = some false ∧ PySem.W.notFirst K CPaper (.type "tuple") = true ∧ PySem.W.notFirst K CPaper (.type "NoneType") = true ∧ PySem.W.kitOne K (.ref CPaper) (.ref CDenial) = some false)
    : ∀ (a : Addr) (ns : List Int) (s1 : Shared), ns.length ≤ 63 → RunAt P w K mg fa a ns s1 := by
  intro a ns s1 hl base H KB GB hs e0
  have T := cm.T
  cases hfa.symm.trans glaw
  obtain ⟨dfixed, Ffixed⟩ := ffixed
  obtain ⟨dare_like, Fare_like⟩ := fare_like
  obtain ⟨d_law_pen, F_law_pen⟩ := f_law_pen
  obtain ⟨d_law_draw, F_law_draw⟩ := f_law_draw
  obtain ⟨d_law_pick, F_law_pick⟩ := f_law_pick
  obtain ⟨d_law_any, F_law_any⟩ := f_law_any
  obtain ⟨d_law_tupled, F_law_tupled⟩ := f_law_tupled
  obtain ⟨dlaw, Flaw⟩ := flaw
  obtain ⟨dfiPaper, FfiPaper⟩ := fiPaper
  obtain ⟨dfbPaper, FfbPaper⟩ := fbPaper
  obtain ⟨dfqPaper, FfqPaper⟩ := fqPaper
  obtain ⟨dfbDenial, FfbDenial⟩ := fbDenial
  obtain ⟨_, _, dBadStep, IBadStep⟩ := itBadStep
  have BBadStep := bad_0 (w := w) IBadStep exBadStep noBadStep0
  obtain ⟨_, _, dBadForm, IBadForm⟩ := itBadForm
  have BBadForm := bad_1 (w := w) IBadForm exBadForm noBadForm0
  obtain ⟨_, _, dBadScheme, IBadScheme⟩ := itBadScheme
  have BBadScheme := bad_2 (w := w) IBadScheme exBadScheme noBadScheme0
  obtain ⟨_, _, dBadStore, IBadStore⟩ := itBadStore
  have BBadStore := bad_3 (w := w) IBadStore exBadStore noBadStore0
  obtain ⟨_, _, dBadValue, IBadValue⟩ := itBadValue
  have BBadValue := bad_4 (w := w) IBadValue exBadValue noBadValue0
  obtain ⟨_, _, dBadNumber, IBadNumber⟩ := itBadNumber
  have BBadNumber := bad_5 (w := w) IBadNumber exBadNumber noBadNumber0
  obtain ⟨_, _, dMisfit, IMisfit⟩ := itMisfit
  have BMisfit := bad_6 (w := w) IMisfit exMisfit noMisfit0
  obtain ⟨_, _, dNothing, INothing⟩ := itNothing
  have BNothing := bad_7 (w := w) INothing exNothing noNothing0
  obtain ⟨_, _, dBadText, IBadText⟩ := itBadText
  have BBadText := bad_8 (w := w) IBadText exBadText noBadText0
  obtain ⟨_, _, dBadLine, IBadLine⟩ := itBadLine
  have BBadLine := bad_9 (w := w) IBadLine exBadLine noBadLine0
  obtain ⟨_, _, dTooMany, ITooMany⟩ := itTooMany
  have BTooMany := bad_10 (w := w) ITooMany exTooMany noTooMany0 noTooMany1
  have bfixed := Ffixed.binds (ps := ["value"]) fun _ _ _ _ _ _ us hl => match us, hl with | [_], _ => rfl
  have bare_like := Fare_like.binds (ps := ["one", "other"]) fun _ _ _ _ _ _ us hl => match us, hl with | [_, _], _ => rfl
  have b_law_pen := F_law_pen.binds (ps := ["script"]) fun _ _ _ _ _ _ us hl => match us, hl with | [_], _ => rfl
  have b_law_draw := F_law_draw.binds (ps := ["pen", "many"]) fun _ _ _ _ _ _ us hl => match us, hl with | [_, _], _ => rfl
  have b_law_pick := F_law_pick.binds (ps := ["pen", "some"]) fun _ _ _ _ _ _ us hl => match us, hl with | [_, _], _ => rfl
  have b_law_any := F_law_any.binds (ps := ["pen", "deep"]) fun _ _ _ _ _ _ us hl => match us, hl with | [_, _], _ => rfl
  have b_law_tupled := F_law_tupled.binds (ps := ["value"]) fun _ _ _ _ _ _ us hl => match us, hl with | [_], _ => rfl
  have bfbPaper := FfbPaper.binds (ps := ["self"]) fun _ _ _ _ _ _ us hl => match us, hl with | [_], _ => rfl
  have bfbDenial := FfbDenial.binds (ps := ["self"]) fun _ _ _ _ _ _ us hl => match us, hl with | [_], _ => rfl
  have bfqPaper := FfqPaper.binds (ps := ["self", "other"]) fun _ _ _ _ _ _ us hl => match us, hl with | [_, _], _ => rfl
  have okI : ∀ base : Heap, FnR P w K mg base CX0 52 miniPaper (spPap K 50) := fun base => ok_papI FfiPaper Ffixed bfixed T gfixed 50
  have okB : ∀ base : Heap, ∃ fd, FnOk P w K mg base CX0 1 mbPaper fd ["self"] (spBoolP true) ∧ Binds K fd ["self"] [] := fun base => ⟨_, ok_boolT FfbPaper, bfbPaper⟩
  have okD : ∀ base : Heap, ∃ fd, FnOk P w K mg base CX0 1 mbDenial fd ["self"] (spBoolP false) ∧ Binds K fd ["self"] [] := fun base => ⟨_, ok_boolF FfbDenial, bfbDenial⟩
  obtain ⟨_, _, dGear, IGear⟩ := itGear
  have NGear : ∀ x ∈ (["span", "step", "gain", "bound"] : List Str), NoAttr K CGear x := fun x hx => by
      simp only [List.mem_cons, List.not_mem_nil, or_false] at hx
      rcases hx with rfl | rfl | rfl | rfl
      · exact noGear0
      · exact noGear1
      · exact noGear2
      · exact noGear3
  obtain ⟨oGear, bGear, kGear⟩ := own_Gear (w := w) IGear suGear pcGear okI NGear
  obtain ⟨_, _, dStiff, IStiff⟩ := itStiff
  have NStiff : ∀ x ∈ (["span", "bound"] : List Str), NoAttr K CStiff x := fun x hx => by
      simp only [List.mem_cons, List.not_mem_nil, or_false] at hx
      rcases hx with rfl | rfl
      · exact noStiff0
      · exact noStiff1
  obtain ⟨oStiff, bStiff, kStiff⟩ := own_Stiff (w := w) IStiff suStiff pcStiff okI NStiff
  obtain ⟨_, _, dKit, IKit⟩ := itKit
  have NKit : ∀ x ∈ (["rows", "counts"] : List Str), NoAttr K CKit x := fun x hx => by
      simp only [List.mem_cons, List.not_mem_nil, or_false] at hx
      rcases hx with rfl | rfl
      · exact noKit0
      · exact noKit1
  obtain ⟨oKit, bKit, kKit⟩ := own_Kit (w := w) IKit suKit pcKit okI NKit
  obtain ⟨_, _, dFinite, IFinite⟩ := itFinite
  have NFinite : ∀ x ∈ (["modulus", "table", "chains"] : List Str), NoAttr K CFinite x := fun x hx => by
      simp only [List.mem_cons, List.not_mem_nil, or_false] at hx
      rcases hx with rfl | rfl | rfl
      · exact noFinite0
      · exact noFinite1
      · exact noFinite2
  obtain ⟨oFinite, bFinite, kFinite⟩ := own_Finite (w := w) IFinite suFinite pcFinite okI NFinite
  obtain ⟨_, _, dEndless, IEndless⟩ := itEndless
  have NEndless : ∀ x ∈ (["chain", "ring", "prime", "on"] : List Str), NoAttr K CEndless x := fun x hx => by
      simp only [List.mem_cons, List.not_mem_nil, or_false] at hx
      rcases hx with rfl | rfl | rfl | rfl
      · exact noEndless0
      · exact noEndless1
      · exact noEndless2
      · exact noEndless3
  obtain ⟨oEndless, bEndless, kEndless⟩ := own_Endless (w := w) IEndless suEndless pcEndless okI NEndless
  obtain ⟨dne, subD, kTup, kNon, nTup, nNon, kPD⟩ := last
  have LL : LT P w K mg base := { T := T, e := fun i => ([CBadStep, CBadForm, CBadScheme, CBadStore, CBadValue, CBadNumber, CMisfit, CNothing, CBadText, CBadLine, CTooMany] : List Addr).getD i 0, fE := fun i => ([iBadStep, iBadForm, iBadScheme, iBadStore, iBadValue, iBadNumber, iMisfit, iNothing, iBadText, iBadLine, iTooMany] : List Addr).getD i 0, fdE := fun i => ([dBadStep, dBadForm, dBadScheme, dBadStore, dBadValue, dBadNumber, dMisfit, dNothing, dBadText, dBadLine, dTooMany] : List FuncData).getD i dBadStep, g0 := gBadStep, g1 := gBadForm, g2 := gBadScheme, g3 := gBadStore, g4 := gBadValue, g5 := gBadNumber, g6 := gMisfit, g7 := gNothing, g8 := gBadText, g9 := gBadLine, g10 := gTooMany, oex := all11 BBadStep.oex BBadForm.oex BBadScheme.oex BBadStore.oex BBadValue.oex BBadNumber.oex BMisfit.oex BNothing.oex BBadText.oex BBadLine.oex BTooMany.oex, xf := all11 BBadStep.xf BBadForm.xf BBadScheme.xf BBadStore.xf BBadValue.xf BBadNumber.xf BMisfit.xf BNothing.xf BBadText.xf BBadLine.xf BTooMany.xf, ec := all11 BBadStep.ec BBadForm.ec BBadScheme.ec BBadStore.ec BBadValue.ec BBadNumber.ec BMisfit.ec BNothing.ec BBadText.ec BBadLine.ec BTooMany.ec, okP := all8 (BBadStep.ok base) (BBadForm.ok base) (BBadScheme.ok base) (BBadStore.ok base) (BBadValue.ok base) (BBadNumber.ok base) (BMisfit.ok base) (BNothing.ok base), okW := all89 (BBadText.ok base) (BBadLine.ok base), okT := BTooMany.ok base, bP := all8 BBadStep.b BBadForm.b BBadScheme.b BBadStore.b BBadValue.b BBadNumber.b BMisfit.b BNothing.b, bW := all89 BBadText.b BBadLine.b, bT := BTooMany.b, kP := all8 BBadStep.k BBadForm.k BBadScheme.k BBadStore.k BBadValue.k BBadNumber.k BMisfit.k BNothing.k, kW := all89 BBadText.k BBadLine.k, kT := BTooMany.k, nP := all8 noBadStep0 noBadForm0 noBadScheme0 noBadStore0 noBadValue0 noBadNumber0 noMisfit0 noNothing0, nW := all89 noBadText0 noBadLine0, nT1 := noTooMany0, nT2 := noTooMany1, kit := kitMat_at km, PE := PE, gPE := gPE, kitP := kitCol_at kp, kitV := kitCol_at kv, CP := CPaper, CD := CDenial, CG := CGear, CS := CStiff, CK := CKit, CF := CFinite, CE := CEndless, gP := gPaper, gD := gDenial, gG := gGear, gS := gStiff, gK := gKit, gF := gFinite, gE := gEndless, fI := miniPaper, okI := okI base, mkP := mkPaper, mkD := mkDenial, fG := iGear, fS := iStiff, fK := iKit, fF := iFinite, fN := iEndless, fdG := dGear, fdS := dStiff, fdK := dKit, fdF := dFinite, fdN := dEndless, okG := oGear base, okS := oStiff base, okK := oKit base, okF := oFinite base, okN := oEndless base, mkG := mkGear, mkS := mkStiff, mkK := mkKit, mkF := mkFinite, mkN := mkEndless, bG := bGear, kG := kGear, kS := kStiff, kK := kKit, kF := kFinite, kN := kEndless, nmP := ⟨pcPaper, nmPaper, isPaper⟩, nmD := ⟨pcDenial, nmDenial, isDenial⟩, nmG := ⟨pcGear, nmGear, isGear⟩, pcS := pcStiff, pcK := pcKit, pcF := pcFinite, pcE := pcEndless, naG := noGear3, naE := noEndless3, naK1 := noKit0, naK2 := noKit1, fEq := mqPaper, fdEq := dfqPaper, okEq := ok_eq FfqPaper Fare_like bare_like T gare_like gPaper, bEq := bfqPaper, isEq := isqPaper, eqP := eqPaper, eqD := eqDenial, eqG := eqGear, fT := mbPaper, fN0 := mbDenial, boP := ⟨hbPaper, isbPaper, okB base⟩, boD := ⟨hbDenial, isbDenial, okD base⟩, boG := ⟨hbGear, isbPaper, okB base⟩, boS := ⟨hbStiff, isbDenial, okD base⟩, boK := ⟨hbKit, isbPaper, okB base⟩, boF := ⟨hbFinite, isbPaper, okB base⟩, boE := ⟨hbEndless, isbDenial, okD base⟩, dne := dne, subD := subD, kTup := kTup, kNon := kNon, nTup := nTup, nNon := nNon, kPD := kPD, fPen := a_law_pen, fDraw := a_law_draw, fPick := a_law_pick, fAny := a_law_any, fTup := a_law_tupled, fdPen := d_law_pen, fdDraw := d_law_draw, fdPick := d_law_pick, fdAny := d_law_any, fdTup := d_law_tupled, okPen := ok_pen F_law_pen T, okDraw := ok_draw F_law_draw T, okPick := ok_pick F_law_pick F_law_draw b_law_draw T g_law_draw, okAny := ok_any F_law_any b_law_any F_law_draw b_law_draw F_law_pick b_law_pick T g_law_draw g_law_pick g_law_any 2, okTup := ok_tupled F_law_tupled b_law_tupled T g_law_tupled 50, bPen := b_law_pen, bDraw := b_law_draw, bPick := b_law_pick, bAny := b_law_any, bTup := b_law_tupled, kpPen := F_law_pen.kp, kpDraw := F_law_draw.kp, kpPick := F_law_pick.kp, kpAny := F_law_any.kp, kpTup := F_law_tupled.kp, gPen := g_law_pen, gDraw := g_law_draw, gPick := g_law_pick, gAny := g_law_any, gTup := g_law_tupled }
  have hb : ∀ (s : Shared) (u : Value), BindsTo s dlaw ⟨[u], []⟩ [("script", u)] := by
    obtain ⟨oc, od, kV, doc, pm, an, cdv, ct, osl, rfl, lk, hcd⟩ := Flaw.ex
    exact fun s u => .of_eq rfl
  exact law_here LL Flaw hb hs hl e0
end K00
end K00End4_text
section K00Top_text
set_option Elab.async false
set_option linter.all false
set_option maxRecDepth 100000
/-! k00: the theorem. Printed by mkTop.py. -/
open PySem PySem.W PyProof.Rows
set_option maxRecDepth 100000 in
set_option maxHeartbeats 0 in
theorem PySem.Challenge.cw_partsinparts_k00_errors_and_papers_kept_holds : PySem.Challenge.rw_partsinparts_k00_errors_and_papers_kept.Holds := by
  w_on; o_law; k_head; (case hw => w_witness2)
  k_fill
  refine K00.walk_here (l := PySem.Challenge.rw_partsinparts_k00_errors_and_papers_kept) (n := 63) rfl (by decide) rfl (fun w h Y => PySem.W.kIn_of Y) ?F
  case F =>
    intro w mg fa h KX G hmg
    refine' K00.raw_com KX G PySem.Challenge.rw_partsinparts_k00_errors_and_papers_kept.prog ?a1 ?a2 ?a3 ?b1 ?b2 ?b3 ?b4 ?b5 ?b6 ?b7 ?b8 ?b9 ?b10 ?b11 ?b12 ?b13 ?k
    (case a1 => k_is)
    (case a2 => first | rfl | decide +kernel)
    (case a3 => k_is)
    (case b1 => k_is)
    (case b2 => k_is)
    (case b3 => k_is)
    (case b4 => k_is)
    (case b5 => k_is)
    (case b6 => k_is)
    (case b7 => k_is)
    (case b8 => k_is)
    (case b9 => k_is)
    (case b10 => k_is)
    (case b11 => k_is)
    (case b12 => k_is)
    (case b13 => k_is)
    case k =>
     intro cm
     refine' K00.raw_fun KX G (K00.top 14) "fixed" ?a1 ?a2 ?a3 ?a4 ?k
     (case a1 => k_is)
     (case a2 => k_is)
     (case a3 => k_is)
     (case a4 => k_is)
     case k =>
      intro gfixed ffixed
      refine' K00.raw_fun KX G (K00.top 15) "are_like" ?a1 ?a2 ?a3 ?a4 ?k
      (case a1 => k_is)
      (case a2 => k_is)
      (case a3 => k_is)
      (case a4 => k_is)
      case k =>
       intro gare_like fare_like
       refine' K00.raw_fun KX G (K00.top 27) "_law_pen" ?a1 ?a2 ?a3 ?a4 ?k
       (case a1 => k_is)
       (case a2 => k_is)
       (case a3 => k_is)
       (case a4 => k_is)
       case k =>
        intro g_law_pen f_law_pen
        refine' K00.raw_fun KX G (K00.top 28) "_law_draw" ?a1 ?a2 ?a3 ?a4 ?k
        (case a1 => k_is)
        (case a2 => k_is)
        (case a3 => k_is)
        (case a4 => k_is)
        case k =>
         intro g_law_draw f_law_draw
         refine' K00.raw_fun KX G (K00.top 29) "_law_pick" ?a1 ?a2 ?a3 ?a4 ?k
         (case a1 => k_is)
         (case a2 => k_is)
         (case a3 => k_is)
         (case a4 => k_is)
         case k =>
          intro g_law_pick f_law_pick
          refine' K00.raw_fun KX G (K00.top 30) "_law_any" ?a1 ?a2 ?a3 ?a4 ?k
          (case a1 => k_is)
          (case a2 => k_is)
          (case a3 => k_is)
          (case a4 => k_is)
          case k =>
           intro g_law_any f_law_any
           refine' K00.raw_fun KX G (K00.top 31) "_law_tupled" ?a1 ?a2 ?a3 ?a4 ?k
           (case a1 => k_is)
           (case a2 => k_is)
           (case a3 => k_is)
           (case a4 => k_is)
           case k =>
            intro g_law_tupled f_law_tupled
            refine' K00.raw_fun KX G (K00.top 32) "law" ?a1 ?a2 ?a3 ?a4 ?k
            (case a1 => k_is)
            (case a2 => k_is)
            (case a3 => k_is)
            (case a4 => k_is)
            case k =>
             intro glaw flaw
             refine' K00.raw_cls KX G "BadStep" ?a1 ?k
             (case a1 => k_is)
             case k =>
              intro gBadStep
              refine' K00.raw_init KX cm (L2.inClass (K00.top 2) 0) "BadStep.__init__" "BadStep" gBadStep ?a1 ?a2 ?a3 ?a4 ?a5 ?a6 ?a7 ?a8 ?a9 ?k
              (case a1 => k_is)
              (case a2 => k_is)
              (case a3 => k_is)
              (case a4 => rfl)
              (case a5 => k_is)
              (case a6 => rfl)
              (case a7 => first | rfl | decide +kernel)
              (case a8 => k_is)
              (case a9 => k_is)
              case k =>
               intro iniBadStep itBadStep
               refine' K00.raw_exc KX iniBadStep ?a1 ?a2 ?b1 ?b2 ?b3 ?b4 ?b5 ?b6 ?b7 ?b8 ?b9 ?b10 ?b11 ?b12 ?b13 ?b14 ?b15 ?k
               (case a1 => k_is)
               (case a2 => first | rfl | decide +kernel)
               (case b1 => k_is)
               (case b2 => k_is)
               (case b3 => k_is)
               (case b4 => k_is)
               (case b5 => k_is)
               (case b6 => k_is)
               (case b7 => k_is)
               (case b8 => k_is)
               (case b9 => k_is)
               (case b10 => k_is)
               (case b11 => k_is)
               (case b12 => k_is)
               (case b13 => k_is)
               (case b14 => kernel_rfl)
               (case b15 => k_is)
               case k =>
                intro exBadStep
                refine' K00.raw_no KX "BadStep" gBadStep "part" ?a ?k
                (case a => k_is)
                case k =>
                 intro noBadStep0
                 refine' K00.raw_cls KX G "BadForm" ?a1 ?k
                 (case a1 => k_is)
                 case k =>
                  intro gBadForm
                  refine' K00.raw_init KX cm (L2.inClass (K00.top 3) 0) "BadForm.__init__" "BadForm" gBadForm ?a1 ?a2 ?a3 ?a4 ?a5 ?a6 ?a7 ?a8 ?a9 ?k
                  (case a1 => k_is)
                  (case a2 => k_is)
                  (case a3 => k_is)
                  (case a4 => rfl)
                  (case a5 => k_is)
                  (case a6 => rfl)
                  (case a7 => first | rfl | decide +kernel)
                  (case a8 => k_is)
                  (case a9 => k_is)
                  case k =>
                   intro iniBadForm itBadForm
                   refine' K00.raw_exc KX iniBadForm ?a1 ?a2 ?b1 ?b2 ?b3 ?b4 ?b5 ?b6 ?b7 ?b8 ?b9 ?b10 ?b11 ?b12 ?b13 ?b14 ?b15 ?k
                   (case a1 => k_is)
                   (case a2 => first | rfl | decide +kernel)
                   (case b1 => k_is)
                   (case b2 => k_is)
                   (case b3 => k_is)
                   (case b4 => k_is)
                   (case b5 => k_is)
                   (case b6 => k_is)
                   (case b7 => k_is)
                   (case b8 => k_is)
                   (case b9 => k_is)
                   (case b10 => k_is)
                   (case b11 => k_is)
                   (case b12 => k_is)
                   (case b13 => k_is)
                   (case b14 => kernel_rfl)
                   (case b15 => k_is)
                   case k =>
                    intro exBadForm
                    refine' K00.raw_no KX "BadForm" gBadForm "part" ?a ?k
                    (case a => k_is)
                    case k =>
                     intro noBadForm0
                     refine' K00.raw_cls KX G "BadScheme" ?a1 ?k
                     (case a1 => k_is)
                     case k =>
                      intro gBadScheme
                      refine' K00.raw_init KX cm (L2.inClass (K00.top 4) 0) "BadScheme.__init__" "BadScheme" gBadScheme ?a1 ?a2 ?a3 ?a4 ?a5 ?a6 ?a7 ?a8 ?a9 ?k
                      (case a1 => k_is)
                      (case a2 => k_is)
                      (case a3 => k_is)
                      (case a4 => rfl)
                      (case a5 => k_is)
                      (case a6 => rfl)
                      (case a7 => first | rfl | decide +kernel)
                      (case a8 => k_is)
                      (case a9 => k_is)
                      case k =>
                       intro iniBadScheme itBadScheme
                       refine' K00.raw_exc KX iniBadScheme ?a1 ?a2 ?b1 ?b2 ?b3 ?b4 ?b5 ?b6 ?b7 ?b8 ?b9 ?b10 ?b11 ?b12 ?b13 ?b14 ?b15 ?k
                       (case a1 => k_is)
                       (case a2 => first | rfl | decide +kernel)
                       (case b1 => k_is)
                       (case b2 => k_is)
                       (case b3 => k_is)
                       (case b4 => k_is)
                       (case b5 => k_is)
                       (case b6 => k_is)
                       (case b7 => k_is)
                       (case b8 => k_is)
                       (case b9 => k_is)
                       (case b10 => k_is)
                       (case b11 => k_is)
                       (case b12 => k_is)
                       (case b13 => k_is)
                       (case b14 => kernel_rfl)
                       (case b15 => k_is)
                       case k =>
                        intro exBadScheme
                        refine' K00.raw_no KX "BadScheme" gBadScheme "part" ?a ?k
                        (case a => k_is)
                        case k =>
                         intro noBadScheme0
                         refine' K00.raw_cls KX G "BadStore" ?a1 ?k
                         (case a1 => k_is)
                         case k =>
                          intro gBadStore
                          refine' K00.raw_init KX cm (L2.inClass (K00.top 5) 0) "BadStore.__init__" "BadStore" gBadStore ?a1 ?a2 ?a3 ?a4 ?a5 ?a6 ?a7 ?a8 ?a9 ?k
                          (case a1 => k_is)
                          (case a2 => k_is)
                          (case a3 => k_is)
                          (case a4 => rfl)
                          (case a5 => k_is)
                          (case a6 => rfl)
                          (case a7 => first | rfl | decide +kernel)
                          (case a8 => k_is)
                          (case a9 => k_is)
                          case k =>
                           intro iniBadStore itBadStore
                           refine' K00.raw_exc KX iniBadStore ?a1 ?a2 ?b1 ?b2 ?b3 ?b4 ?b5 ?b6 ?b7 ?b8 ?b9 ?b10 ?b11 ?b12 ?b13 ?b14 ?b15 ?k
                           (case a1 => k_is)
                           (case a2 => first | rfl | decide +kernel)
                           (case b1 => k_is)
                           (case b2 => k_is)
                           (case b3 => k_is)
                           (case b4 => k_is)
                           (case b5 => k_is)
                           (case b6 => k_is)
                           (case b7 => k_is)
                           (case b8 => k_is)
                           (case b9 => k_is)
                           (case b10 => k_is)
                           (case b11 => k_is)
                           (case b12 => k_is)
                           (case b13 => k_is)
                           (case b14 => kernel_rfl)
                           (case b15 => k_is)
                           case k =>
                            intro exBadStore
                            refine' K00.raw_no KX "BadStore" gBadStore "part" ?a ?k
                            (case a => k_is)
                            case k =>
                             intro noBadStore0
                             refine' K00.raw_cls KX G "BadValue" ?a1 ?k
                             (case a1 => k_is)
                             case k =>
                              intro gBadValue
                              refine' K00.raw_init KX cm (L2.inClass (K00.top 6) 0) "BadValue.__init__" "BadValue" gBadValue ?a1 ?a2 ?a3 ?a4 ?a5 ?a6 ?a7 ?a8 ?a9 ?k
                              (case a1 => k_is)
                              (case a2 => k_is)
                              (case a3 => k_is)
                              (case a4 => rfl)
                              (case a5 => k_is)
                              (case a6 => rfl)
                              (case a7 => first | rfl | decide +kernel)
                              (case a8 => k_is)
                              (case a9 => k_is)
                              case k =>
                               intro iniBadValue itBadValue
                               refine' K00.raw_exc KX iniBadValue ?a1 ?a2 ?b1 ?b2 ?b3 ?b4 ?b5 ?b6 ?b7 ?b8 ?b9 ?b10 ?b11 ?b12 ?b13 ?b14 ?b15 ?k
                               (case a1 => k_is)
                               (case a2 => first | rfl | decide +kernel)
                               (case b1 => k_is)
                               (case b2 => k_is)
                               (case b3 => k_is)
                               (case b4 => k_is)
                               (case b5 => k_is)
                               (case b6 => k_is)
                               (case b7 => k_is)
                               (case b8 => k_is)
                               (case b9 => k_is)
                               (case b10 => k_is)
                               (case b11 => k_is)
                               (case b12 => k_is)
                               (case b13 => k_is)
                               (case b14 => kernel_rfl)
                               (case b15 => k_is)
                               case k =>
                                intro exBadValue
                                refine' K00.raw_no KX "BadValue" gBadValue "part" ?a ?k
                                (case a => k_is)
                                case k =>
                                 intro noBadValue0
                                 refine' K00.raw_cls KX G "BadNumber" ?a1 ?k
                                 (case a1 => k_is)
                                 case k =>
                                  intro gBadNumber
                                  refine' K00.raw_init KX cm (L2.inClass (K00.top 7) 0) "BadNumber.__init__" "BadNumber" gBadNumber ?a1 ?a2 ?a3 ?a4 ?a5 ?a6 ?a7 ?a8 ?a9 ?k
                                  (case a1 => k_is)
                                  (case a2 => k_is)
                                  (case a3 => k_is)
                                  (case a4 => rfl)
                                  (case a5 => k_is)
                                  (case a6 => rfl)
                                  (case a7 => first | rfl | decide +kernel)
                                  (case a8 => k_is)
                                  (case a9 => k_is)
                                  case k =>
                                   intro iniBadNumber itBadNumber
                                   refine' K00.raw_exc KX iniBadNumber ?a1 ?a2 ?b1 ?b2 ?b3 ?b4 ?b5 ?b6 ?b7 ?b8 ?b9 ?b10 ?b11 ?b12 ?b13 ?b14 ?b15 ?k
                                   (case a1 => k_is)
                                   (case a2 => first | rfl | decide +kernel)
                                   (case b1 => k_is)
                                   (case b2 => k_is)
                                   (case b3 => k_is)
                                   (case b4 => k_is)
                                   (case b5 => k_is)
                                   (case b6 => k_is)
                                   (case b7 => k_is)
                                   (case b8 => k_is)
                                   (case b9 => k_is)
                                   (case b10 => k_is)
                                   (case b11 => k_is)
                                   (case b12 => k_is)
                                   (case b13 => k_is)
                                   (case b14 => kernel_rfl)
                                   (case b15 => k_is)
                                   case k =>
                                    intro exBadNumber
                                    refine' K00.raw_no KX "BadNumber" gBadNumber "part" ?a ?k
                                    (case a => k_is)
                                    case k =>
                                     intro noBadNumber0
                                     refine' K00.raw_cls KX G "Misfit" ?a1 ?k
                                     (case a1 => k_is)
                                     case k =>
                                      intro gMisfit
                                      refine' K00.raw_init KX cm (L2.inClass (K00.top 10) 0) "Misfit.__init__" "Misfit" gMisfit ?a1 ?a2 ?a3 ?a4 ?a5 ?a6 ?a7 ?a8 ?a9 ?k
                                      (case a1 => k_is)
                                      (case a2 => k_is)
                                      (case a3 => k_is)
                                      (case a4 => rfl)
                                      (case a5 => k_is)
                                      (case a6 => rfl)
                                      (case a7 => first | rfl | decide +kernel)
                                      (case a8 => k_is)
                                      (case a9 => k_is)
                                      case k =>
                                       intro iniMisfit itMisfit
                                       refine' K00.raw_exc KX iniMisfit ?a1 ?a2 ?b1 ?b2 ?b3 ?b4 ?b5 ?b6 ?b7 ?b8 ?b9 ?b10 ?b11 ?b12 ?b13 ?b14 ?b15 ?k
                                       (case a1 => k_is)
                                       (case a2 => first | rfl | decide +kernel)
                                       (case b1 => k_is)
                                       (case b2 => k_is)
                                       (case b3 => k_is)
                                       (case b4 => k_is)
                                       (case b5 => k_is)
                                       (case b6 => k_is)
                                       (case b7 => k_is)
                                       (case b8 => k_is)
                                       (case b9 => k_is)
                                       (case b10 => k_is)
                                       (case b11 => k_is)
                                       (case b12 => k_is)
                                       (case b13 => k_is)
                                       (case b14 => kernel_rfl)
                                       (case b15 => k_is)
                                       case k =>
                                        intro exMisfit
                                        refine' K00.raw_no KX "Misfit" gMisfit "part" ?a ?k
                                        (case a => k_is)
                                        case k =>
                                         intro noMisfit0
                                         refine' K00.raw_cls KX G "Nothing" ?a1 ?k
                                         (case a1 => k_is)
                                         case k =>
                                          intro gNothing
                                          refine' K00.raw_init KX cm (L2.inClass (K00.top 11) 0) "Nothing.__init__" "Nothing" gNothing ?a1 ?a2 ?a3 ?a4 ?a5 ?a6 ?a7 ?a8 ?a9 ?k
                                          (case a1 => k_is)
                                          (case a2 => k_is)
                                          (case a3 => k_is)
                                          (case a4 => rfl)
                                          (case a5 => k_is)
                                          (case a6 => rfl)
                                          (case a7 => first | rfl | decide +kernel)
                                          (case a8 => k_is)
                                          (case a9 => k_is)
                                          case k =>
                                           intro iniNothing itNothing
                                           refine' K00.raw_exc KX iniNothing ?a1 ?a2 ?b1 ?b2 ?b3 ?b4 ?b5 ?b6 ?b7 ?b8 ?b9 ?b10 ?b11 ?b12 ?b13 ?b14 ?b15 ?k
                                           (case a1 => k_is)
                                           (case a2 => first | rfl | decide +kernel)
                                           (case b1 => k_is)
                                           (case b2 => k_is)
                                           (case b3 => k_is)
                                           (case b4 => k_is)
                                           (case b5 => k_is)
                                           (case b6 => k_is)
                                           (case b7 => k_is)
                                           (case b8 => k_is)
                                           (case b9 => k_is)
                                           (case b10 => k_is)
                                           (case b11 => k_is)
                                           (case b12 => k_is)
                                           (case b13 => k_is)
                                           (case b14 => kernel_rfl)
                                           (case b15 => k_is)
                                           case k =>
                                            intro exNothing
                                            refine' K00.raw_no KX "Nothing" gNothing "part" ?a ?k
                                            (case a => k_is)
                                            case k =>
                                             intro noNothing0
                                             refine' K00.raw_cls KX G "BadText" ?a1 ?k
                                             (case a1 => k_is)
                                             case k =>
                                              intro gBadText
                                              refine' K00.raw_init KX cm (L2.inClass (K00.top 8) 0) "BadText.__init__" "BadText" gBadText ?a1 ?a2 ?a3 ?a4 ?a5 ?a6 ?a7 ?a8 ?a9 ?k
                                              (case a1 => k_is)
                                              (case a2 => k_is)
                                              (case a3 => k_is)
                                              (case a4 => rfl)
                                              (case a5 => k_is)
                                              (case a6 => rfl)
                                              (case a7 => first | rfl | decide +kernel)
                                              (case a8 => k_is)
                                              (case a9 => k_is)
                                              case k =>
                                               intro iniBadText itBadText
                                               refine' K00.raw_exc KX iniBadText ?a1 ?a2 ?b1 ?b2 ?b3 ?b4 ?b5 ?b6 ?b7 ?b8 ?b9 ?b10 ?b11 ?b12 ?b13 ?b14 ?b15 ?k
                                               (case a1 => k_is)
                                               (case a2 => first | rfl | decide +kernel)
                                               (case b1 => k_is)
                                               (case b2 => k_is)
                                               (case b3 => k_is)
                                               (case b4 => k_is)
                                               (case b5 => k_is)
                                               (case b6 => k_is)
                                               (case b7 => k_is)
                                               (case b8 => k_is)
                                               (case b9 => k_is)
                                               (case b10 => k_is)
                                               (case b11 => k_is)
                                               (case b12 => k_is)
                                               (case b13 => k_is)
                                               (case b14 => kernel_rfl)
                                               (case b15 => k_is)
                                               case k =>
                                                intro exBadText
                                                refine' K00.raw_no KX "BadText" gBadText "word" ?a ?k
                                                (case a => k_is)
                                                case k =>
                                                 intro noBadText0
                                                 refine' K00.raw_cls KX G "BadLine" ?a1 ?k
                                                 (case a1 => k_is)
                                                 case k =>
                                                  intro gBadLine
                                                  refine' K00.raw_init KX cm (L2.inClass (K00.top 9) 0) "BadLine.__init__" "BadLine" gBadLine ?a1 ?a2 ?a3 ?a4 ?a5 ?a6 ?a7 ?a8 ?a9 ?k
                                                  (case a1 => k_is)
                                                  (case a2 => k_is)
                                                  (case a3 => k_is)
                                                  (case a4 => rfl)
                                                  (case a5 => k_is)
                                                  (case a6 => rfl)
                                                  (case a7 => first | rfl | decide +kernel)
                                                  (case a8 => k_is)
                                                  (case a9 => k_is)
                                                  case k =>
                                                   intro iniBadLine itBadLine
                                                   refine' K00.raw_exc KX iniBadLine ?a1 ?a2 ?b1 ?b2 ?b3 ?b4 ?b5 ?b6 ?b7 ?b8 ?b9 ?b10 ?b11 ?b12 ?b13 ?b14 ?b15 ?k
                                                   (case a1 => k_is)
                                                   (case a2 => first | rfl | decide +kernel)
                                                   (case b1 => k_is)
                                                   (case b2 => k_is)
                                                   (case b3 => k_is)
                                                   (case b4 => k_is)
                                                   (case b5 => k_is)
                                                   (case b6 => k_is)
                                                   (case b7 => k_is)
                                                   (case b8 => k_is)
                                                   (case b9 => k_is)
                                                   (case b10 => k_is)
                                                   (case b11 => k_is)
                                                   (case b12 => k_is)
                                                   (case b13 => k_is)
                                                   (case b14 => kernel_rfl)
                                                   (case b15 => k_is)
                                                   case k =>
                                                    intro exBadLine
                                                    refine' K00.raw_no KX "BadLine" gBadLine "word" ?a ?k
                                                    (case a => k_is)
                                                    case k =>
                                                     intro noBadLine0
                                                     refine' K00.raw_cls KX G "TooMany" ?a1 ?k
                                                     (case a1 => k_is)
                                                     case k =>
                                                      intro gTooMany
                                                      refine' K00.raw_init KX cm (L2.inClass (K00.top 12) 0) "TooMany.__init__" "TooMany" gTooMany ?a1 ?a2 ?a3 ?a4 ?a5 ?a6 ?a7 ?a8 ?a9 ?k
                                                      (case a1 => k_is)
                                                      (case a2 => k_is)
                                                      (case a3 => k_is)
                                                      (case a4 => rfl)
                                                      (case a5 => k_is)
                                                      (case a6 => rfl)
                                                      (case a7 => first | rfl | decide +kernel)
                                                      (case a8 => k_is)
                                                      (case a9 => k_is)
                                                      case k =>
                                                       intro iniTooMany itTooMany
                                                       refine' K00.raw_exc KX iniTooMany ?a1 ?a2 ?b1 ?b2 ?b3 ?b4 ?b5 ?b6 ?b7 ?b8 ?b9 ?b10 ?b11 ?b12 ?b13 ?b14 ?b15 ?k
                                                       (case a1 => k_is)
                                                       (case a2 => first | rfl | decide +kernel)
                                                       (case b1 => k_is)
                                                       (case b2 => k_is)
                                                       (case b3 => k_is)
                                                       (case b4 => k_is)
                                                       (case b5 => k_is)
                                                       (case b6 => k_is)
                                                       (case b7 => k_is)
                                                       (case b8 => k_is)
                                                       (case b9 => k_is)
                                                       (case b10 => k_is)
                                                       (case b11 => k_is)
                                                       (case b12 => k_is)
                                                       (case b13 => k_is)
                                                       (case b14 => kernel_rfl)
                                                       (case b15 => k_is)
                                                       case k =>
                                                        intro exTooMany
                                                        refine' K00.raw_no KX "TooMany" gTooMany "what" ?a ?k
                                                        (case a => k_is)
                                                        case k =>
                                                         intro noTooMany0
                                                         refine' K00.raw_no KX "TooMany" gTooMany "most" ?a ?k
                                                         (case a => k_is)
                                                         case k =>
                                                          intro noTooMany1
                                                          refine' K00.raw_cls KX G "PartsError" ?a1 ?k
                                                          (case a1 => k_is)
                                                          case k =>
                                                           intro gPE
                                                           refine' K00.raw_kit KX G gBadStep gBadForm gBadScheme gBadStore gBadValue gBadNumber gMisfit gNothing gBadText gBadLine gTooMany gPE ?a1 ?a2 ?a3 ?k
                                                           (case a1 => kernel_rfl)
                                                           (case a2 => kernel_rfl)
                                                           (case a3 => kernel_rfl)
                                                           case k =>
                                                            intro km kp kv
                                                            refine' K00.raw_cls KX G "Paper" ?a1 ?k
                                                            (case a1 => k_is)
                                                            case k =>
                                                             intro gPaper
                                                             refine' K00.raw_meth KX (L2.inClass (K00.top 16) 0) "Paper" gPaper "__init__" "Paper.__init__" ?a1 ?a2 ?a3 ?a4 ?a5 ?k
                                                             (case a1 => k_is)
                                                             (case a2 => k_is)
                                                             (case a3 => k_is)
                                                             (case a4 => k_is)
                                                             (case a5 => k_is)
                                                             case k =>
                                                              intro iniPaper isiPaper fiPaper
                                                              refine' K00.raw_meth KX (L2.inClass (K00.top 16) 1) "Paper" gPaper "__bool__" "Paper.__bool__" ?a1 ?a2 ?a3 ?a4 ?a5 ?k
                                                              (case a1 => k_is)
                                                              (case a2 => k_is)
                                                              (case a3 => k_is)
                                                              (case a4 => k_is)
                                                              (case a5 => k_is)
                                                              case k =>
                                                               intro bPaper isbPaper fbPaper
                                                               refine' K00.raw_meth KX (L2.inClass (K00.top 16) 2) "Paper" gPaper "__eq__" "Paper.__eq__" ?a1 ?a2 ?a3 ?a4 ?a5 ?k
                                                               (case a1 => k_is)
                                                               (case a2 => k_is)
                                                               (case a3 => k_is)
                                                               (case a4 => k_is)
                                                               (case a5 => k_is)
                                                               case k =>
                                                                intro qPaper isqPaper fqPaper
                                                                refine' K00.raw_pap KX "Paper" gPaper iniPaper bPaper ?a1 ?a2 ?a3 ?a4 ?a5 ?a6 ?a7 ?a8 ?a9 ?b1 ?k
                                                                (case a1 => k_is)
                                                                (case a2 => k_is)
                                                                (case a3 => k_is)
                                                                (case a4 => k_is)
                                                                (case a5 => k_is)
                                                                (case a6 => k_is)
                                                                (case a7 => k_is)
                                                                (case a8 => k_is)
                                                                (case a9 => k_is)
                                                                (case b1 => k_is)
                                                                case k =>
                                                                 intro pcPaper mkPaper hbPaper
                                                                 refine' K00.raw_nm KX cm "Paper" gPaper gPaper qPaper ?a1 ?a2 ?a3 ?a4 ?a5 ?a6 ?a7 ?a8 ?a9 ?b1 ?b2 ?b3 ?k
                                                                 (case a1 => k_is)
                                                                 (case a2 => rfl)
                                                                 (case a3 => k_is)
                                                                 (case a4 => k_is)
                                                                 (case a5 => k_is)
                                                                 (case a6 => k_is)
                                                                 (case a7 => k_is)
                                                                 (case a8 => k_is)
                                                                 (case a9 => k_is)
                                                                 (case b1 => kernel_rfl)
                                                                 (case b2 => k_is)
                                                                 (case b3 => k_is)
                                                                 case k =>
                                                                  intro nmPaper isPaper eqPaper
                                                                  refine' K00.raw_cls KX G "Denial" ?a1 ?k
                                                                  (case a1 => k_is)
                                                                  case k =>
                                                                   intro gDenial
                                                                   refine' K00.raw_meth KX (L2.inClass (K00.top 17) 0) "Denial" gDenial "__bool__" "Denial.__bool__" ?a1 ?a2 ?a3 ?a4 ?a5 ?k
                                                                   (case a1 => k_is)
                                                                   (case a2 => k_is)
                                                                   (case a3 => k_is)
                                                                   (case a4 => k_is)
                                                                   (case a5 => k_is)
                                                                   case k =>
                                                                    intro bDenial isbDenial fbDenial
                                                                    refine' K00.raw_pap0 KX "Denial" gDenial iniPaper bDenial ?a0 ?a1 ?a2 ?a3 ?a4 ?a5 ?a6 ?a7 ?a8 ?a9 ?b1 ?k
                                                                    (case a0 => k_is)
                                                                    (case a1 => k_is)
                                                                    (case a2 => k_is)
                                                                    (case a3 => k_is)
                                                                    (case a4 => k_is)
                                                                    (case a5 => k_is)
                                                                    (case a6 => k_is)
                                                                    (case a7 => k_is)
                                                                    (case a8 => k_is)
                                                                    (case a9 => k_is)
                                                                    (case b1 => k_is)
                                                                    case k =>
                                                                     intro pcDenial mkDenial hbDenial
                                                                     refine' K00.raw_nm KX cm "Denial" gDenial gPaper qPaper ?a1 ?a2 ?a3 ?a4 ?a5 ?a6 ?a7 ?a8 ?a9 ?b1 ?b2 ?b3 ?k
                                                                     (case a1 => k_is)
                                                                     (case a2 => rfl)
                                                                     (case a3 => k_is)
                                                                     (case a4 => k_is)
                                                                     (case a5 => k_is)
                                                                     (case a6 => k_is)
                                                                     (case a7 => k_is)
                                                                     (case a8 => k_is)
                                                                     (case a9 => k_is)
                                                                     (case b1 => kernel_rfl)
                                                                     (case b2 => k_is)
                                                                     (case b3 => k_is)
                                                                     case k =>
                                                                      intro nmDenial isDenial eqDenial
                                                                      refine' K00.raw_cls KX G "Gear" ?a1 ?k
                                                                      (case a1 => k_is)
                                                                      case k =>
                                                                       intro gGear
                                                                       refine' K00.raw_init KX cm (L2.inClass (K00.top 19) 0) "Gear.__init__" "Gear" gGear ?a1 ?a2 ?a3 ?a4 ?a5 ?a6 ?a7 ?a8 ?a9 ?k
                                                                       (case a1 => k_is)
                                                                       (case a2 => k_is)
                                                                       (case a3 => k_is)
                                                                       (case a4 => rfl)
                                                                       (case a5 => k_is)
                                                                       (case a6 => rfl)
                                                                       (case a7 => first | rfl | decide +kernel)
                                                                       (case a8 => k_is)
                                                                       (case a9 => k_is)
                                                                       case k =>
                                                                        intro iniGear itGear
                                                                        refine' K00.raw_pap KX "Gear" gGear iniGear bPaper ?a1 ?a2 ?a3 ?a4 ?a5 ?a6 ?a7 ?a8 ?a9 ?b1 ?k
                                                                        (case a1 => k_is)
                                                                        (case a2 => k_is)
                                                                        (case a3 => k_is)
                                                                        (case a4 => k_is)
                                                                        (case a5 => k_is)
                                                                        (case a6 => k_is)
                                                                        (case a7 => k_is)
                                                                        (case a8 => k_is)
                                                                        (case a9 => k_is)
                                                                        (case b1 => k_is)
                                                                        case k =>
                                                                         intro pcGear mkGear hbGear
                                                                         refine' K00.raw_sup KX "Gear" gGear iniPaper ?a1 ?a2 ?a3 ?a4 ?k
                                                                         (case a1 => k_is)
                                                                         (case a2 => kernel_rfl)
                                                                         (case a3 => k_is)
                                                                         (case a4 => k_is)
                                                                         case k =>
                                                                          intro suGear
                                                                          refine' K00.raw_no KX "Gear" gGear "span" ?a ?k
                                                                          (case a => k_is)
                                                                          case k =>
                                                                           intro noGear0
                                                                           refine' K00.raw_no KX "Gear" gGear "step" ?a ?k
                                                                           (case a => k_is)
                                                                           case k =>
                                                                            intro noGear1
                                                                            refine' K00.raw_no KX "Gear" gGear "gain" ?a ?k
                                                                            (case a => k_is)
                                                                            case k =>
                                                                             intro noGear2
                                                                             refine' K00.raw_no KX "Gear" gGear "bound" ?a ?k
                                                                             (case a => k_is)
                                                                             case k =>
                                                                              intro noGear3
                                                                              refine' K00.raw_cls KX G "Stiff" ?a1 ?k
                                                                              (case a1 => k_is)
                                                                              case k =>
                                                                               intro gStiff
                                                                               refine' K00.raw_init KX cm (L2.inClass (K00.top 20) 0) "Stiff.__init__" "Stiff" gStiff ?a1 ?a2 ?a3 ?a4 ?a5 ?a6 ?a7 ?a8 ?a9 ?k
                                                                               (case a1 => k_is)
                                                                               (case a2 => k_is)
                                                                               (case a3 => k_is)
                                                                               (case a4 => rfl)
                                                                               (case a5 => k_is)
                                                                               (case a6 => rfl)
                                                                               (case a7 => first | rfl | decide +kernel)
                                                                               (case a8 => k_is)
                                                                               (case a9 => k_is)
                                                                               case k =>
                                                                                intro iniStiff itStiff
                                                                                refine' K00.raw_pap KX "Stiff" gStiff iniStiff bDenial ?a1 ?a2 ?a3 ?a4 ?a5 ?a6 ?a7 ?a8 ?a9 ?b1 ?k
                                                                                (case a1 => k_is)
                                                                                (case a2 => k_is)
                                                                                (case a3 => k_is)
                                                                                (case a4 => k_is)
                                                                                (case a5 => k_is)
                                                                                (case a6 => k_is)
                                                                                (case a7 => k_is)
                                                                                (case a8 => k_is)
                                                                                (case a9 => k_is)
                                                                                (case b1 => k_is)
                                                                                case k =>
                                                                                 intro pcStiff mkStiff hbStiff
                                                                                 refine' K00.raw_sup KX "Stiff" gStiff iniPaper ?a1 ?a2 ?a3 ?a4 ?k
                                                                                 (case a1 => k_is)
                                                                                 (case a2 => kernel_rfl)
                                                                                 (case a3 => k_is)
                                                                                 (case a4 => k_is)
                                                                                 case k =>
                                                                                  intro suStiff
                                                                                  refine' K00.raw_no KX "Stiff" gStiff "span" ?a ?k
                                                                                  (case a => k_is)
                                                                                  case k =>
                                                                                   intro noStiff0
                                                                                   refine' K00.raw_no KX "Stiff" gStiff "bound" ?a ?k
                                                                                   (case a => k_is)
                                                                                   case k =>
                                                                                    intro noStiff1
                                                                                    refine' K00.raw_cls KX G "Kit" ?a1 ?k
                                                                                    (case a1 => k_is)
                                                                                    case k =>
                                                                                     intro gKit
                                                                                     refine' K00.raw_init KX cm (L2.inClass (K00.top 22) 0) "Kit.__init__" "Kit" gKit ?a1 ?a2 ?a3 ?a4 ?a5 ?a6 ?a7 ?a8 ?a9 ?k
                                                                                     (case a1 => k_is)
                                                                                     (case a2 => k_is)
                                                                                     (case a3 => k_is)
                                                                                     (case a4 => rfl)
                                                                                     (case a5 => k_is)
                                                                                     (case a6 => rfl)
                                                                                     (case a7 => first | rfl | decide +kernel)
                                                                                     (case a8 => k_is)
                                                                                     (case a9 => k_is)
                                                                                     case k =>
                                                                                      intro iniKit itKit
                                                                                      refine' K00.raw_pap KX "Kit" gKit iniKit bPaper ?a1 ?a2 ?a3 ?a4 ?a5 ?a6 ?a7 ?a8 ?a9 ?b1 ?k
                                                                                      (case a1 => k_is)
                                                                                      (case a2 => k_is)
                                                                                      (case a3 => k_is)
                                                                                      (case a4 => k_is)
                                                                                      (case a5 => k_is)
                                                                                      (case a6 => k_is)
                                                                                      (case a7 => k_is)
                                                                                      (case a8 => k_is)
                                                                                      (case a9 => k_is)
                                                                                      (case b1 => k_is)
                                                                                      case k =>
                                                                                       intro pcKit mkKit hbKit
                                                                                       refine' K00.raw_sup KX "Kit" gKit iniPaper ?a1 ?a2 ?a3 ?a4 ?k
                                                                                       (case a1 => k_is)
                                                                                       (case a2 => kernel_rfl)
                                                                                       (case a3 => k_is)
                                                                                       (case a4 => k_is)
                                                                                       case k =>
                                                                                        intro suKit
                                                                                        refine' K00.raw_no KX "Kit" gKit "rows" ?a ?k
                                                                                        (case a => k_is)
                                                                                        case k =>
                                                                                         intro noKit0
                                                                                         refine' K00.raw_no KX "Kit" gKit "counts" ?a ?k
                                                                                         (case a => k_is)
                                                                                         case k =>
                                                                                          intro noKit1
                                                                                          refine' K00.raw_cls KX G "Finite" ?a1 ?k
                                                                                          (case a1 => k_is)
                                                                                          case k =>
                                                                                           intro gFinite
                                                                                           refine' K00.raw_init KX cm (L2.inClass (K00.top 24) 0) "Finite.__init__" "Finite" gFinite ?a1 ?a2 ?a3 ?a4 ?a5 ?a6 ?a7 ?a8 ?a9 ?k
                                                                                           (case a1 => k_is)
                                                                                           (case a2 => k_is)
                                                                                           (case a3 => k_is)
                                                                                           (case a4 => rfl)
                                                                                           (case a5 => k_is)
                                                                                           (case a6 => rfl)
                                                                                           (case a7 => first | rfl | decide +kernel)
                                                                                           (case a8 => k_is)
                                                                                           (case a9 => k_is)
                                                                                           case k =>
                                                                                            intro iniFinite itFinite
                                                                                            refine' K00.raw_pap KX "Finite" gFinite iniFinite bPaper ?a1 ?a2 ?a3 ?a4 ?a5 ?a6 ?a7 ?a8 ?a9 ?b1 ?k
                                                                                            (case a1 => k_is)
                                                                                            (case a2 => k_is)
                                                                                            (case a3 => k_is)
                                                                                            (case a4 => k_is)
                                                                                            (case a5 => k_is)
                                                                                            (case a6 => k_is)
                                                                                            (case a7 => k_is)
                                                                                            (case a8 => k_is)
                                                                                            (case a9 => k_is)
                                                                                            (case b1 => k_is)
                                                                                            case k =>
                                                                                             intro pcFinite mkFinite hbFinite
                                                                                             refine' K00.raw_sup KX "Finite" gFinite iniPaper ?a1 ?a2 ?a3 ?a4 ?k
                                                                                             (case a1 => k_is)
                                                                                             (case a2 => kernel_rfl)
                                                                                             (case a3 => k_is)
                                                                                             (case a4 => k_is)
                                                                                             case k =>
                                                                                              intro suFinite
                                                                                              refine' K00.raw_no KX "Finite" gFinite "modulus" ?a ?k
                                                                                              (case a => k_is)
                                                                                              case k =>
                                                                                               intro noFinite0
                                                                                               refine' K00.raw_no KX "Finite" gFinite "table" ?a ?k
                                                                                               (case a => k_is)
                                                                                               case k =>
                                                                                                intro noFinite1
                                                                                                refine' K00.raw_no KX "Finite" gFinite "chains" ?a ?k
                                                                                                (case a => k_is)
                                                                                                case k =>
                                                                                                 intro noFinite2
                                                                                                 refine' K00.raw_cls KX G "Endless" ?a1 ?k
                                                                                                 (case a1 => k_is)
                                                                                                 case k =>
                                                                                                  intro gEndless
                                                                                                  refine' K00.raw_init KX cm (L2.inClass (K00.top 25) 0) "Endless.__init__" "Endless" gEndless ?a1 ?a2 ?a3 ?a4 ?a5 ?a6 ?a7 ?a8 ?a9 ?k
                                                                                                  (case a1 => k_is)
                                                                                                  (case a2 => k_is)
                                                                                                  (case a3 => k_is)
                                                                                                  (case a4 => rfl)
                                                                                                  (case a5 => k_is)
                                                                                                  (case a6 => rfl)
                                                                                                  (case a7 => first | rfl | decide +kernel)
                                                                                                  (case a8 => k_is)
                                                                                                  (case a9 => k_is)
                                                                                                  case k =>
                                                                                                   intro iniEndless itEndless
                                                                                                   refine' K00.raw_pap KX "Endless" gEndless iniEndless bDenial ?a1 ?a2 ?a3 ?a4 ?a5 ?a6 ?a7 ?a8 ?a9 ?b1 ?k
                                                                                                   (case a1 => k_is)
                                                                                                   (case a2 => k_is)
                                                                                                   (case a3 => k_is)
                                                                                                   (case a4 => k_is)
                                                                                                   (case a5 => k_is)
                                                                                                   (case a6 => k_is)
                                                                                                   (case a7 => k_is)
                                                                                                   (case a8 => k_is)
                                                                                                   (case a9 => k_is)
                                                                                                   (case b1 => k_is)
                                                                                                   case k =>
                                                                                                    intro pcEndless mkEndless hbEndless
                                                                                                    refine' K00.raw_sup KX "Endless" gEndless iniPaper ?a1 ?a2 ?a3 ?a4 ?k
                                                                                                    (case a1 => k_is)
                                                                                                    (case a2 => kernel_rfl)
                                                                                                    (case a3 => k_is)
                                                                                                    (case a4 => k_is)
                                                                                                    case k =>
                                                                                                     intro suEndless
                                                                                                     refine' K00.raw_no KX "Endless" gEndless "chain" ?a ?k
                                                                                                     (case a => k_is)
                                                                                                     case k =>
                                                                                                      intro noEndless0
                                                                                                      refine' K00.raw_no KX "Endless" gEndless "ring" ?a ?k
                                                                                                      (case a => k_is)
                                                                                                      case k =>
                                                                                                       intro noEndless1
                                                                                                       refine' K00.raw_no KX "Endless" gEndless "prime" ?a ?k
                                                                                                       (case a => k_is)
                                                                                                       case k =>
                                                                                                        intro noEndless2
                                                                                                        refine' K00.raw_no KX "Endless" gEndless "on" ?a ?k
                                                                                                        (case a => k_is)
                                                                                                        case k =>
                                                                                                         intro noEndless3
                                                                                                         refine' K00.raw_nm KX cm "Gear" gGear gPaper qPaper ?a1 ?a2 ?a3 ?a4 ?a5 ?a6 ?a7 ?a8 ?a9 ?b1 ?b2 ?b3 ?k
                                                                                                         (case a1 => k_is)
                                                                                                         (case a2 => rfl)
                                                                                                         (case a3 => k_is)
                                                                                                         (case a4 => k_is)
                                                                                                         (case a5 => k_is)
                                                                                                         (case a6 => k_is)
                                                                                                         (case a7 => k_is)
                                                                                                         (case a8 => k_is)
                                                                                                         (case a9 => k_is)
                                                                                                         (case b1 => kernel_rfl)
                                                                                                         (case b2 => k_is)
                                                                                                         (case b3 => k_is)
                                                                                                         case k =>
                                                                                                          intro nmGear isGear eqGear
                                                                                                          refine' K00.raw_last KX gPaper gDenial ?a1 ?a2 ?a3 ?a4 ?a5 ?a6 ?a7 ?k
                                                                                                          (case a1 => decide)
                                                                                                          (case a2 => k_is)
                                                                                                          (case a3 => kernel_rfl)
                                                                                                          (case a4 => kernel_rfl)
                                                                                                          (case a5 => first | k_is | kernel_rfl)
                                                                                                          (case a6 => first | k_is | kernel_rfl)
                                                                                                          (case a7 => kernel_rfl)
                                                                                                          case k =>
                                                                                                           intro last
                                                                                                           exact K00.fin hmg cm gfixed ffixed gare_like fare_like g_law_pen f_law_pen g_law_draw f_law_draw g_law_pick f_law_pick g_law_any f_law_any g_law_tupled f_law_tupled glaw flaw gBadStep iniBadStep itBadStep exBadStep noBadStep0 gBadForm iniBadForm itBadForm exBadForm noBadForm0 gBadScheme iniBadScheme itBadScheme exBadScheme noBadScheme0 gBadStore iniBadStore itBadStore exBadStore noBadStore0 gBadValue iniBadValue itBadValue exBadValue noBadValue0 gBadNumber iniBadNumber itBadNumber exBadNumber noBadNumber0 gMisfit iniMisfit itMisfit exMisfit noMisfit0 gNothing iniNothing itNothing exNothing noNothing0 gBadText iniBadText itBadText exBadText noBadText0 gBadLine iniBadLine itBadLine exBadLine noBadLine0 gTooMany iniTooMany itTooMany exTooMany noTooMany0 noTooMany1 gPE km kp kv gPaper iniPaper isiPaper fiPaper bPaper isbPaper fbPaper qPaper isqPaper fqPaper pcPaper mkPaper hbPaper nmPaper isPaper eqPaper gDenial bDenial isbDenial fbDenial pcDenial mkDenial hbDenial nmDenial isDenial eqDenial gGear iniGear itGear pcGear mkGear hbGear suGear noGear0 noGear1 noGear2 noGear3 gStiff iniStiff itStiff pcStiff mkStiff hbStiff suStiff noStiff0 noStiff1 gKit iniKit itKit pcKit mkKit hbKit suKit noKit0 noKit1 gFinite iniFinite itFinite pcFinite mkFinite hbFinite suFinite noFinite0 noFinite1 noFinite2 gEndless iniEndless itEndless pcEndless mkEndless hbEndless suEndless noEndless0 noEndless1 noEndless2 noEndless3 nmGear isGear eqGear last
end K00Top_text
