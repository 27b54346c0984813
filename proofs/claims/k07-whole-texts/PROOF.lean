import PyProof.Rows.All
import Wide.All
import OpenK.AllK
import Wide.FinOn
import HandS.Text
import HandS.ForMost
import HandS.IsInst
import HandS.Walk
import HandS.Wide
import PyProof.ReprRoads
import HandS.Conv
import PySem.Challenge.RW_keptlengths_k07_whole_texts_read_as_mach
set_option Elab.async false
set_option linter.all false
set_option maxRecDepth 100000
set_option maxHeartbeats 4000000
/-! The plain law of k07: one reader (parse), one writer (machL), the round trip. No program here. -/
namespace Kl
open PySem TL
/-! ### cutting at one sign -/
abbrev cut (s : Nat) (l : List Nat) : List (List Nat) := spl [s] 0 [] l
theorem spl1 (s c : Nat) (acc r : List Nat) : spl [s] 0 acc (c :: r) = if c = s then acc :: spl [s] 0 [] r else spl [s] 0 (acc ++ [c]) r := by
  by_cases h : c = s
  · subst h
    rw [if_pos rfl]
    exact spl_hit (S := [c]) (pre_self [c] r)
  · rw [if_neg h]
    exact spl_miss (pre_of_head [] r h)
theorem spl_ne (s : Nat) : ∀ (l acc : List Nat), spl [s] 0 acc l ≠ []
  | [], acc => by rw [spl_nil]; exact List.cons_ne_nil _ _
  | c :: r, acc => by
    rw [spl1]
    by_cases h : c = s
    · rw [if_pos h]; exact List.cons_ne_nil _ _
    · rw [if_neg h]; exact spl_ne s r _
theorem joinL_cons (s : Nat) : ∀ (p : List Nat) (qs : List (List Nat)), joinL [s] (p :: qs) = p ++ qs.flatMap (fun q => s :: q)
  | p, [] => by show p = _; simp
  | p, q :: r => by
    show p ++ ([s] ++ joinL [s] (q :: r)) = _
    rw [joinL_cons s q r, List.flatMap_cons]
    rfl
theorem join_spl (s : Nat) : ∀ (l acc : List Nat), joinL [s] (spl [s] 0 acc l) = acc ++ l
  | [], acc => by rw [spl_nil]; show acc = _; simp
  | c :: r, acc => by
    rw [spl1]
    by_cases h : c = s
    · subst h
      rw [if_pos rfl]
      cases e : spl [c] 0 [] r with
      | nil => exact absurd e (spl_ne c r [])
      | cons q qs =>
        show acc ++ ([c] ++ joinL [c] (q :: qs)) = _
        rw [← e, join_spl c r []]
        simp
    · rw [if_neg h, join_spl s r (acc ++ [c]), List.append_assoc]
      rfl
theorem join_cut (s : Nat) (l : List Nat) : joinL [s] (cut s l) = l := by
  rw [join_spl]; rfl
theorem spl_last_iff (s : Nat) : ∀ (l acc : List Nat), (spl [s] 0 acc l).getLast? = some [] ↔ (l = [] ∧ acc = []) ∨ l.getLast? = some s
  | [], acc => by
    rw [spl_nil]
    simp
  | c :: r, acc => by
    rw [spl1]
    by_cases h : c = s
    · subst h
      rw [if_pos rfl]
      have e : (acc :: spl [c] 0 [] r).getLast? = (spl [c] 0 [] r).getLast? := by
        cases q : spl [c] 0 [] r with
        | nil => exact absurd q (spl_ne c r [])
        | cons x y => rw [List.getLast?_cons_cons]
      rw [e, spl_last_iff c r []]
      cases r with
      | nil => simp
      | cons x y => rw [List.getLast?_cons_cons]; simp
    · rw [if_neg h, spl_last_iff s r (acc ++ [c])]
      cases r with
      | nil => simp [h]
      | cons x y => rw [List.getLast?_cons_cons]; simp
theorem spl_two (s : Nat) : ∀ (l acc : List Nat), l.getLast? = some s → 2 ≤ (spl [s] 0 acc l).length
  | [], acc, h => by simp at h
  | c :: r, acc, h => by
    rw [spl1]
    by_cases e : c = s
    · rw [if_pos e, List.length_cons]
      have := List.length_pos_iff.mpr (spl_ne s r [])
      omega
    · rw [if_neg e]
      cases r with
      | nil => simp at h; exact absurd h e
      | cons x y =>
        rw [List.getLast?_cons_cons] at h
        exact spl_two s (x :: y) _ h
/-- how long the parts are -/
theorem spl_len (s : Nat) : ∀ (l acc : List Nat), ∀ p ∈ spl [s] 0 acc l, p.length ≤ acc.length + l.length
  | [], acc, p, h => by
    rw [spl_nil] at h
    rw [List.mem_singleton.mp h]
    exact Nat.le_add_right _ _
  | c :: r, acc, p, h => by
    rw [spl1] at h
    by_cases e : c = s
    · rw [if_pos e] at h
      rcases List.mem_cons.mp h with rfl | h
      · exact Nat.le_add_right _ _
      · have := spl_len s r [] p h
        simp only [List.length_nil, List.length_cons] at this ⊢
        omega
    · rw [if_neg e] at h
      have := spl_len s r _ p h
      simp only [List.length_append, List.length_cons, List.length_nil] at this ⊢
      omega
theorem cut_len {s : Nat} {l p : List Nat} (h : p ∈ cut s l) : p.length ≤ l.length := by
  have := spl_len s l [] p h
  simpa using this
theorem spl_count (s : Nat) : ∀ (l acc : List Nat), (spl [s] 0 acc l).length ≤ l.length + 1
  | [], acc => by rw [spl_nil]; exact Nat.le_refl _
  | c :: r, acc => by
    rw [spl1]
    by_cases e : c = s
    · rw [if_pos e, List.length_cons, List.length_cons]
      have := spl_count s r []
      omega
    · rw [if_neg e, List.length_cons]
      have := spl_count s r (acc ++ [c])
      omega
/-! ### numbers -/
def isD (c : Nat) : Bool := decide (48 ≤ c) && decide (c ≤ 57)
def numOf : List Nat → Option Int
  | [a] => if isD a then some ((a : Int) - 48) else none
  | [a, b] => if isD a && isD b && decide (a ≠ 48) then some (((a : Int) - 48) * 10 + ((b : Int) - 48)) else none
  | _ => none
theorem isD_iff {c : Nat} : isD c = true ↔ 48 ≤ c ∧ c ≤ 57 := by unfold isD; simp
/-- what is read is written alike -/
theorem num_write {l : List Nat} {i : Int} (h : numOf l = some i) : 0 ≤ i ∧ i ≤ 99 ∧ numL i.toNat = l := by
  match l, h with
  | [], h => simp [numOf] at h
  | [a], h =>
    have h : (if isD a then some ((a : Int) - 48) else none) = some i := h
    by_cases ha : isD a = true
    · rw [if_pos ha] at h
      have := isD_iff.mp ha
      have e : i = (a : Int) - 48 := (Option.some.inj h).symm
      subst e
      refine ⟨by omega, by omega, ?_⟩
      have e2 : ((a : Int) - 48).toNat = a - 48 := by omega
      rw [e2, numL_lt (by omega)]
      have : 48 + (a - 48) = a := by omega
      rw [this]
    · rw [if_neg ha] at h; cases h
  | [a, b], h =>
    have h : (if isD a && isD b && decide (a ≠ 48) then some (((a : Int) - 48) * 10 + ((b : Int) - 48)) else none) = some i := h
    by_cases hc : (isD a && isD b && decide (a ≠ 48)) = true
    · rw [if_pos hc] at h
      simp only [Bool.and_eq_true, decide_eq_true_eq] at hc
      have h1 := isD_iff.mp hc.1.1
      have h2 := isD_iff.mp hc.1.2
      have h3 := hc.2
      have e : i = ((a : Int) - 48) * 10 + ((b : Int) - 48) := (Option.some.inj h).symm
      subst e
      refine ⟨by omega, by omega, ?_⟩
      have e2 : (((a : Int) - 48) * 10 + ((b : Int) - 48)).toNat = (a - 48) * 10 + (b - 48) := by omega
      rw [e2, numL_step (by omega)]
      have e3 : ((a - 48) * 10 + (b - 48)) / 10 = a - 48 := by omega
      have e4 : 48 + ((a - 48) * 10 + (b - 48)) % 10 = b := by omega
      rw [e3, e4, numL_lt (by omega)]
      have : 48 + (a - 48) = a := by omega
      rw [this]
      rfl
    · rw [if_neg hc] at h; cases h
  | _ :: _ :: _ :: _, h => simp [numOf] at h
/-! ### what is read: a step, a row (none: no such) -/
abbrev RStep := Option (Option (Int × Int))
abbrev RRow := Option (Option Int × List RStep)
def stepOf (l : List Nat) : RStep :=
  if l = [45] then some none
  else match cut 58 l with
    | [p, q] => (match numOf p, numOf q with
      | some a, some b => some (some (a, b))
      | _, _ => none)
    | _ => none
def endOf (w : List Nat) : Option (Option Int) := if w = [45] then some none else (numOf w).map some
def rowOf (l : List Nat) : RRow :=
  match cut 32 l with
  | w :: ws => (endOf w).map fun e => (e, ws.map stepOf)
  | [] => none
/-! ### what fits -/
def stepFits (k : Nat) : RStep → Bool
  | none => false
  | some none => true
  | some (some (a, b)) => (decide (0 ≤ a) && decide (a ≤ 60)) && (decide (0 ≤ b) && decide (b ≤ (k : Int) - 1))
def endFits : Option Int → Bool
  | none => true
  | some e => decide (1 ≤ e) && decide (e ≤ 60)
def rowFits (n : Int) (k : Nat) : RRow → Bool
  | none => false
  | some (e, ss) => decide ((ss.length : Int) = n) && (endFits e && ss.all (stepFits k))
def fits (sz : Option Int) (rows : List RRow) : Bool :=
  match sz with
  | none => false
  | some n => (decide (1 ≤ n) && decide (n ≤ 8)) && ((decide (1 ≤ rows.length) && decide (rows.length ≤ 30)) && rows.all (rowFits n rows.length))
def sizeL : List Nat := [115, 105, 122, 101]
def parse (l : List Nat) : Option (Int × List RRow) :=
  match cut 10 l with
  | h :: rest =>
    (match cut 32 h with
    | [a, w] => if a = sizeL ∧ (h :: rest).getLast? = some [] then
        (match numOf w with
        | some n => if fits (some n) (rest.dropLast.map rowOf) = true then some (n, rest.dropLast.map rowOf) else none
        | none => none) else none
    | _ => none)
  | [] => none
/-! ### writing -/
def intL (i : Int) : List Nat := numL i.toNat
def oL : Option Int → List Nat
  | none => [45]
  | some i => intL i
def stepL : RStep → List Nat
  | some (some (a, b)) => intL a ++ (58 :: intL b)
  | _ => [45]
def rowL : RRow → List Nat
  | some (e, ss) => oL e ++ ss.flatMap (fun s => 32 :: stepL s)
  | none => []
def headL (n : Int) : List Nat := sizeL ++ (32 :: intL n)
def machL (n : Int) (rows : List RRow) : List Nat := headL n ++ [10] ++ rows.flatMap (fun r => rowL r ++ [10])
/-! ### the round trip -/
theorem step_write {l : List Nat} {s : Option (Int × Int)} (h : stepOf l = some s) : stepL (some s) = l := by
  unfold stepOf at h
  by_cases h1 : l = [45]
  · rw [if_pos h1] at h
    cases h
    exact h1.symm
  · rw [if_neg h1] at h
    have j := join_cut 58 l
    split at h
    · rename_i p q e
      rw [e] at j
      split at h
      · rename_i a b ea eb
        cases h
        show numL a.toNat ++ (58 :: numL b.toNat) = l
        rw [(num_write ea).2.2, (num_write eb).2.2]
        exact j
      · cases h
    · cases h
theorem end_write {w : List Nat} {e : Option Int} (h : endOf w = some e) : oL e = w := by
  unfold endOf at h
  by_cases h1 : w = [45]
  · rw [if_pos h1] at h
    cases h
    exact h1.symm
  · rw [if_neg h1] at h
    cases q : numOf w with
    | none => rw [q] at h; cases h
    | some i =>
      rw [q] at h
      cases h
      exact (num_write q).2.2
theorem steps_write {k : Nat} : ∀ {ws : List (List Nat)}, (ws.map stepOf).all (stepFits k) = true → (ws.map stepOf).flatMap (fun s => 32 :: stepL s) = ws.flatMap (fun q => 32 :: q)
  | [], _ => rfl
  | w :: ws, h => by
    rw [List.map_cons, List.all_cons, Bool.and_eq_true] at h
    rw [List.map_cons, List.flatMap_cons, List.flatMap_cons, steps_write h.2]
    cases e : stepOf w with
    | none => rw [e] at h; exact absurd h.1 Bool.false_ne_true
    | some s => rw [step_write e]
theorem row_write {n : Int} {k : Nat} {l : List Nat} (h : rowFits n k (rowOf l) = true) : rowL (rowOf l) = l := by
  have j := join_cut 32 l
  unfold rowOf at h ⊢
  cases e : cut 32 l with
  | nil => exact absurd e (spl_ne 32 l [])
  | cons w ws =>
    rw [e] at h j
    simp only at h ⊢
    cases e2 : endOf w with
    | none => rw [e2] at h; exact absurd h Bool.false_ne_true
    | some o =>
      rw [e2] at h
      have h' : (decide (((ws.map stepOf).length : Int) = n) && (endFits o && (ws.map stepOf).all (stepFits k))) = true := h
      simp only [Bool.and_eq_true] at h'
      show oL o ++ (ws.map stepOf).flatMap (fun s => 32 :: stepL s) = l
      rw [end_write e2, steps_write h'.2.2, ← joinL_cons]
      exact j
theorem rows_write {n : Int} {k : Nat} : ∀ {ls : List (List Nat)}, (ls.map rowOf).all (rowFits n k) = true → (ls.map rowOf).flatMap (fun r => rowL r ++ [10]) = ls.flatMap (fun r => r ++ [10])
  | [], _ => rfl
  | l :: ls, h => by
    rw [List.map_cons, List.all_cons, Bool.and_eq_true] at h
    rw [List.map_cons, List.flatMap_cons, List.flatMap_cons, rows_write h.2, row_write h.1]
theorem flat_shift (s : Nat) : ∀ (ls : List (List Nat)) (q : List Nat), [s] ++ ls.flatMap (fun r => r ++ [s]) ++ q = (ls ++ [q]).flatMap (fun r => s :: r)
  | [], q => by simp
  | l :: ls, q => by
    show [s] ++ ((l ++ [s]) ++ ls.flatMap (fun r => r ++ [s])) ++ q = (s :: l) ++ (ls ++ [q]).flatMap (fun r => s :: r)
    rw [← flat_shift s ls q]
    simp
theorem parse_write {l : List Nat} {n : Int} {rows : List RRow} (h : parse l = some (n, rows)) : machL n rows = l ∧ fits (some n) rows = true := by
  unfold parse at h
  have j := join_cut 10 l
  cases e : cut 10 l with
  | nil => exact absurd e (spl_ne 10 l [])
  | cons hd rest =>
    rw [e] at h j
    simp only at h
    have j2 := join_cut 32 hd
    split at h
    · rename_i a w e2
      split at h
      · rename_i hc
        obtain ⟨ha, hl⟩ := hc
        split at h
        · rename_i m e3
          split at h
          · rename_i hf
            cases h
            refine ⟨?_, hf⟩
            rw [e2] at j2
            have hr : rest ≠ [] := by
              rintro rfl
              have e5 : hd = [] := Option.some.inj hl
              rw [e5, ha] at j2
              have := congrArg List.length j2
              simp [joinL, sizeL] at this
            have hl2 : rest.getLast? = some [] := by
              cases rest with
              | nil => exact absurd rfl hr
              | cons x y => rw [List.getLast?_cons_cons] at hl; exact hl
            have e6 : rest = rest.dropLast ++ [[]] := by
              have e7 := List.dropLast_concat_getLast hr
              have e8 : rest.getLast hr = [] := Option.some.inj ((List.getLast?_eq_getLast hr).symm.trans hl2)
              rw [e8] at e7
              exact e7.symm
            have hf' : ((decide (1 ≤ n) && decide (n ≤ 8)) && ((decide (1 ≤ (rest.dropLast.map rowOf).length) && decide ((rest.dropLast.map rowOf).length ≤ 30)) && (rest.dropLast.map rowOf).all (rowFits n (rest.dropLast.map rowOf).length))) = true := hf
            simp only [Bool.and_eq_true] at hf'
            show sizeL ++ (32 :: numL n.toNat) ++ [10] ++ (rest.dropLast.map rowOf).flatMap (fun r => rowL r ++ [10]) = l
            rw [(num_write e3).2.2, rows_write hf'.2.2]
            have j3 : sizeL ++ (32 :: w) = hd := by rw [← j2, ha]; rfl
            rw [j3, ← j, joinL_cons, e6, ← flat_shift 10 rest.dropLast []]
            simp
          · cases h
        · cases h
      · cases h
    · cases h
/-! ### lengths of what is written -/
theorem intL_len {i : Int} (h : i ≤ 99) : (intL i).length ≤ 2 := numL_len (by decide) (by omega)
theorem oL_len {e : Option Int} (h : endFits e = true) : (oL e).length ≤ 2 := by
  cases e with
  | none => exact (by decide : 1 ≤ 2)
  | some i =>
    have h' : (decide (1 ≤ i) && decide (i ≤ 60)) = true := h
    simp only [Bool.and_eq_true, decide_eq_true_eq] at h'
    exact intL_len (by omega)
theorem stepL_len {k : Nat} (hk : k ≤ 30) {s : RStep} (h : stepFits k s = true) : (stepL s).length ≤ 5 := by
  match s, h with
  | none, h => exact absurd h Bool.false_ne_true
  | some none, _ => exact (by decide : 1 ≤ 5)
  | some (some (a, b)), h =>
    have h' : ((decide (0 ≤ a) && decide (a ≤ 60)) && (decide (0 ≤ b) && decide (b ≤ (k : Int) - 1))) = true := h
    simp only [Bool.and_eq_true, decide_eq_true_eq] at h'
    show (intL a ++ (58 :: intL b)).length ≤ 5
    rw [List.length_append, List.length_cons]
    have h1 := intL_len (i := a) (by omega)
    have h2 := intL_len (i := b) (by omega)
    omega
theorem flat_len {α : Type} (f : α → List Nat) (c : Nat) : ∀ (l : List α), (∀ x ∈ l, (f x).length ≤ c) → (l.flatMap f).length ≤ l.length * c
  | [], _ => by simp
  | x :: l, h => by
    rw [List.flatMap_cons, List.length_append, List.length_cons, Nat.add_mul, Nat.one_mul]
    have h1 := h x (List.mem_cons_self ..)
    have h2 := flat_len f c l fun y hy => h y (List.mem_cons_of_mem _ hy)
    omega
theorem rowL_len {n : Int} {k : Nat} (hn : n ≤ 8) (hk : k ≤ 30) {r : RRow} (h : rowFits n k r = true) : (rowL r).length ≤ 50 := by
  match r, h with
  | none, h => exact absurd h Bool.false_ne_true
  | some (e, ss), h =>
    have h' : (decide ((ss.length : Int) = n) && (endFits e && ss.all (stepFits k))) = true := h
    simp only [Bool.and_eq_true, decide_eq_true_eq, List.all_eq_true] at h'
    show (oL e ++ ss.flatMap (fun s => 32 :: stepL s)).length ≤ 50
    rw [List.length_append]
    have h1 := oL_len h'.2.1
    have h2 := flat_len (fun s => 32 :: stepL s) 6 ss fun s hs => by
      rw [List.length_cons]
      have := stepL_len hk (h'.2.2 s hs)
      omega
    omega
theorem fits_of {n : Int} {rows : List RRow} (h : fits (some n) rows = true) : 1 ≤ n ∧ n ≤ 8 ∧ 1 ≤ rows.length ∧ rows.length ≤ 30 ∧ ∀ r ∈ rows, rowFits n rows.length r = true := by
  have h' : ((decide (1 ≤ n) && decide (n ≤ 8)) && ((decide (1 ≤ rows.length) && decide (rows.length ≤ 30)) && rows.all (rowFits n rows.length))) = true := h
  simp only [Bool.and_eq_true, decide_eq_true_eq, List.all_eq_true] at h'
  exact ⟨h'.1.1, h'.1.2, h'.2.1.1, h'.2.1.2, h'.2.2⟩
theorem headL_len {n : Int} (hn : n ≤ 99) : (headL n).length ≤ 7 := by
  show (sizeL ++ (32 :: intL n)).length ≤ 7
  rw [List.length_append, List.length_cons]
  have := intL_len hn
  show 4 + _ ≤ 7
  omega
theorem machL_len {n : Int} {rows : List RRow} (h : fits (some n) rows = true) : (machL n rows).length ≤ 2000 := by
  obtain ⟨h1, h2, h3, h4, h5⟩ := fits_of h
  show (headL n ++ [10] ++ rows.flatMap (fun r => rowL r ++ [10])).length ≤ 2000
  rw [List.length_append, List.length_append]
  have a := headL_len (n := n) (by omega)
  have b := flat_len (fun r => rowL r ++ [10]) 51 rows fun r hr => by
    rw [List.length_append]
    have := rowL_len h2 h4 (h5 r hr)
    show _ + 1 ≤ 51
    omega
  show _ + 1 + _ ≤ 2000
  omega
end Kl
namespace Kl
open PySem PySem.Spec PyProof.Rows L2
/-! ### the text by places -/
def top (i : Nat) : Stmt := PySem.Challenge.pw_keptlengths_k07_whole_texts_read_as_mach.main.body.getD i (.Pass ⟨0, 0, 0, 0⟩)
/-! ### heaps -/
/-- the tuples stay -/
def TupS (H H' : Hp) : Prop := ∀ b xs, H b = some (.tup xs) → H' b = some (.tup xs)
theorem TupS.refl (H : Hp) : TupS H H := fun _ _ h => h
theorem TupS.trans {H H1 H2 : Hp} (a : TupS H H1) (b : TupS H1 H2) : TupS H H2 := fun c o h => b c o (a c o h)
theorem TupS.same {H H' : Hp} (a : Same H H') : TupS H H' := fun b xs h => a b _ h
theorem TupS.at {H : Hp} {D : Addr} {ys : List V} {o : HO} (h : H D = some (.lst ys)) : TupS H (upd H D o) := fun b xs e => by
  rw [upd_ne (ne_of e h (by intro z; cases z))]
  exact e
theorem same_new {H : Hp} {p : Addr} {o : HO} (h : H p = none) : Same H (upd H p o) := fun b x e => by
  rw [upd_ne (ne_of_none e h)]
  exact e
/-- what was made after H1 may change -/
theorem Same.mut {H1 H : Hp} {D : Addr} {o : HO} (s : Same H1 H) (h : H1 D = none) : Same H1 (upd H D o) := fun b x e => by
  rw [upd_ne (ne_of_none e h)]
  exact s b x e
/-- all but the one at W stay -/
def But (W : Addr) (H H' : Hp) : Prop := ∀ b o, b ≠ W → H b = some o → H' b = some o
theorem But.refl (W : Addr) (H : Hp) : But W H H := fun _ _ _ h => h
theorem But.trans {W : Addr} {H H1 H2 : Hp} (a : But W H H1) (b : But W H1 H2) : But W H H2 := fun c o n h => b c o n (a c o n h)
theorem But.same {W : Addr} {H H' : Hp} (s : Same H H') : But W H H' := fun b o _ h => s b o h
theorem But.mut {W : Addr} {H1 H : Hp} {D : Addr} {o : HO} (s : But W H1 H) (h : H1 D = none) : But W H1 (upd H D o) := fun b x n e => by
  rw [upd_ne (ne_of_none e h)]
  exact s b x n e
theorem But.at {W : Addr} {H : Hp} {o : HO} : But W H (upd H W o) := fun b x n e => by
  rw [upd_ne n]
  exact e
/-! ### the well: the script's ints, how many are taken, what is left, a sum -/
def Well (L : Addr) (ns : List Int) (H : Hp) (W : Addr) : Prop := ∃ (c x s : Int), H W = some (.lst [.ref L, .int c, .int x, .int s]) ∧ H L = some (.lst (ns.map V.int)) ∧ 0 ≤ c
theorem Well.same {L : Addr} {ns : List Int} {H H' : Hp} {W : Addr} (h : Well L ns H W) (s : Same H H') : Well L ns H' W := by
  obtain ⟨c, x, z, h1, h2, h3⟩ := h
  exact ⟨c, x, z, s _ _ h1, s _ _ h2, h3⟩
theorem ne_well {H : Hp} {W L : Addr} {c x s : Int} {ns : List Int} (h1 : H W = some (.lst [.ref L, .int c, .int x, .int s])) (h2 : H L = some (.lst (ns.map V.int))) : L ≠ W := by
  rintro rfl
  rw [h1] at h2
  cases ns with
  | nil => simp at h2
  | cons y ys => simp at h2
theorem But.tup {L : Addr} {ns : List Int} {W : Addr} {H H' : Hp} (hw : Well L ns H W) (s : But W H H') : TupS H H' := fun b xs h => by
  obtain ⟨c, x, z, h1, _⟩ := hw
  exact s b _ (ne_of h h1 (by intro q; cases q)) h
/-- a list made after the well may change -/
theorem Well.mut {L : Addr} {ns : List Int} {H1 H : Hp} {W D : Addr} {o : HO} (w1 : Well L ns H1 W) (hD : H1 D = none) (w : Well L ns H W) : Well L ns (upd H D o) W := by
  obtain ⟨c1, x1, s1, a1, a2, _⟩ := w1
  obtain ⟨c, x, s, b1, b2, b3⟩ := w
  exact ⟨c, x, s, by rw [upd_ne (ne_of_none a1 hD)]; exact b1, by rw [upd_ne (ne_of_none a2 hD)]; exact b2, b3⟩
theorem Well.new {L : Addr} {ns : List Int} {H : Hp} {W D : Addr} {o : HO} (w : Well L ns H W) (hD : H D = none) : Well L ns (upd H D o) W := Well.mut w hD w
theorem Well.ne {L : Addr} {ns : List Int} {H : Hp} {W D : Addr} (w : Well L ns H W) (hD : H D = none) : D ≠ W := by
  obtain ⟨c, x, s, h1, _⟩ := w
  exact (ne_of_none h1 hD).symm
/-! ### a comprehension with one name and no test -/
theorem lc_gen {J : It} {n : Nat} {G : Hp → Prop} {P : Nat → V → Prop} (w : Walk J n G (fun i H x H' => H' = H ∧ P i x)) {te : TE} {j : Nat} {σ : L2.St} {H1 : Hp} {D : Addr} {Qd : Hp → Prop}
    (Ok : Hp → Prop) (R : Nat → V → Hp → Prop) (hn : n ≤ sizeLine)
    (h0 : Ok (upd H1 D (.lst []))) (hU : ∀ H ys zs, Ok H → H D = some (.lst ys) → Ok (upd H D (.lst zs))) (hG : ∀ H, Ok H → G H)
    (hR : ∀ i v H H', R i v H → TupS H H' → R i v H')
    (hs : ∀ i x H, i < n → Ok H → P i x → ∀ K : VK, (∀ y H4, Ok H4 → H4 D = H D → TupS H H4 → R i y H4 → K y H4) → te (σ.set j (some x)) H K)
    (hd : ∀ ys H, Ok H → H D = some (.lst ys) → ys.length = n → (∀ i y, ys[i]? = some y → R i y H) → Qd H) :
    ∃ W : Nat → Nat → Hp → Prop, (∃ m, W 0 m (upd H1 D (.lst []))) ∧ ∀ i m H, W i m H →
      (J.stop i H ∧ Qd H) ∨ (J.go i H ∧ ∃ Nx : Hp → Prop, (∀ H', Nx H' → ∃ m', m' < m ∧ W (i + 1) m' H') ∧ ∀ x H', J.yld i H x H' → (gName j) x (wipe σ [j]) H' fun σ2 H2 => wipe σ2 [j] = wipe σ [j] ∧ tYes σ2 H2 fun b H3 =>
        if b = true then te σ2 H3 fun y H4 => ∃ acc, H4 D = some (.lst acc) ∧ acc.length < sizeLine ∧ Nx (upd H4 D (.lst (acc ++ [y]))) else Nx H3) := by
  refine lc_it w (fun i H => Ok H ∧ ∃ ys, H D = some (.lst ys) ∧ ys.length = i ∧ ∀ k y, ys[k]? = some y → R k y H) ⟨h0, [], upd_same, rfl, fun k y e => by simp at e⟩ (fun i H _ p => hG H p.1) ?_ ?_
  · rintro i x H H' hi ⟨ok, ys, hD, hl, hy⟩ ⟨rfl, hp⟩
    show wipe ((wipe σ [j]).set j (some x)) [j] = wipe σ [j] ∧ _
    refine ⟨by show ((σ.set j none).set j (some x)).set j none = σ.set j none; rw [List.set_set, List.set_set], ?_⟩
    show te ((σ.set j none).set j (some x)) H' _
    rw [List.set_set]
    refine hs i x H' hi ok hp _ fun y H4 ok4 e4 t4 r4 => ?_
    rw [hD] at e4
    refine ⟨ys, e4, by omega, hU H4 ys _ ok4 e4, ys ++ [y], upd_same, by rw [List.length_append, hl]; rfl, fun k z e => ?_⟩
    by_cases hk : k < ys.length
    · rw [List.getElem?_append_left hk] at e
      exact hR _ _ _ _ (hy k z e) (t4.trans (TupS.at e4))
    · rw [List.getElem?_append_right (by omega)] at e
      have hk2 : k = ys.length := by
        by_cases q : k - ys.length = 0
        · omega
        · rw [List.getElem?_eq_none (by simp; omega)] at e; cases e
      subst hk2
      rw [Nat.sub_self] at e
      have e' : y = z := Option.some.inj e
      subst e'
      rw [hl]
      exact hR _ _ _ _ r4 (TupS.at e4)
  · rintro H ⟨ok, ys, hD, hl, hy⟩
    exact hd ys H ok hD hl hy
/-- the element's making changes nothing -/
theorem lc_pure {J : It} {n : Nat} {G : Hp → Prop} {P : Nat → V → Prop} (w : Walk J n G (fun i H x H' => H' = H ∧ P i x)) {te : TE} {j : Nat} {σ : L2.St} {H1 : Hp} {D : Addr} {Qd : Hp → Prop}
    (R : Nat → V → Hp → Prop) (hD : H1 D = none) (hn : n ≤ sizeLine) (hG : ∀ H, Same H1 H → G H) (hR : ∀ i v H H', R i v H → TupS H H' → R i v H')
    (hs : ∀ i x H, i < n → Same H1 H → P i x → ∀ K : VK, (∀ y H4, Same H H4 → R i y H4 → K y H4) → te (σ.set j (some x)) H K)
    (hd : ∀ ys H, Same H1 H → H D = some (.lst ys) → ys.length = n → (∀ i y, ys[i]? = some y → R i y H) → Qd H) :
    ∃ W : Nat → Nat → Hp → Prop, (∃ m, W 0 m (upd H1 D (.lst []))) ∧ ∀ i m H, W i m H →
      (J.stop i H ∧ Qd H) ∨ (J.go i H ∧ ∃ Nx : Hp → Prop, (∀ H', Nx H' → ∃ m', m' < m ∧ W (i + 1) m' H') ∧ ∀ x H', J.yld i H x H' → (gName j) x (wipe σ [j]) H' fun σ2 H2 => wipe σ2 [j] = wipe σ [j] ∧ tYes σ2 H2 fun b H3 =>
        if b = true then te σ2 H3 fun y H4 => ∃ acc, H4 D = some (.lst acc) ∧ acc.length < sizeLine ∧ Nx (upd H4 D (.lst (acc ++ [y]))) else Nx H3) := by
  refine lc_gen w (fun H => Same H1 H ∧ ∃ ys, H D = some (.lst ys)) R hn ⟨same_new hD, [], upd_same⟩ (fun H ys zs ok e => ⟨Same.mut ok.1 hD, zs, upd_same⟩) (fun H ok => hG H ok.1) hR ?_ fun ys H ok e hl hy => hd ys H ok.1 e hl hy
  rintro i x H hi ⟨ok, ys, e⟩ hp K hK
  exact hs i x H hi ok hp K fun y H4 s4 r4 => hK y H4 ⟨ok.trans s4, ys, s4 _ _ e⟩ ((s4 _ _ e).trans e.symm) (TupS.same s4) r4
/-- the element's making turns the well -/
theorem lc_draw {J : It} {n : Nat} {G : Hp → Prop} {P : Nat → V → Prop} (w : Walk J n G (fun i H x H' => H' = H ∧ P i x)) {te : TE} {j : Nat} {σ : L2.St} {H1 : Hp} {L : Addr} {ns : List Int} {W D : Addr} {Qd : Hp → Prop}
    (R : Nat → V → Hp → Prop) (hW : Well L ns H1 W) (hD : H1 D = none) (hn : n ≤ sizeLine) (hG : ∀ H, But W H1 H → G H) (hR : ∀ i v H H', R i v H → TupS H H' → R i v H')
    (hs : ∀ i x H, i < n → Well L ns H W → But W H1 H → P i x → ∀ K : VK, (∀ y H4, Well L ns H4 W → But W H H4 → R i y H4 → K y H4) → te (σ.set j (some x)) H K)
    (hd : ∀ ys H, Well L ns H W → But W H1 H → H D = some (.lst ys) → ys.length = n → (∀ i y, ys[i]? = some y → R i y H) → Qd H) :
    ∃ W : Nat → Nat → Hp → Prop, (∃ m, W 0 m (upd H1 D (.lst []))) ∧ ∀ i m H, W i m H →
      (J.stop i H ∧ Qd H) ∨ (J.go i H ∧ ∃ Nx : Hp → Prop, (∀ H', Nx H' → ∃ m', m' < m ∧ W (i + 1) m' H') ∧ ∀ x H', J.yld i H x H' → (gName j) x (wipe σ [j]) H' fun σ2 H2 => wipe σ2 [j] = wipe σ [j] ∧ tYes σ2 H2 fun b H3 =>
        if b = true then te σ2 H3 fun y H4 => ∃ acc, H4 D = some (.lst acc) ∧ acc.length < sizeLine ∧ Nx (upd H4 D (.lst (acc ++ [y]))) else Nx H3) := by
  refine lc_gen w (fun H => Well L ns H W ∧ But W H1 H ∧ ∃ ys, H D = some (.lst ys)) R hn ⟨hW.new hD, But.same (same_new hD), [], upd_same⟩
    (fun H ys zs ok e => ⟨Well.mut hW hD ok.1, But.mut ok.2.1 hD, zs, upd_same⟩) (fun H ok => hG H ok.2.1) hR ?_ fun ys H ok e hl hy => hd ys H ok.1 ok.2.1 e hl hy
  rintro i x H hi ⟨wl, ok, ys, e⟩ hp K hK
  exact hs i x H hi wl ok hp K fun v H4 wl4 s4 r4 => hK v H4 ⟨wl4, ok.trans s4, ys, s4 _ _ (hW.ne hD) e⟩ ((s4 _ _ (hW.ne hD) e).trans e.symm) (But.tup wl s4) r4
end Kl
namespace Kl
open PySem PySem.Spec PyProof.Rows L2
/-! ### defs that are called while nothing is being shown (repr asks for it) -/
structure FnOkG (P : Program) (w : World) (K : PySem.W.Frag) (mg : Str → Option Value) (base : Heap) (k : Nat) (f : Addr) (fd : FuncData) (ps : List Str) (sp : Sp) : Prop where
  len : ∀ vs H Q E, sp vs H Q E → vs.length = ps.length
  run : ∀ (A : Around) (outer : List Env) (s : Shared) (H : Hp) (args : Args) (us : List Value) (vs : List V) (Q : VK) (E : XK), A.guards = some [] →
    Room k A → Env0 P w K mg base A outer s H → BindsTo s fd args (ps.zip us) → Vals vs us → sp vs H Q E → codeAny (model P w) A (.call (.ref f) args) (CR CX0 outer P w H s Q E) s
section
variable {P : Program} {w : World} {K : PySem.W.Frag} {mg : Str → Option Value} {base : Heap}
theorem okG {x qual : Str} {st : Stmt} {f : Addr} {fd : FuncData} {N ps : List Str} {k : Nat} {sp : Sp} (F : Fun K x qual st f fd) (S : FnScope N ps (defScope st)) (len : ∀ vs H Q E, sp vs H Q E → vs.length = ps.length)
    (hbody : ∀ (cdv : Value) (A : Around) (outer : List Env) (s : Shared) (H : Hp) (vs : List V) (Q : VK) (E : XK), A.guards = some [] → Room k (A.deeper (envOfC qual (defScope st) s.heap.objs.size f cdv)) → sp vs H Q E →
      ∃ t, PSs (cxOf CX0 P w K mg base N qual (defScope st) f cdv A outer s H E).nox (defBody st) t ∧ t { nx := fun _ H' => Q .non H', rt := Q } (start N vs) H) : FnOkG P w K mg base (k + 1) f fd ps sp := by
  obtain ⟨oc, od, kV, doc, pm, an, cdv, ct, osl, rfl, lk, hcd⟩ := F.ex
  refine ⟨len, fun A outer s H args us vs Q E hg hr e0 hb r hsp => ?_⟩
  have inK : ∀ b o, base.get? b = some o → s.heap.get? b = some o := fun b o e => (e0.bs b o e).1
  have kinds : ∀ y ∈ ps.zip us, (defScope st).names.lookup y.1 = some .local ∨ ((defScope st).names.lookup y.1 = some .cell ∧ ((cellsFrom (s.heap.objs.size + 1) (defScope st).names []).lookup y.1).isSome = true) := by
    rintro ⟨n, v⟩ hy
    cases S.par n (List.of_mem_zip hy).1 with
    | inl q => exact .inl q
    | inr q => exact .inr ⟨q, PySem.W.cellsFrom_some _ _ _ (.inl q)⟩
  refine codeAny_call_function hr.depth ((e0.mod.kin.keeps inK) _ _ lk) rfl S.co S.gen rfl (PySem.W.codeRec_of (e0.mod.kin.keeps inK) hcd) (hb _ _ _ _ ?_)
  refine wpAny_newFunctionEnv_cells S.kind kinds fun env he s1 ic => ?_
  subst he
  obtain ⟨t, ht, hq⟩ := hbody cdv A outer s H vs Q E hg (hr.deeper _) hsp
  have I := inv_start (CX := CX0) (P := P) (w := w) (K := K) (mg := mg) (E := E) S hr.hd e0 (len _ _ _ _ hsp) r ic
  refine ⟨(e0.mod.nolimit.keeps inK).keeps ic.toInCall.keep, codeAny_func (wpAny_mono (ht.nox.run [] s1 (start N vs) H _ I hq) ?_ fun _ _ z => z)⟩
  intro fl s' hs
  match fl, hs with
  | .ret u, ⟨v, σ', H', J, rv, q⟩ => exact ⟨v, H', J.os, J.bare, J.base, J.hok, rv, q⟩
  | .next, ⟨σ', H', J, q⟩ => exact ⟨V.non, H', J.os, J.bare, J.base, J.hok, rfl, q⟩
  | .brk, ⟨_, _, _, q⟩ => exact q.elim
  | .cont, ⟨_, _, _, q⟩ => exact q.elim
end
section
variable {X : Cx} {k : Nat} {f : Addr} {fd : FuncData} {ps : List Str} {sp : Sp} {x : Str} {p pos : Pos} {e : Expr} {es : List Expr} {t : TA}
theorem pe_callG (F : FnOkG X.prog X.w X.K X.mg X.base k f fd ps sp) (hgd : X.A.guards = some []) (hr : Room k X.A) (hg : Gl X x) (hm : X.mg x = some (.ref f)) (hk : PySem.W.keepIn X.K (.ref f) = true) (hb : Binds X.K fd ps [])
    (ha : PA X (e :: es) t) (hdb : (x == ("__debug__" : Str)) = false := by decide) (he : starEach (e :: es) X.env = (false, eval e X.env) :: starEach es X.env := by rfl) (hpl : (backTo pos (starEach es X.env)).any (·.1) = false := by rfl) :
    PE X (.Call (.Name x p) (e :: es) [] pos) (tCall sp [] E0 t) := by
  refine ⟨fun pins s σ H Q I h => wpAny_Call_Name_kw (ld_glob I hg hm ?_ hdb)⟩
  refine PySem.W.callWith_K (h₀ := X.base) I.ok.mod.kin hk (thn (ha.run pos pins s σ H _ I h) ?_) he hpl
  rintro us s1 ⟨vs, H1, I1, r, q⟩
  have q : sp (vs ++ []) H1 Q E0 := q
  rw [List.append_nil] at q
  have hl : (us ++ []).length = ps.length := by
    rw [List.append_nil, ← r.length]
    exact F.len _ _ _ _ q
  have hbd := hb s1 us I1.kIn hl
  rw [List.append_nil] at hbd
  refine ⟨I1.kIn, wpAny_call (codeAny_mono (F.run X.A X.stack s1 H1 ⟨us, []⟩ us vs Q E0 hgd hr I1.env0 hbd r q) ?_)⟩
  intro res s' hq
  match res, hq with
  | .ok (.ret u), hq => exact I1.after hq
  | .ok .next, hq => exact hq.elim
  | .ok .brk, hq => exact hq.elim
  | .ok .cont, hq => exact hq.elim
  | .error _, hq => exact hq.elim
/-- repr of data -/
theorem call_reprD (hgd : X.A.guards = some []) (hu : X.A.units + 64 < cLine) : CallR X (.builtin "repr") (fun xs H Q => ∃ (a : Addr) (d : PyData), xs = [.ref a] ∧ Dp X.K H (.ref a) d ∧ d.showable = true ∧ d.hasDict = false ∧ d.depth < 60 ∧ d.shown.length ≤ sizeLine ∧ Q (.str d.shown) H) := by
  intro pins s σ H xs us Q I r h
  obtain ⟨a, d, rfl, hd, h1, h2, h3, h4, q⟩ := h
  obtain ⟨u, rfl, ru⟩ := vals1 r
  obtain ⟨as, rd⟩ := Dp.reads I d _ _ hd ru
  cases (show u = Value.ref a from ru)
  exact repr_of_reads' rd h1 (PyData.noDict_hsm h2) hgd (by omega) (fun _ _ z => z) (fun h' t tk hk => ⟨.str _, H, I.kept hk, ⟨t, rfl⟩, q⟩) h4
end
/-! ### the law's end, nothing being shown -/
/-- the abstract heap at the law's entry: the script alone, read only (or nothing, where the script is one of the top's own lists) -/
theorem entry_heap {K : PySem.W.Frag} {h : Heap} {a : Addr} {vs : List Value} {ns : List Int} (KX : K.In h) (ho : h.get? a = some { cls := .type "list", data := .seq vs.toArray }) (hi : IntsAre vs ns) (hz : ns.length ≤ sizeLine) :
    ∃ H : Hp, (∀ b, H b = none ∨ (b = a ∧ K.lookup a = none ∧ H b = some (.frz { cls := .type "list", data := .seq vs.toArray } (.lst (ns.map V.int))))) ∧ SqL K H a (ns.map V.int) := by
  cases hk : K.lookup a with
  | some o =>
    refine ⟨fun _ => none, fun _ => .inl rfl, .inr ?_⟩
    have e := KX a o hk
    rw [ho] at e
    have e' := (Option.some.inj e).symm
    subst e'
    exact ⟨_, vs.toArray, _, hk, rfl, rfl, rfl, by rw [List.size_toArray, hi.length]; exact hz, by simpa using vals_ints hi⟩
  | none =>
    refine ⟨upd (fun _ => none) a (.frz { cls := .type "list", data := .seq vs.toArray } (.lst (ns.map V.int))), fun b => ?_, .inl (.inr ⟨_, upd_same⟩)⟩
    by_cases hb : b = a
    · subst hb
      exact .inr ⟨rfl, rfl, upd_same⟩
    · exact .inl (upd_ne hb)
theorem walk_ofG {l : PySem.W.OpenLaw} {n k : Nat} {q : Program} {loose : List Str} {XP : (Str → Option Value) → Heap → Prop} {YP : World → Heap → Prop} {d : DefRec} {K : Params → PySem.W.Frag} {sp : PySem.W.Frag → Sp} {x : Str}
    (hn : l.most = some n) (hz : n ≤ sizeLine) (hdf : d.params.defaults = []) (room : Room k callerA) (hY : ∀ (w : World) (h : Heap), YP w h → (K w.params).In h)
    (F : ∀ (w : World) (mg : Str → Option Value) (fa : Addr) (h : Heap), (K w.params).In h → h.Ns mainGlobals mg → mg d.name = some (.ref fa) → ∃ fd : FuncData,
      (∀ (s : Shared) (u : Value), BindsTo s fd ⟨[u], []⟩ [(x, u)]) ∧ ∀ base : Heap, (K w.params).In base → base.Ns mainGlobals mg → FnOkG l.prog w (K w.params) mg base k fa fd [x] (sp (K w.params)))
    (hsp : ∀ (K : PySem.W.Frag) (H : Hp) (a : Addr) (ns : List Int), ns.length ≤ n → SqL K H a (ns.map V.int) → sp K [.ref a] H (fun v _ => v = .bl true) E0) :
    PySem.W.WalkO q loose XP YP l.row.toRowW d [] (fun f vs => PySem.call f vs) := by
  refine Att.attach_call hn hdf ?_
  intro w s₀ s₁ mg mb fa o pm cd doc a vs ns G Y ho hd hcd hmg hobj hints hlen hgens
  have inK := hY w _ Y
  obtain ⟨fd, bind, ok⟩ := F w mg fa _ inK G.T.g hmg
  obtain ⟨H, hO, hS⟩ := entry_heap inK hobj hints (Nat.le_trans hlen hz)
  have only : ∀ {b : Addr}, b ≠ a → H b = none := fun {b} hb => (hO b).elim id fun y => absurd y.1 hb
  have track : HOk l.prog w H s₁.heap := by
    intro b u e
    rcases hO b with y | ⟨rfl, _, y⟩
    · exact absurd (e.symm.trans y) (by simp)
    · have e' := Option.some.inj (e.symm.trans y)
      subst e'
      exact ⟨hobj, by rw [List.length_map]; exact Nat.le_trans hlen hz, vs, _, vals_ints hints, hobj⟩
  have names : ∀ {b : Addr} {m : Str → Option Value}, s₁.heap.Ns b m → (hidT s₁.heap H).Ns b m := by
    rintro b m ⟨ob, es, ep, e, dt, r⟩
    refine ⟨ob, es, ep, hidT_get e (only ?_), dt, r⟩
    rintro rfl
    have e' := Option.some.inj (e.symm.trans hobj)
    subst e'
    exact Data.noConfusion dt
  have kin : (K w.params).In (hidT s₁.heap H) := by
    intro b ob e
    refine hidT_get (inK b ob e) ((hO b).elim id ?_)
    rintro ⟨rfl, y, _⟩
    exact absurd (y.symm.trans e) (by simp)
  obtain ⟨mc, lim1, lim2⟩ := G.T.nolimit
  have start0 : Env0 l.prog w (K w.params) mg (hidT s₁.heap H) callerA [] s₁ H :=
    { frames := rfl, mod := ⟨kin, names G.T.g, ⟨mb, names G.T.b, G.T.builtins⟩, mc, names lim1, lim2⟩, bs := fun b ob e => of_hidT e, bsz := Nat.le_of_eq (hidT_size _ _), funs := trivial,
      frf := fun b y => absurd (show b ∈ ([] : List Addr) from y) (by simp), hok := track, bare := .of_eq hgens }
  have run := (ok _ kin (names G.T.g)).run callerA [] s₁ H ⟨[.ref a], []⟩ [.ref a] [.ref a] (fun v _ => v = .bl true) E0 rfl room start0 (bind s₁ (.ref a)) (.cons rfl .nil) (hsp _ H a ns hlen hS)
  refine codeAny_mono run fun r s' h => ?_
  match r, h with
  | .error _, h => exact h.elim
  | .ok .next, h => exact h.elim
  | .ok .brk, h => exact h.elim
  | .ok .cont, h => exact h.elim
  | .ok (.ret u), ⟨v, H', os, bare, un, track', rel, ev⟩ =>
    have ev : v = .bl true := ev
    subst ev
    cases (show u = Value.bool true from rel)
    refine ⟨rfl, .of_keep ?_, os, bare⟩
    intro b ob e
    rcases hO b with y | ⟨rfl, _, y⟩
    · exact un.keep b ob e y (fun z => absurd (show b ∈ ([] : List Addr) from z) (by simp)) (by simp)
    · have e' := Option.some.inj (e.symm.trans hobj)
      subst e'
      exact (track' b _ (un.frzs b _ _ y)).1
end Kl
namespace Kl
open PySem PySem.Spec PyProof.Rows L2
/-! ### short words: a def as it stands, a def that keeps its promise, the names of the top -/
/-- the def st stands under its own name -/
def Def (K : PySem.W.Frag) (mg : Str → Option Value) (x : Str) (st : Stmt) (ps : List Str) : Prop :=
  ∃ (f : Addr) (fd : FuncData), Fun K x x st f fd ∧ mg x = some (.ref f) ∧ Binds K fd ps []
def Callee (P : Program) (w : World) (K : PySem.W.Frag) (mg : Str → Option Value) (base : Heap) (k : Nat) (x : Str) (ps : List Str) (sp : Sp) : Prop :=
  ∃ (f : Addr) (fd : FuncData), FnOk P w K mg base CX0 k f fd ps sp ∧ mg x = some (.ref f) ∧ PySem.W.keepIn K (.ref f) = true ∧ Binds K fd ps []
def CalleeG (P : Program) (w : World) (K : PySem.W.Frag) (mg : Str → Option Value) (base : Heap) (k : Nat) (x : Str) (ps : List Str) (sp : Sp) : Prop :=
  ∃ (f : Addr) (fd : FuncData), FnOkG P w K mg base k f fd ps sp ∧ mg x = some (.ref f) ∧ PySem.W.keepIn K (.ref f) = true ∧ Binds K fd ps []
/-- a whole number of the top -/
def MgI (mg : Str → Option Value) (x : Str) (i : Int) : Prop := ∃ u, mg x = some u ∧ RelV (.int i) u
/-- the built-in names are as they were -/
structure Gb (mg : Str → Option Value) : Prop where
  isi : mg "isinstance" = none
  tint : mg "int" = none
  tbool : mg "bool" = none
  tstr : mg "str" = none
  ttup : mg "tuple" = none
  tlst : mg "list" = none
  range : mg "range" = none
  len : mg "len" = none
  all : mg "all" = none
  repr : mg "repr" = none
section
variable {P : Program} {w : World} {K : PySem.W.Frag} {mg : Str → Option Value} {base : Heap}
theorem Callee.mono {j k : Nat} {x : Str} {ps : List Str} {sp : Sp} (c : Callee P w K mg base j x ps sp) (h : j ≤ k) : Callee P w K mg base k x ps sp := by
  obtain ⟨f, fd, F, r⟩ := c
  exact ⟨f, fd, F.mono h, r⟩
/-- a def keeps its promise, by its body -/
theorem Def.ok {x : Str} {st : Stmt} {N ps : List Str} {k : Nat} {sp : Sp} (D : Def K mg x st ps) (S : FnScope N ps (defScope st)) (len : ∀ vs H Q E, sp vs H Q E → vs.length = ps.length)
    (hbody : ∀ (f : Addr) (cdv : Value) (A : Around) (outer : List Env) (s : Shared) (H : Hp) (vs : List V) (Q : VK) (E : XK), Room k (A.deeper (envOfC x (defScope st) s.heap.objs.size f cdv)) → sp vs H Q E →
      ∃ t, PSs (cxOf CX0 P w K mg base N x (defScope st) f cdv A outer s H E).nox (defBody st) t ∧ t { nx := fun _ H' => Q .non H', rt := Q } (start N vs) H) : Callee P w K mg base (k + 1) x ps sp := by
  obtain ⟨f, fd, F, h1, h2⟩ := D
  exact ⟨f, fd, F.ok S len fun cdv A outer s H vs Q E hr h => hbody f cdv A outer s H vs Q E hr h, h1, F.kp, h2⟩
theorem Def.okG {x : Str} {st : Stmt} {N ps : List Str} {k : Nat} {sp : Sp} (D : Def K mg x st ps) (S : FnScope N ps (defScope st)) (len : ∀ vs H Q E, sp vs H Q E → vs.length = ps.length)
    (hbody : ∀ (f : Addr) (cdv : Value) (A : Around) (outer : List Env) (s : Shared) (H : Hp) (vs : List V) (Q : VK) (E : XK), A.guards = some [] → Room k (A.deeper (envOfC x (defScope st) s.heap.objs.size f cdv)) → sp vs H Q E →
      ∃ t, PSs (cxOf CX0 P w K mg base N x (defScope st) f cdv A outer s H E).nox (defBody st) t ∧ t { nx := fun _ H' => Q .non H', rt := Q } (start N vs) H) : CalleeG P w K mg base (k + 1) x ps sp := by
  obtain ⟨f, fd, F, h1, h2⟩ := D
  exact ⟨f, fd, Kl.okG F S len fun cdv A outer s H vs Q E hg hr h => hbody f cdv A outer s H vs Q E hg hr h, h1, F.kp, h2⟩
end
section
variable {X : Cx} {k : Nat} {x : Str} {ps : List Str} {sp : Sp} {p pos : Pos} {e : Expr} {es : List Expr} {t : TA}
theorem pe_cl (C : Callee X.prog X.w X.K X.mg X.base k x ps sp) (hr : Room k X.A) (hg : Gl X x) (ha : PA X (e :: es) t) (hdb : (x == ("__debug__" : Str)) = false := by decide)
    (he : starEach (e :: es) X.env = (false, eval e X.env) :: starEach es X.env := by rfl) (hpl : (backTo pos (starEach es X.env)).any (·.1) = false := by rfl) : PE X (.Call (.Name x p) (e :: es) [] pos) (tCall sp [] E0 t) := by
  obtain ⟨f, fd, F, h1, h2, h3⟩ := C
  exact pe_call F hr hg h1 h2 h3 .nil pass0 ha hdb he hpl
theorem pe_clG (C : CalleeG X.prog X.w X.K X.mg X.base k x ps sp) (hgd : X.A.guards = some []) (hr : Room k X.A) (hg : Gl X x) (ha : PA X (e :: es) t) (hdb : (x == ("__debug__" : Str)) = false := by decide)
    (he : starEach (e :: es) X.env = (false, eval e X.env) :: starEach es X.env := by rfl) (hpl : (backTo pos (starEach es X.env)).any (·.1) = false := by rfl) : PE X (.Call (.Name x p) (e :: es) [] pos) (tCall sp [] E0 t) := by
  obtain ⟨f, fd, F, h1, h2, h3⟩ := C
  exact pe_callG F hgd hr hg h1 h2 h3 ha hdb he hpl
theorem pe_gi {i : Int} (h : MgI X.mg x i) (hg : Gl X x) (hd : (x == ("__debug__" : Str)) = false := by decide) : PE X (.Name x pos) (tC (.int i)) := by
  obtain ⟨u, h1, h2⟩ := h
  exact pe_glob hg h1 h2 hd
/-- isinstance(e, T), T a built-in class -/
theorem pe_isi {T : String} {te : TE} {a : Expr} {p2 : Pos} {y : Str} (hm : X.mg "isinstance" = none) (hmT : X.mg y = none) (ha : PE X a te) (hg : Gl X "isinstance") (hgT : Gl X y) (hv : bootBuiltins y = some (.type T)) (hy : y ≠ "__name__" := by decide) (hyd : (y == ("__debug__" : Str)) = false := by decide)
    (he : starEach [a, .Name y p2] X.env = (false, eval a X.env) :: starEach [.Name y p2] X.env := by rfl) (he2 : starEach [.Name y p2] X.env = (false, eval (.Name y p2) X.env) :: starEach [] X.env := by rfl)
    (hpl : (backTo pos (starEach [.Name y p2] X.env)).any (·.1) = false := by rfl) :
    PE X (.Call (.Name "isinstance" p) [a, .Name y p2] [] pos) (tCB (rIsi X.K) (tCons te (tCons (tC (.ty T)) tNil))) :=
  pe_callB (p := p) (pos := pos) call_isi hg hm (by decide +kernel) (pa_cons ha (pa_cons (pe_bltn (pos := p2) hgT hmT hv (v := .ty T) rfl hy hyd) pa_nil he2) he) (by decide) (by decide) he hpl
end
end Kl
namespace Kl
open PySem PySem.Spec PyProof.Rows L2
section
variable {P : Program} {w : World} {K : PySem.W.Frag} {mg : Str → Option Value} {base : Heap}
/-! ### keptlengths.checks -/
abbrev sIsInteger : Stmt := top 4
abbrev sIsBetween : Stmt := top 5
abbrev sIsIndex : Stmt := top 6
abbrev sIsTupleOf : Stmt := top 7
theorem scIsInteger : FnScope ["thing"] ["thing"] (defScope sIsInteger) := ⟨rfl, rfl, rfl, by decide +kernel, rfl, by decide +kernel, by decide +kernel⟩
theorem scIsBetween : FnScope ["thing", "least", "most"] ["thing", "least", "most"] (defScope sIsBetween) := ⟨rfl, rfl, rfl, by decide +kernel, rfl, by decide +kernel, by decide +kernel⟩
theorem scIsIndex : FnScope ["thing", "many"] ["thing", "many"] (defScope sIsIndex) := ⟨rfl, rfl, rfl, by decide +kernel, rfl, by decide +kernel, by decide +kernel⟩
theorem scIsTupleOf : FnScope ["thing", "many"] ["thing", "many"] (defScope sIsTupleOf) := ⟨rfl, rfl, rfl, by decide +kernel, rfl, by decide +kernel, by decide +kernel⟩
def spIsInteger : Sp := fun vs H Q _ => ∃ i : Int, vs = [.int i] ∧ Q (.bl true) H
theorem ok_isInteger (D : Def K mg "is_integer" sIsInteger ["thing"]) (G : Gb mg) : Callee P w K mg base 1 "is_integer" ["thing"] spIsInteger := by
  refine D.ok scIsInteger (fun vs H Q E h => ?_) (fun f cdv A outer s H vs Q E hr h => ?_)
  · obtain ⟨i, rfl, _⟩ := h
    rfl
  · obtain ⟨i, rfl, q⟩ := h
    refine ⟨_, pss_one (ps_ret (pe_and (pe_isi (T := "int") G.isi G.tint (pv 0) (by rfl) (by rfl) (by decide +kernel)) (pe_one (pe_not (pe_isi (T := "bool") G.isi G.tbool (pv 0) (by rfl) (by rfl) (by decide +kernel)))))), ?_⟩
    refine ⟨_, rfl, _, _, _, _, true, rfl, .ty "int", .base (.int i), kit_ty (by decide +kernel), true, rfl, iteT ?_⟩
    exact ⟨_, rfl, _, _, _, _, false, rfl, .ty "bool", .base (.int i), kit_ty (by decide +kernel), false, rfl, q⟩
def spIsBetween : Sp := fun vs H Q _ => ∃ i lo hi : Int, vs = [.int i, .int lo, .int hi] ∧ Q (.bl (decide (lo ≤ i) && decide (i ≤ hi))) H
theorem ok_isBetween (D : Def K mg "is_between" sIsBetween ["thing", "least", "most"]) (G : Gb mg) (C1 : Callee P w K mg base 1 "is_integer" ["thing"] spIsInteger) : Callee P w K mg base 2 "is_between" ["thing", "least", "most"] spIsBetween := by
  refine D.ok scIsBetween (fun vs H Q E h => ?_) (fun f cdv A outer s H vs Q E hr h => ?_)
  · obtain ⟨i, lo, hi, rfl, _⟩ := h
    rfl
  · obtain ⟨i, lo, hi, rfl, q⟩ := h
    refine ⟨_, pss_one (ps_ret (pe_and (pe_cl C1 hr (by rfl) (pa_cons (pv 0) pa_nil)) (pe_one (pe_chain op_le op_le (pv 1) (pv 0) (pv 2))))), ?_⟩
    refine ⟨_, rfl, i, rfl, true, rfl, iteT ?_⟩
    refine ⟨_, rfl, _, rfl, lo, i, rfl, rfl, _, rfl, ?_⟩
    cases h : decide (lo ≤ i) with
    | false => rw [h] at q; exact iteF q
    | true => rw [h] at q; exact iteT ⟨_, rfl, i, hi, rfl, rfl, q⟩
def spIsIndex : Sp := fun vs H Q _ => ∃ i n : Int, vs = [.int i, .int n] ∧ Q (.bl (decide (0 ≤ i) && decide (i ≤ n - 1))) H
theorem ok_isIndex (D : Def K mg "is_index" sIsIndex ["thing", "many"]) (G : Gb mg) (C1 : Callee P w K mg base 2 "is_between" ["thing", "least", "most"] spIsBetween) : Callee P w K mg base 3 "is_index" ["thing", "many"] spIsIndex := by
  refine D.ok scIsIndex (fun vs H Q E h => ?_) (fun f cdv A outer s H vs Q E hr h => ?_)
  · obtain ⟨i, n, rfl, _⟩ := h
    rfl
  · obtain ⟨i, n, rfl, q⟩ := h
    refine ⟨_, pss_one (ps_ret (pe_cl C1 hr (by rfl) (pa_cons (pv 0) (pa_cons pe_int (pa_cons (pe_op op_sub (pv 1) pe_int) pa_nil))))), ?_⟩
    exact ⟨_, rfl, _, rfl, n, 1, rfl, rfl, i, 0, n - 1, rfl, q⟩
/-- what is surely no tuple -/
def NoTup (v : V) : Prop := v = .non ∨ ∃ x, v = .str x
theorem NoTup.ty {K : PySem.W.Frag} {H : Hp} {v : V} (h : NoTup v) : ∃ t, TyX K H v t ∧ PySem.W.kitOne K t (.type "tuple") = some false := by
  rcases h with rfl | ⟨x, rfl⟩
  · exact ⟨_, .base .non, kit_ty (by decide +kernel)⟩
  · exact ⟨_, .base (.str x), kit_ty (by decide +kernel)⟩
def spIsTupleOf : Sp := fun vs H Q _ => ∃ (v : V) (n : Int), vs = [v, .int n] ∧ ((NoTup v ∧ Q (.bl false) H) ∨ ∃ p xs, v = .ref p ∧ H p = some (.tup xs) ∧ Q (.bl (decide ((xs.length : Int) = n))) H)
theorem ok_isTupleOf (D : Def K mg "is_tuple_of" sIsTupleOf ["thing", "many"]) (G : Gb mg) : Callee P w K mg base 1 "is_tuple_of" ["thing", "many"] spIsTupleOf := by
  refine D.ok scIsTupleOf (fun vs H Q E h => ?_) (fun f cdv A outer s H vs Q E hr h => ?_)
  · obtain ⟨v, n, rfl, _⟩ := h
    rfl
  · obtain ⟨v, n, rfl, q⟩ := h
    refine ⟨_, pss_one (ps_ret (pe_and (pe_isi (T := "tuple") G.isi G.ttup (pv 0) (by rfl) (by rfl) (by decide +kernel)) (pe_one (pe_cmpR op_eq (pe_callB call_len_seq (by rfl) G.len PySem.boot_len (pa_cons (pv 0) pa_nil)) (pv 1) (nomark _))))), ?_⟩
    rcases q with ⟨hv, q⟩ | ⟨p, xs, rfl, hp, q⟩
    · obtain ⟨t, h1, h2⟩ := hv.ty (K := K) (H := H)
      exact ⟨_, rfl, _, _, _, _, false, rfl, .ty "tuple", h1, h2, false, rfl, iteF q⟩
    · refine ⟨_, rfl, _, _, _, _, true, rfl, .ty "tuple", .base (.tup hp), kit_ty (by decide +kernel), true, rfl, iteT ?_⟩
      refine ⟨_, rfl, p, xs, rfl, .inr (SqT.of hp), _, rfl, rfl, ?_⟩
      have e : decide (V.int (xs.length : Int) = V.int n) = decide ((xs.length : Int) = n) := by simp
      rw [e]
      exact q
end
end Kl
namespace Kl
open PySem PySem.Spec PyProof.Rows L2
/-! ### a machine that was read, as it lies -/
def oV : Option Int → V
  | none => .non
  | some i => .int i
/-- two lists, item by item -/
def All2 {α β : Type} (F : α → β → Prop) (as : List α) (bs : List β) : Prop := as.length = bs.length ∧ ∀ (i : Nat) (a : α) (b : β), as[i]? = some a → bs[i]? = some b → F a b
theorem All2.imp {α β : Type} {F G : α → β → Prop} {as : List α} {bs : List β} (h : All2 F as bs) (f : ∀ a b, F a b → G a b) : All2 G as bs := ⟨h.1, fun i a b e1 e2 => f a b (h.2 i a b e1 e2)⟩
theorem All2.at {α β : Type} {F : α → β → Prop} {as : List α} {bs : List β} (h : All2 F as bs) {i : Nat} {a : α} (e : as[i]? = some a) : ∃ b, bs[i]? = some b ∧ F a b := by
  have hi : i < as.length := (List.getElem?_eq_some_iff.mp e).1
  have hb : i < bs.length := by rw [← h.1]; exact hi
  exact ⟨bs[i], List.getElem?_eq_getElem hb, h.2 i a _ e (List.getElem?_eq_getElem hb)⟩
def StepAt (bs : V) (H : Hp) (v : V) : RStep → Prop
  | none => v = bs
  | some none => v = .non
  | some (some (a, b)) => ∃ p, v = .ref p ∧ H p = some (.tup [.int a, .int b])
def RowAt (bs br : V) (H : Hp) (v : V) : RRow → Prop
  | none => v = br
  | some (e, ss) => ∃ p q ws, v = .ref p ∧ H p = some (.tup [oV e, .ref q]) ∧ H q = some (.tup ws) ∧ All2 (StepAt bs H) ws ss
def FoundAt (bs br : V) (H : Hp) (v : V) (sz : Option Int) (rows : List RRow) : Prop :=
  ∃ p q ws, v = .ref p ∧ H p = some (.tup [oV sz, .ref q]) ∧ H q = some (.tup ws) ∧ All2 (RowAt bs br H) ws rows
theorem StepAt.mono {bs : V} {H H' : Hp} {v : V} (t : TupS H H') : ∀ {s : RStep}, StepAt bs H v s → StepAt bs H' v s
  | none, h => h
  | some none, h => h
  | some (some (a, b)), ⟨p, h1, h2⟩ => ⟨p, h1, t _ _ h2⟩
theorem RowAt.mono {bs br : V} {H H' : Hp} {v : V} (t : TupS H H') : ∀ {r : RRow}, RowAt bs br H v r → RowAt bs br H' v r
  | none, h => h
  | some (e, ss), ⟨p, q, ws, h1, h2, h3, h4⟩ => ⟨p, q, ws, h1, t _ _ h2, t _ _ h3, h4.imp fun _ _ z => z.mono t⟩
theorem FoundAt.mono {bs br : V} {H H' : Hp} {v : V} {sz : Option Int} {rows : List RRow} (t : TupS H H') (h : FoundAt bs br H v sz rows) : FoundAt bs br H' v sz rows := by
  obtain ⟨p, q, ws, h1, h2, h3, h4⟩ := h
  exact ⟨p, q, ws, h1, t _ _ h2, t _ _ h3, h4.imp fun _ _ z => z.mono t⟩
/-- bools of a list, gathered -/
theorem bools_of {α : Type} (f : α → Bool) {ys : List V} {xs : List α} (hl : ys.length = xs.length) (h : ∀ (i : Nat) (y : V), ys[i]? = some y → ∃ x, xs[i]? = some x ∧ y = .bl (f x)) : ys = (xs.map f).map V.bl := by
  refine List.ext_getElem? fun i => ?_
  rw [List.getElem?_map, List.getElem?_map]
  by_cases hi : i < ys.length
  · obtain ⟨x, e1, e2⟩ := h i _ (List.getElem?_eq_getElem hi)
    rw [List.getElem?_eq_getElem hi, e1, e2]
    rfl
  · rw [List.getElem?_eq_none (by omega), List.getElem?_eq_none (by omega)]
    rfl
theorem all_id {α : Type} (f : α → Bool) (xs : List α) : (xs.map f).all id = xs.all f := by
  rw [List.all_map]
  rfl
section
variable {P : Program} {w : World} {K : PySem.W.Frag} {mg : Str → Option Value} {base : Heap}
/-! ### keptlengths.machines -/
abbrev sIsSize : Stmt := top 14
abbrev sIsStep : Stmt := top 15
abbrev sIsRow : Stmt := top 16
abbrev sIsMachine : Stmt := top 17
abbrev sCheckMachine : Stmt := top 18
theorem scIsSize : FnScope ["thing"] ["thing"] (defScope sIsSize) := ⟨rfl, rfl, rfl, by decide +kernel, rfl, by decide +kernel, by decide +kernel⟩
theorem scIsStep : FnScope ["thing", "states"] ["thing", "states"] (defScope sIsStep) := ⟨rfl, rfl, rfl, by decide +kernel, rfl, by decide +kernel, by decide +kernel⟩
theorem scIsRow : FnScope ["thing", "size", "states", "step"] ["thing", "size", "states"] (defScope sIsRow) := ⟨rfl, rfl, rfl, by decide +kernel, rfl, by decide +kernel, by decide +kernel⟩
theorem scIsMachine : FnScope ["thing", "states", "row"] ["thing"] (defScope sIsMachine) := ⟨rfl, rfl, rfl, by decide +kernel, rfl, by decide +kernel, by decide +kernel⟩
theorem scCheckMachine : FnScope ["thing"] ["thing"] (defScope sCheckMachine) := ⟨rfl, rfl, rfl, by decide +kernel, rfl, by decide +kernel, by decide +kernel⟩
structure Gc (mg : Str → Option Value) : Prop where
  mSize : MgI mg "MOST_SIZE" 8
  mStates : MgI mg "MOST_STATES" 30
  mMore : MgI mg "MOST_MORE" 60
  size : MgI mg "SIZE" 0
  rows : MgI mg "ROWS" 1
  mDigits : MgI mg "MOST_DIGITS" 2
def spIsSize : Sp := fun vs H Q _ => ∃ i : Int, vs = [.int i] ∧ Q (.bl (decide (1 ≤ i) && decide (i ≤ 8))) H
theorem ok_isSize (D : Def K mg "is_size" sIsSize ["thing"]) (M : Gc mg) (C1 : Callee P w K mg base 2 "is_between" ["thing", "least", "most"] spIsBetween) : Callee P w K mg base 3 "is_size" ["thing"] spIsSize := by
  refine D.ok scIsSize (fun vs H Q E h => ?_) (fun f cdv A outer s H vs Q E hr h => ?_)
  · obtain ⟨i, rfl, _⟩ := h
    rfl
  · obtain ⟨i, rfl, q⟩ := h
    refine ⟨_, pss_one (ps_ret (pe_cl C1 hr (by rfl) (pa_cons (pv 0) (pa_cons pe_int (pa_cons (pe_gi M.mSize (by rfl)) pa_nil))))), ?_⟩
    exact ⟨_, rfl, i, 1, 8, rfl, q⟩
def spIsStep : Sp := fun vs H Q _ => ∃ (x : Str) (v : V) (s : RStep) (k : Nat), vs = [v, .int (k : Int)] ∧ StepAt (.str x) H v s ∧ Q (.bl (stepFits k s)) H
theorem ok_isStep (D : Def K mg "is_step" sIsStep ["thing", "states"]) (M : Gc mg) (C1 : Callee P w K mg base 1 "is_tuple_of" ["thing", "many"] spIsTupleOf) (C2 : Callee P w K mg base 2 "is_between" ["thing", "least", "most"] spIsBetween)
    (C3 : Callee P w K mg base 3 "is_index" ["thing", "many"] spIsIndex) : Callee P w K mg base 4 "is_step" ["thing", "states"] spIsStep := by
  refine D.ok scIsStep (fun vs H Q E h => ?_) (fun f cdv A outer s H vs Q E hr h => ?_)
  · obtain ⟨x, v, s, k, rfl, _⟩ := h
    rfl
  · obtain ⟨x, v, z, k, rfl, hs, q⟩ := h
    refine ⟨_, pss_cons (ps_if (pt_cmpR op_isN (pv 0) pe_non (nomark _)) (pss_one (ps_ret pe_bl)) pss_nil)
      (pss_one (ps_ret (pe_and (pe_cl C1 (hr.mono (by decide)) (by rfl) (pa_cons (pv 0) (pa_cons pe_int pa_nil)))
        (pe_and (pe_cl C2 (hr.mono (by decide)) (by rfl) (pa_cons (pe_ix ix_tup (pv 0) pe_int (fun _ _ => rfl)) (pa_cons pe_int (pa_cons (pe_gi M.mMore (by rfl)) pa_nil))))
        (pe_one (pe_cl C3 hr (by rfl) (pa_cons (pe_ix ix_tup (pv 0) pe_int (fun _ _ => rfl)) (pa_cons (pv 1) pa_nil)))))))), ?_⟩
    refine ⟨_, rfl, rfl, _, rfl, ?_⟩
    match z, hs, q with
    | none, hs, q =>
      cases (show v = .str x from hs)
      refine iteF ?_
      exact ⟨_, rfl, .str x, 2, rfl, .inl ⟨.inr ⟨x, rfl⟩, false, rfl, iteF q⟩⟩
    | some none, hs, q =>
      cases (show v = .non from hs)
      exact iteT q
    | some (some (a, b)), hs, q =>
      obtain ⟨p, rfl, hp⟩ := hs
      refine iteF ?_
      refine ⟨_, rfl, .ref p, 2, rfl, .inr ⟨p, _, rfl, hp, true, rfl, iteT ?_⟩⟩
      refine ⟨_, rfl, p, _, 0, .int a, rfl, rfl, SqT.of hp, rfl, a, 0, 60, rfl, _, rfl, ?_⟩
      have q' : Q (.bl ((decide (0 ≤ a) && decide (a ≤ 60)) && (decide (0 ≤ b) && decide (b ≤ (k : Int) - 1)))) H := q
      cases e : (decide (0 ≤ a) && decide (a ≤ 60)) with
      | false => rw [e] at q'; exact iteF q'
      | true =>
        rw [e] at q'
        exact iteT ⟨_, rfl, p, _, 1, .int b, rfl, rfl, SqT.of hp, rfl, _, rfl, b, k, rfl, q'⟩
def spIsRow : Sp := fun vs H Q _ => ∃ (x : Str) (br v : V) (r : RRow) (n : Int) (k : Nat), vs = [v, .int n, .int (k : Int)] ∧ NoTup br ∧ RowAt (.str x) br H v r ∧ (∀ e ss, r = some (e, ss) → ss.length ≤ sizeLine) ∧ ∀ H', Same H H' → Q (.bl (rowFits n k r)) H'
theorem ok_isRow (D : Def K mg "is_row" sIsRow ["thing", "size", "states"]) (G : Gb mg) (M : Gc mg) (C1 : Callee P w K mg base 1 "is_tuple_of" ["thing", "many"] spIsTupleOf) (C2 : Callee P w K mg base 2 "is_between" ["thing", "least", "most"] spIsBetween)
    (C3 : Callee P w K mg base 4 "is_step" ["thing", "states"] spIsStep) : Callee P w K mg base 5 "is_row" ["thing", "size", "states"] spIsRow := by
  refine D.ok scIsRow (fun vs H Q E h => ?_) (fun f cdv A outer s H vs Q E hr h => ?_)
  · obtain ⟨x, br, v, r, n, k, rfl, _⟩ := h
    rfl
  · obtain ⟨x, br, v, r, n, k, rfl, hbr, hrow, hsz, q⟩ := h
    refine ⟨_, pss_cons (ps_if (PW.pt (pw_or (pt_not (pt_val (pe_cl C1 (hr.mono (by decide)) (by rfl) (pa_cons (pv 0) (pa_cons pe_int pa_nil)))))
        (pw_or1 (pt_not (pt_val (pe_cl C1 (hr.mono (by decide)) (by rfl) (pa_cons (pe_ix ix_tup (pv 0) pe_int (fun _ _ => rfl)) (pa_cons (pv 1) pa_nil)))))))) (pss_one (ps_ret pe_bl)) pss_nil)
      (pss_cons (ps_if (PW.pt (pw_and (pt_cmpR op_notN (pe_ix ix_tup (pv 0) pe_int (fun _ _ => rfl)) pe_non (nomark _))
        (pw_and1 (pt_not (pt_val (pe_cl C2 (hr.mono (by decide)) (by rfl) (pa_cons (pe_ix ix_tup (pv 0) pe_int (fun _ _ => rfl)) (pa_cons pe_int (pa_cons (pe_gi M.mMore (by rfl)) pa_nil))))))))) (pss_one (ps_ret pe_bl)) pss_nil)
      (pss_one (ps_ret (pe_callB (cr_all rfl) (by rfl) G.all (by decide +kernel) (pa_cons
        (pe_lc (own := [("step", 3)]) (g := gName 3) (tt := tYes) rfl scIsRow.nd (pi_tup (pe_ix ix_tup (pv 0) pe_int (fun _ _ => rfl))) (blkOk_by (N := ["thing", "size", "states", "step"]) (sc := defScope sIsRow) (by decide +kernel))
          (fun _ _ _ _ _ => pg_name (i := 3) scIsRow.nd rfl (Or.inl rfl)) (fun _ _ _ _ _ => pts_nil) (fun _ _ _ _ _ => pe_cl C3 hr (by rfl) (pa_cons (pv 3) (pa_cons (pv 2) pa_nil)))) pa_nil))))), ?_⟩
    match r, hrow, hsz, q with
    | none, hrow, hsz, q =>
      cases (show v = br from hrow)
      exact ⟨_, rfl, _, 2, rfl, .inl ⟨hbr, false, rfl, iteT (iteT (q H (Same.refl H)))⟩⟩
    | some (e, ss), hrow, hsz, q =>
      obtain ⟨p, u, ws, rfl, hp, hu, ha⟩ := hrow
      have q : ∀ H', Same H H' → Q (.bl (decide ((ss.length : Int) = n) && (endFits e && ss.all (stepFits k)))) H' := q
      refine ⟨_, rfl, .ref p, 2, rfl, .inr ⟨p, _, rfl, hp, true, rfl, iteF ?_⟩⟩
      refine ⟨_, rfl, p, _, 1, .ref u, rfl, rfl, SqT.of hp, rfl, _, rfl, .ref u, n, rfl, .inr ⟨u, ws, rfl, hu, _, rfl, ?_⟩⟩
      rw [← ha.1] at q
      cases e1 : decide ((ws.length : Int) = n) with
      | false => rw [e1] at q; exact iteT (q H (Same.refl H))
      | true =>
        rw [e1] at q
        refine iteF ?_
        refine ⟨_, rfl, p, _, 0, oV e, rfl, rfl, SqT.of hp, rfl, rfl, _, rfl, ?_⟩
        have go : ∀ {D : Ends}, D.rt = Q → (endFits e = true) → ∀ σ : L2.St, σ = [some (.ref p), some (.int n), some (.int (k : Int)), none] →
            (tRet (tCB (rAll K) (tCons (tLc (iTup K (tOp (rIxT K) (tVar 0) (tC (.int 1)))) (gName 3) tYes (tCall spIsStep [] E0 (tCons (tVar 3) (tCons (tVar 2) tNil))) [3]) tNil))) D σ H := by
          rintro D rfl he σ rfl
          rw [he] at q
          refine ⟨_, rfl, p, _, 1, .ref u, rfl, rfl, SqT.of hp, rfl, u, rfl, ⟨ws, SqT.of hu⟩, fun L hL => ?_⟩
          refine lc_pure (j := 3) (P := fun i y => ws[i]? = some y) (walk_tup (K := K) (a := u) (xs := ws)) (fun i y H' => ∃ z, ss[i]? = some z ∧ y = .bl (stepFits k z)) hL (by rw [ha.1]; exact hsz _ _ rfl) (fun H' sm => SqT.of (sm _ _ hu)) (fun i y H1 H2 r _ => r) ?_ ?_
          · intro i y H' hi sm hy Kt hK
            obtain ⟨z, ez, hz⟩ := ha.at hy
            exact ⟨y, rfl, _, rfl, x, y, z, k, rfl, hz.mono (TupS.same sm), hK _ _ (Same.refl _) ⟨z, ez, rfl⟩⟩
          · intro ys H' sm hL' hl hy
            have e2 := bools_of (stepFits k) (by rw [hl, ha.1]) hy
            refine ⟨L, ss.map (stepFits k), rfl, ?_, ?_⟩
            · rw [← e2]
              exact SqL.of hL'
            · rw [all_id]
              exact q H' sm
        cases e with
        | none => exact iteF (iteF (go rfl rfl _ rfl))
        | some j =>
          refine iteT ?_
          refine ⟨_, rfl, p, _, 0, .int j, rfl, rfl, SqT.of hp, rfl, j, 1, 60, rfl, _, rfl, ?_⟩
          cases e3 : (decide (1 ≤ j) && decide (j ≤ 60)) with
          | false =>
            have e4 : endFits (some j) = false := e3
            rw [e4] at q
            exact iteT (q H (Same.refl H))
          | true => exact iteF (go rfl e3 _ rfl)
end
end Kl
namespace Kl
open PySem PySem.Spec PyProof.Rows L2
section
variable {P : Program} {w : World} {K : PySem.W.Frag} {mg : Str → Option Value} {base : Heap}
def Small (rows : List RRow) : Prop := rows.length ≤ sizeLine ∧ ∀ r ∈ rows, ∀ e ss, r = some (e, ss) → ss.length ≤ sizeLine
def spIsMachine : Sp := fun vs H Q _ => ∃ (x : Str) (br v : V) (n : Int) (rows : List RRow), vs = [v] ∧ NoTup br ∧ FoundAt (.str x) br H v (some n) rows ∧ Small rows ∧ ∀ H', Same H H' → Q (.bl (fits (some n) rows)) H'
theorem ok_isMachine (D : Def K mg "is_machine" sIsMachine ["thing"]) (G : Gb mg) (M : Gc mg) (C1 : Callee P w K mg base 1 "is_tuple_of" ["thing", "many"] spIsTupleOf) (C2 : Callee P w K mg base 3 "is_size" ["thing"] spIsSize)
    (C3 : Callee P w K mg base 5 "is_row" ["thing", "size", "states"] spIsRow) : Callee P w K mg base 6 "is_machine" ["thing"] spIsMachine := by
  refine D.ok scIsMachine (fun vs H Q E h => ?_) (fun f cdv A outer s H vs Q E hr h => ?_)
  · obtain ⟨x, br, v, n, rows, rfl, _⟩ := h
    rfl
  · obtain ⟨x, br, v, n, rows, rfl, hbr, ⟨p, u, ws, rfl, hp, hu, ha⟩, ⟨hz1, hz2⟩, q⟩ := h
    refine ⟨_, pss_cons (ps_if (PW.pt (pw_or (pt_not (pt_val (pe_cl C1 (hr.mono (by decide)) (by rfl) (pa_cons (pv 0) (pa_cons pe_int pa_nil)))))
        (pw_or (pt_not (pt_val (pe_cl C2 (hr.mono (by decide)) (by rfl) (pa_cons (pe_ix ix_tup (pv 0) (pe_gi M.size (by rfl)) (fun _ _ => rfl)) pa_nil))))
        (pw_or1 (pt_not (pt_val (pe_isi (T := "tuple") G.isi G.ttup (pe_ix ix_tup (pv 0) (pe_gi M.rows (by rfl)) (fun _ _ => rfl)) (by rfl) (by rfl) (by decide +kernel)))))))) (pss_one (ps_ret pe_bl)) pss_nil)
      (pss_cons (ps_set (i := 1) scIsMachine.nd rfl (Or.inr rfl) (pe_callB call_len_seq (by rfl) G.len PySem.boot_len (pa_cons (pe_ix ix_tup (pv 0) (pe_gi M.rows (by rfl)) (fun _ _ => rfl)) pa_nil)))
      (pss_one (ps_ret (pe_and (pe_chain op_le op_le pe_int (pv 1) (pe_gi M.mStates (by rfl)))
        (pe_one (pe_callB (cr_all rfl) (by rfl) G.all (by decide +kernel) (pa_cons
          (pe_lc (own := [("row", 2)]) (g := gName 2) (tt := tYes) (te := tCall spIsRow [] E0 (tCons (tVar 2) (tCons (tOp (rIxT K) (tVar 0) (tC (.int 0))) (tCons (tVar 1) tNil)))) rfl scIsMachine.nd (pi_tup (pe_ix ix_tup (pv 0) (pe_gi M.rows (by rfl)) (fun _ _ => rfl))) (blkOk_by (N := ["thing", "states", "row"]) (sc := defScope sIsMachine) (by decide +kernel))
            (fun _ _ _ _ _ => pg_name (i := 2) scIsMachine.nd rfl (Or.inl rfl)) (fun _ _ _ _ _ => pts_nil)
            (fun _ _ _ _ _ => pe_cl C3 hr (by rfl) (pa_cons (pv 2) (pa_cons (pe_ix ix_tup (pv 0) (pe_gi M.size (by rfl)) (fun _ _ => rfl)) (pa_cons (pv 1) pa_nil))))) pa_nil))))))), ?_⟩
    have q : ∀ H', Same H H' → Q (.bl ((decide (1 ≤ n) && decide (n ≤ 8)) && ((decide (1 ≤ rows.length) && decide (rows.length ≤ 30)) && rows.all (rowFits n rows.length)))) H' := q
    refine ⟨_, rfl, .ref p, 2, rfl, .inr ⟨p, _, rfl, hp, true, rfl, iteF ?_⟩⟩
    refine ⟨_, rfl, p, _, 0, .int n, rfl, rfl, SqT.of hp, rfl, n, rfl, _, rfl, ?_⟩
    cases e1 : (decide (1 ≤ n) && decide (n ≤ 8)) with
    | false => rw [e1] at q; exact iteT (iteT (q H (Same.refl H)))
    | true =>
      rw [e1] at q
      refine iteF ?_
      refine ⟨_, rfl, p, _, 1, .ref u, rfl, rfl, SqT.of hp, rfl, _, _, _, _, true, rfl, .ty "tuple", .base (.tup hu), kit_ty (by decide +kernel), true, rfl, iteF ?_⟩
      refine ⟨_, rfl, p, _, 1, .ref u, rfl, rfl, SqT.of hp, rfl, u, ws, rfl, .inr (SqT.of hu), ?_⟩
      rw [ha.1]
      refine ⟨_, rfl, 1, (rows.length : Int), rfl, rfl, _, rfl, ?_⟩
      have f1 : decide ((1 : Int) ≤ (rows.length : Int)) = decide (1 ≤ rows.length) := by
        by_cases h : 1 ≤ rows.length
        · rw [decide_eq_true h, decide_eq_true (by omega)]
        · rw [decide_eq_false h, decide_eq_false (by omega)]
      have f2 : decide ((rows.length : Int) ≤ 30) = decide (rows.length ≤ 30) := by
        by_cases h : rows.length ≤ 30
        · rw [decide_eq_true h, decide_eq_true (by omega)]
        · rw [decide_eq_false h, decide_eq_false (by omega)]
      rw [f1]
      cases e2 : decide (1 ≤ rows.length) with
      | false => rw [e2] at q; exact iteF ⟨_, rfl, iteF (q H (Same.refl H))⟩
      | true =>
        rw [e2] at q
        refine iteT ⟨(rows.length : Int), 30, rfl, rfl, _, rfl, ?_⟩
        rw [f2]
        cases e3 : decide (rows.length ≤ 30) with
        | false => rw [e3] at q; exact iteF (q H (Same.refl H))
        | true =>
          rw [e3] at q
          refine iteT ?_
          refine ⟨_, rfl, p, _, 1, .ref u, rfl, rfl, SqT.of hp, rfl, u, rfl, ⟨ws, SqT.of hu⟩, fun L hL => ?_⟩
          refine lc_pure (j := 2) (P := fun i y => ws[i]? = some y) (walk_tup (K := K) (a := u) (xs := ws)) (fun i y H' => ∃ z, rows[i]? = some z ∧ y = .bl (rowFits n rows.length z)) hL (by rw [ha.1]; exact hz1) (fun H' sm => SqT.of (sm _ _ hu)) (fun i y H1 H2 r _ => r) ?_ ?_
          · intro i y H' hi sm hy Kt hK
            obtain ⟨z, ez, hz⟩ := ha.at hy
            refine ⟨y, rfl, _, rfl, p, _, 0, .int n, rfl, rfl, SqT.of (sm _ _ hp), rfl, _, rfl, x, br, y, z, n, rows.length, rfl, hbr, hz.mono (TupS.same sm), hz2 z (List.mem_of_getElem? ez), fun H2 s2 => hK _ _ s2 ⟨z, ez, rfl⟩⟩
          · intro ys H' sm hL' hl hy
            have e2 := bools_of (rowFits n rows.length) (by rw [hl, ha.1]) hy
            refine ⟨L, rows.map (rowFits n rows.length), rfl, ?_, ?_⟩
            · rw [← e2]
              exact SqL.of hL'
            · rw [all_id]
              exact q H' sm
def spCheckMachine : Sp := fun vs H Q _ => ∃ (x : Str) (br v : V) (n : Int) (rows : List RRow), vs = [v] ∧ NoTup br ∧ FoundAt (.str x) br H v (some n) rows ∧ Small rows ∧ fits (some n) rows = true ∧ ∀ H', Same H H' → Q .non H'
theorem ok_checkMachine (D : Def K mg "check_machine" sCheckMachine ["thing"]) (C1 : Callee P w K mg base 6 "is_machine" ["thing"] spIsMachine) : Callee P w K mg base 7 "check_machine" ["thing"] spCheckMachine := by
  refine D.ok scCheckMachine (fun vs H Q E h => ?_) (fun f cdv A outer s H vs Q E hr h => ?_)
  · obtain ⟨x, br, v, n, rows, rfl, _⟩ := h
    rfl
  · obtain ⟨x, br, v, n, rows, rfl, hbr, hf, hz, hfit, q⟩ := h
    refine ⟨_, pss_one (ps_if (pt_not (pt_val (pe_cl C1 hr (by rfl) (pa_cons (pv 0) pa_nil)))) pss_never pss_nil), ?_⟩
    refine ⟨_, rfl, x, br, v, n, rows, rfl, hbr, hf, hz, fun H' sm => ⟨true, by rw [hfit], iteF (q H' sm)⟩⟩
end
end Kl
namespace Kl
open PySem PySem.Spec PyProof.Rows L2 TL
/-! ### texts as lists of codes -/
abbrev sOf (l : List Nat) : Str := ⟨l.toArray⟩
theorem sOf_tl (z : Str) : sOf (tl z) = z := mk_tl z
theorem sOf_len (l : List Nat) : (sOf l).length = l.length := by rw [len_tl]
theorem sOf_app (a b : List Nat) : sOf a ++ sOf b = sOf (a ++ b) := ext_tl (by rw [tl_append])
theorem strI {i : Int} (h : 0 ≤ i) : (Str.ofString (toString i)) = sOf (intL i) := by
  obtain ⟨n, rfl⟩ := Int.eq_ofNat_of_zero_le h
  exact ext_tl (tl_num n)
theorem dash_s : (Str.ofString "-") = sOf [45] := by decide +kernel
theorem colon_s : (Str.ofString ":") = sOf [58] := by decide +kernel
theorem blank_s : (Str.ofString " ") = sOf [32] := by decide +kernel
theorem nl_s : (Str.ofString "\n") = sOf [10] := by decide +kernel
theorem size_s : (Str.ofString "size ") = sOf (sizeL ++ [32]) := by decide +kernel
theorem empty_s : (Str.ofString "") = sOf [] := by decide +kernel
theorem log_small {i : Int} (h0 : 0 ≤ i) (h1 : i ≤ 1000) : i.natAbs.log2 < 1920 := by
  by_cases hz : i.natAbs = 0
  · rw [hz]; decide
  · exact Nat.lt_of_lt_of_le ((Nat.log2_lt hz).mpr (show i.natAbs < 2 ^ 10 by omega)) (by decide)
theorem small_line {n : Nat} (h : n ≤ 16777216) : n ≤ sizeLine := by rw [sizeLine_eq]; exact h
theorem join_sOf (s : List Nat) (ps : List (List Nat)) : Txt.join (sOf s) (ps.map sOf) = sOf (joinL s ps) := by
  refine ext_tl ?_
  rw [join_eq, tl_join, List.map_map]
  have e : (tl ∘ sOf) = id := rfl
  rw [e, List.map_id]
theorem sum_le {ps : List (List Nat)} {c : Nat} (h : ∀ p ∈ ps, p.length ≤ c) : ((ps.map sOf).map (·.length)).sum ≤ ps.length * c := by
  induction ps with
  | nil => simp
  | cons p ps ih =>
    rw [List.map_cons, List.map_cons, List.sum_cons, List.length_cons, Nat.add_mul, Nat.one_mul, sOf_len]
    have h1 := h p (List.mem_cons_self ..)
    have h2 := ih fun q hq => h q (List.mem_cons_of_mem _ hq)
    omega
theorem joinL_nil : ∀ ps : List (List Nat), joinL [] ps = ps.flatten
  | [] => rfl
  | [p] => by simp [joinL]
  | p :: q :: r => by
    show p ++ ([] ++ joinL [] (q :: r)) = _
    rw [joinL_nil (q :: r)]
    simp
section
variable {P : Program} {w : World} {K : PySem.W.Frag} {mg : Str → Option Value} {base : Heap}
/-! ### keptlengths.notation, writing -/
abbrev sStepText : Stmt := top 21
abbrev sMachineText : Stmt := top 22
theorem scStepText : FnScope ["step"] ["step"] (defScope sStepText) := ⟨rfl, rfl, rfl, by decide +kernel, rfl, by decide +kernel, by decide +kernel⟩
theorem scMachineText : FnScope ["machine", "lines", "end", "steps", "step", "line"] ["machine"] (defScope sMachineText) := ⟨rfl, rfl, rfl, by decide +kernel, rfl, by decide +kernel, by decide +kernel⟩
def spStepText : Sp := fun vs H Q _ => ∃ (bs v : V) (k : Nat) (s : RStep), vs = [v] ∧ k ≤ 30 ∧ StepAt bs H v s ∧ stepFits k s = true ∧ Q (.str (sOf (stepL s))) H
theorem step_num {k : Nat} {a b : Int} (hk : k ≤ 30) (h : stepFits k (some (some (a, b))) = true) : 0 ≤ a ∧ a ≤ 60 ∧ 0 ≤ b ∧ b ≤ 29 := by
  have h' : ((decide (0 ≤ a) && decide (a ≤ 60)) && (decide (0 ≤ b) && decide (b ≤ (k : Int) - 1))) = true := h
  simp only [Bool.and_eq_true, decide_eq_true_eq] at h'
  omega
theorem end_num {e : Int} (h : endFits (some e) = true) : 1 ≤ e ∧ e ≤ 60 := by
  have h' : (decide (1 ≤ e) && decide (e ≤ 60)) = true := h
  simp only [Bool.and_eq_true, decide_eq_true_eq] at h'
  exact h'
theorem ok_stepText (D : Def K mg "step_text" sStepText ["step"]) (G : Gb mg) : Callee P w K mg base 1 "step_text" ["step"] spStepText := by
  refine D.ok scStepText (fun vs H Q E h => ?_) (fun f cdv A outer s H vs Q E hr h => ?_)
  · obtain ⟨bs, v, k, s, rfl, _⟩ := h
    rfl
  · obtain ⟨bs, v, k, z, rfl, hk, hs, hf, q⟩ := h
    refine ⟨_, pss_one (ps_ret (pe_ifExp (pt_cmpR op_isN (pv 0) pe_non (nomark _)) pe_str
      (pe_op op_add_str (pe_op op_add_str (pe_callTy call_str_int (by rfl) G.tstr (by decide +kernel) (pa_cons (pe_ix ix_tup (pv 0) pe_int (fun _ _ => rfl)) pa_nil)) pe_str)
        (pe_callTy call_str_int (by rfl) G.tstr (by decide +kernel) (pa_cons (pe_ix ix_tup (pv 0) pe_int (fun _ _ => rfl)) pa_nil))))), ?_⟩
    refine ⟨_, rfl, rfl, _, rfl, ?_⟩
    match z, hs, hf, q with
    | none, _, hf, _ => exact absurd hf Bool.false_ne_true
    | some none, hs, hf, q =>
      cases (show v = .non from hs)
      refine iteT ?_
      show Q (.str (Str.ofString "-")) H
      rw [dash_s]
      exact q
    | some (some (a, b)), hs, hf, q =>
      obtain ⟨p, rfl, hp⟩ := hs
      obtain ⟨a0, a1, b0, b1⟩ := step_num hk hf
      have la := intL_len (i := a) (by omega)
      have lb := intL_len (i := b) (by omega)
      refine iteF ?_
      refine ⟨_, rfl, p, _, 0, .int a, rfl, rfl, SqT.of hp, rfl, a, rfl, log_small a0 (by omega), ?_⟩
      rw [strI a0]
      refine ⟨_, _, rfl, rfl, ?_, ?_⟩
      · rw [colon_s, sOf_len, sOf_len]
        refine small_line ?_
        show _ + 1 ≤ _
        omega
      rw [colon_s, sOf_app]
      refine ⟨_, rfl, p, _, 1, .int b, rfl, rfl, SqT.of hp, rfl, b, rfl, log_small b0 (by omega), ?_⟩
      rw [strI b0]
      refine ⟨_, _, rfl, rfl, ?_, ?_⟩
      · rw [sOf_len, sOf_len, List.length_append]
        refine small_line ?_
        show _ + 1 + _ ≤ _
        omega
      rw [sOf_app, List.append_assoc]
      exact q
/-- the words of a row -/
def wordsL : RRow → List (List Nat)
  | some (e, ss) => oL e :: ss.map stepL
  | none => []
theorem join_words {e : Option Int} {ss : List RStep} : joinL [32] (wordsL (some (e, ss))) = rowL (some (e, ss)) := by
  show joinL [32] (oL e :: ss.map stepL) = oL e ++ ss.flatMap (fun s => 32 :: stepL s)
  rw [joinL_cons, List.flatMap_map]
def spMachineText : Sp := fun vs H Q _ => ∃ (x : Str) (br v : V) (n : Int) (rows : List RRow), vs = [v] ∧ NoTup br ∧ FoundAt (.str x) br H v (some n) rows ∧ Small rows ∧ fits (some n) rows = true ∧ ∀ H', Same H H' → Q (.str (sOf (machL n rows))) H'
/-- texts of a list, gathered -/
theorem strs_of {α : Type} (f : α → List Nat) {ys : List V} {xs : List α} (hl : ys.length = xs.length) (h : ∀ (i : Nat) (y : V), ys[i]? = some y → ∃ x, xs[i]? = some x ∧ y = .str (sOf (f x))) : ys = ((xs.map f).map sOf).map V.str := by
  refine List.ext_getElem? fun i => ?_
  rw [List.getElem?_map, List.getElem?_map, List.getElem?_map]
  by_cases hi : i < ys.length
  · obtain ⟨x, e1, e2⟩ := h i _ (List.getElem?_eq_getElem hi)
    rw [List.getElem?_eq_getElem hi, e1, e2]
    rfl
  · rw [List.getElem?_eq_none (by omega), List.getElem?_eq_none (by omega)]
    rfl
theorem ok_machineText (D : Def K mg "machine_text" sMachineText ["machine"]) (G : Gb mg) (M : Gc mg) (C1 : Callee P w K mg base 7 "check_machine" ["thing"] spCheckMachine) (C2 : Callee P w K mg base 1 "step_text" ["step"] spStepText) :
    Callee P w K mg base 8 "machine_text" ["machine"] spMachineText := by
  refine D.ok scMachineText (fun vs H Q E h => ?_) (fun f cdv A outer s H vs Q E hr h => ?_)
  · obtain ⟨x, br, v, n, rows, rfl, _⟩ := h
    rfl
  · obtain ⟨x, br, v, n, rows, rfl, hbr, hfd, hz, hfit, q⟩ := h
    obtain ⟨n1, n8, r1, r30, hrow⟩ := fits_of hfit
    obtain ⟨p, u, ws, rfl, hp, hu, ha⟩ := id hfd
    refine ⟨_, pss_cons (ps_expr (pe_cl C1 hr (by rfl) (pa_cons (pv 0) pa_nil)))
      (pss_cons (ps_set (i := 1) scMachineText.nd rfl (Or.inl rfl) (pe_lst (pa_cons (pe_op op_add_str pe_str (pe_callTy call_str_int (by rfl) G.tstr (by decide +kernel) (pa_cons (pe_ix ix_tup (pv 0) (pe_gi M.size (by rfl)) (fun _ _ => rfl)) pa_nil))) pa_nil)))
      (pss_cons (ps_for PassesOwn.never rfl (pi_tup (pe_ix ix_tup (pv 0) (pe_gi M.rows (by rfl)) (fun _ _ => rfl))) (pg_tup rfl (pgs_cons (pg_name (i := 2) scMachineText.nd rfl (Or.inl rfl)) (pgs_cons (pg_name (i := 3) scMachineText.nd rfl (Or.inl rfl)) pgs_nil)))
        (pss_one (ps_expr (pe_bm PySem.F.plainAttrs_list PySem.F.slot_list_append PySem.F.type_list_append mt_append (pv 1) (pa_cons
          (pe_join pe_str (pe_op op_cat (pe_lst (pa_cons (pe_ifExp (pt_cmpR op_isN (pv 2) pe_non (nomark _)) pe_str (pe_callTy call_str_int (by rfl) G.tstr (by decide +kernel) (pa_cons (pv 2) pa_nil))) pa_nil))
            (pe_lc (own := [("step", 4)]) (g := gName 4) (tt := tYes) rfl scMachineText.nd (pi_tup (pv 3)) (blkOk_by (N := ["machine", "lines", "end", "steps", "step", "line"]) (sc := defScope sMachineText) (by decide +kernel))
              (fun _ _ _ _ _ => pg_name (i := 4) scMachineText.nd rfl (Or.inl rfl)) (fun _ _ _ _ _ => pts_nil) (fun _ _ _ _ _ => pe_cl C2 (hr.mono (by decide)) (by rfl) (pa_cons (pv 4) pa_nil))))) pa_nil)))))
      (pss_one (ps_ret (pe_join pe_str (pe_lc (own := [("line", 5)]) (g := gName 5) (tt := tYes) rfl scMachineText.nd (pi_list (pv 1)) (blkOk_by (N := ["machine", "lines", "end", "steps", "step", "line"]) (sc := defScope sMachineText) (by decide +kernel))
              (fun _ _ _ _ _ => pg_name (i := 5) scMachineText.nd rfl (Or.inl rfl)) (fun _ _ _ _ _ => pts_nil) (fun _ _ _ _ _ => pe_op op_add_str (pv 5) pe_str))))))), ?_⟩
    refine ⟨_, rfl, x, br, .ref p, n, rows, rfl, hbr, hfd, hz, hfit, fun H1 s1 => ?_⟩
    -- the head
    refine ⟨_, rfl, p, _, 0, .int n, rfl, rfl, SqT.of (s1 _ _ hp), rfl, n, rfl, log_small (by omega) (by omega), ?_⟩
    rw [strI (by omega : (0 : Int) ≤ n)]
    have ln := intL_len (i := n) (by omega)
    have hh : (Str.ofString "size ") ++ sOf (intL n) = sOf (headL n) := by
      rw [size_s, sOf_app]
      rfl
    refine ⟨_, _, rfl, rfl, ?_, ?_⟩
    · rw [size_s, sOf_len, sOf_len]
      refine small_line ?_
      show 5 + _ ≤ _
      omega
    rw [hh]
    refine ⟨(by decide : 1 ≤ sizeLine), fun L hL => ?_⟩
    -- the rows
    have sL : Same H (upd H1 L (.lst [.str (sOf (headL n))])) := s1.trans (same_new hL)
    have H1L : H L = none := s1.free hL
    refine ⟨_, rfl, p, _, 1, .ref u, rfl, rfl, SqT.of (sL _ _ hp), rfl, u, rfl, ⟨ws, SqT.of (sL _ _ hu)⟩, ?_⟩
    refine for_tup (K := K) (a := u) (xs := ws) (fun i σ H' => ∃ y2 y3, σ = [some (.ref p), some (.ref L), y2, y3, none, none] ∧ Same H H' ∧ H' L = some (.lst (((headL n :: (rows.take i).map rowL).map sOf).map V.str)))
      ⟨none, none, rfl, sL, by rw [upd_same, List.take_zero]; rfl⟩ (fun i σ H' _ ⟨_, _, _, sm, _⟩ => SqT.of (sm _ _ hu)) ?_ ?_
    · rintro i y σ H' hy ⟨y2, y3, rfl, sm, hLi⟩
      obtain ⟨r, er, hr1⟩ := ha.at hy
      have hri := hrow r (List.mem_of_getElem? er)
      have hi30 : i < rows.length := (List.getElem?_eq_some_iff.mp er).1
      match r, hr1, hri, er with
      | none, _, hri, _ => exact absurd hri Bool.false_ne_true
      | some (e, ss), hr1, hri, er =>
        obtain ⟨pr, ur, wr, rfl, hpr, hur, har⟩ := hr1
        have hri' : (decide ((ss.length : Int) = n) && (endFits e && ss.all (stepFits rows.length))) = true := hri
        simp only [Bool.and_eq_true, decide_eq_true_eq, List.all_eq_true] at hri'
        obtain ⟨hln, hef, hst⟩ := hri'
        refine ⟨pr, _, rfl, SqT.of (sm _ _ hpr), rfl, _, _, rfl, _, _, rfl, rfl, ?_⟩
        -- lines.append(' '.join(..))
        refine ⟨.ref L, rfl, .inl ⟨rfl, _, SqL.of hLi⟩, ⟨_, rfl⟩, ?_⟩
        have hw : ∀ W : VK, (∀ v, v = V.str (sOf (oL e)) → W v H') → tIf (tTest (tOp (fun x y H Q => y = .non ∧ Q (.bl (decide (x = .non))) H) (tVar 2) (tC .non))) (tC (.str (Str.ofString "-")))
            (tCB (fun xs H Q => ∃ i, xs = [V.int i] ∧ i.natAbs.log2 < 1920 ∧ Q (.str (Str.ofString (toString i))) H) (tCons (tVar 2) tNil)) [some (.ref p), some (.ref L), some (oV e), some (.ref ur), none, none] H' W := by
          intro W hW
          refine ⟨_, rfl, rfl, _, rfl, ?_⟩
          cases e with
          | none =>
            refine iteT ?_
            exact hW _ (by rw [dash_s]; rfl)
          | some j =>
            obtain ⟨j1, j2⟩ := end_num hef
            refine iteF ⟨_, rfl, j, rfl, log_small (by omega) (by omega), ?_⟩
            rw [strI (by omega : (0 : Int) ≤ j)]
            exact hW _ rfl
        refine hw _ ?_
        rintro _ rfl
        refine ⟨(by decide : 1 ≤ sizeLine), fun l1 hl1 => ?_⟩
        have s2 : Same H' (upd H' l1 (.lst [.str (sOf (oL e))])) := same_new hl1
        refine ⟨_, rfl, ur, rfl, ⟨wr, SqT.of (s2 _ _ (sm _ _ hur))⟩, fun l2 hl2 => ?_⟩
        refine lc_pure (j := 4) (P := fun i y => wr[i]? = some y) (walk_tup (K := K) (a := ur) (xs := wr)) (fun i y H' => ∃ z, ss[i]? = some z ∧ y = .str (sOf (stepL z))) hl2 (by rw [har.1]; exact hz.2 _ (List.mem_of_getElem? er) _ _ rfl) (fun H3 s3 => SqT.of (s3 _ _ (s2 _ _ (sm _ _ hur)))) (fun i y H1 H2 r _ => r) ?_ ?_
        · intro i2 y4 H3 hi2 s3 hy4 Kt hK
          obtain ⟨z, ez, hz4⟩ := har.at hy4
          exact ⟨y4, rfl, _, y4, rows.length, z, rfl, r30, hz4.mono (TupS.same (sm.trans (s2.trans s3))), hst z (List.mem_of_getElem? ez), hK _ _ (Same.refl _) ⟨z, ez, rfl⟩⟩
        · intro ys H3 s3 hl2' hly hy5
          have e2 := strs_of stepL (by rw [hly, har.1]) hy5
          have n1 : l1 ≠ l2 := by
            intro q
            rw [← q, upd_same] at hl2
            cases hl2
          refine ⟨l1, l2, _, _, rfl, rfl, s3 _ _ upd_same, hl2', ?_, fun l3 hl3 => ?_⟩
          · refine small_line ?_
            rw [hly, har.1]
            show 1 + ss.length ≤ _
            omega
          have s4 : Same H3 (upd H3 l3 (.lst ([.str (sOf (oL e))] ++ ys))) := same_new hl3
          have sAll : Same H' (upd H3 l3 (.lst ([.str (sOf (oL e))] ++ ys))) := (s2.trans s3).trans s4
          refine ⟨_, l3, (wordsL (some (e, ss))).map sOf, rfl, rfl, .inl (SqL.of ?_), ?_, ?_⟩
          · rw [upd_same, e2]
            rfl
          · have e3 : (wordsL (some (e, ss))).length = ss.length + 1 := by
              show (oL e :: ss.map stepL).length = _
              rw [List.length_cons, List.length_map]
            have e4 := sum_le (ps := wordsL (some (e, ss))) (c := 5) (by
              intro p0 hp0
              rcases List.mem_cons.mp (show p0 ∈ oL e :: ss.map stepL from hp0) with rfl | hp0
              · exact Nat.le_trans (oL_len hef) (by decide)
              · obtain ⟨z, hz0, rfl⟩ := List.mem_map.mp hp0
                exact stepL_len r30 (hst z hz0))
            rw [List.length_map, e3, blank_s, sOf_len]
            rw [e3] at e4
            show _ + (ss.length + 1) * 1 ≤ _
            omega
          rw [blank_s, join_sOf, join_words]
          refine ⟨L, _, _, rfl, rfl, sAll _ _ hLi, ?_, ?_⟩
          · rw [List.length_map, List.length_map, List.length_cons, List.length_map, List.length_take]
            exact Nat.lt_of_le_of_lt (by omega : min i rows.length + 1 ≤ 31) (by decide)
          · refine ⟨_, _, rfl, Same.mut (sm.trans sAll) H1L, ?_⟩
            rw [upd_same, List.take_add_one, er]
            simp
    · rintro σ H' ⟨y2, y3, rfl, sm, hLi⟩
      have e0 : rows.take ws.length = rows := by rw [ha.1, List.take_length]
      rw [e0] at hLi
      refine ⟨⟨_, rfl⟩, _, rfl, L, rfl, ⟨_, SqL.of hLi⟩, fun l2 hl2 => ?_⟩
      have hlen : ∀ z ∈ headL n :: rows.map rowL, z.length ≤ 50 := by
        intro z hz0
        rcases List.mem_cons.mp hz0 with rfl | hz0
        · exact Nat.le_trans (headL_len (by omega)) (by decide)
        · obtain ⟨r, hr0, rfl⟩ := List.mem_map.mp hz0
          exact rowL_len n8 r30 (hrow r hr0)
      refine lc_pure (j := 5) (P := fun i y => (((headL n :: rows.map rowL).map sOf).map V.str)[i]? = some y) (walk_list (K := K) (a := L) (xs := (((headL n :: rows.map rowL).map sOf).map V.str))) (fun i y H' => ∃ z, (headL n :: rows.map rowL)[i]? = some z ∧ y = .str (sOf (z ++ [10]))) hl2 ?_ (fun H3 s3 => SqL.of (s3 _ _ hLi)) (fun i y H1 H2 r _ => r) ?_ ?_
      · rw [List.length_map, List.length_map, List.length_cons, List.length_map]
        refine small_line ?_
        omega
      · intro i y H3 hi s3 hy Kt hK
        rw [List.getElem?_map, List.getElem?_map] at hy
        cases ez : (headL n :: rows.map rowL)[i]? with
        | none => rw [ez] at hy; cases hy
        | some z =>
          rw [ez] at hy
          obtain rfl : V.str (sOf z) = y := Option.some.inj hy
          refine ⟨_, rfl, _, _, rfl, rfl, ?_, ?_⟩
          · rw [nl_s, sOf_len, sOf_len]
            have := hlen z (List.mem_of_getElem? ez)
            refine small_line ?_
            show _ + 1 ≤ _
            omega
          · rw [nl_s, sOf_app]
            exact hK _ _ (Same.refl _) ⟨z, ez, rfl⟩
      · intro ys H3 s3 hl2' hly hy
        have e2 := strs_of (fun z => z ++ [10]) (xs := headL n :: rows.map rowL) (by rw [hly, List.length_map, List.length_map]) hy
        refine ⟨_, l2, ((headL n :: rows.map rowL).map (fun z => z ++ [10])).map sOf, rfl, rfl, .inl (SqL.of (by rw [hl2', e2])), ?_, ?_⟩
        · have e4 := sum_le (ps := (headL n :: rows.map rowL).map (fun z => z ++ [10])) (c := 51) (by
            intro p0 hp0
            obtain ⟨z, hz0, rfl⟩ := List.mem_map.mp hp0
            rw [List.length_append]
            have := hlen z hz0
            show _ + 1 ≤ _
            omega)
          rw [empty_s, sOf_len]
          rw [List.length_map, List.length_cons, List.length_map] at e4
          show _ + _ * 0 ≤ _
          omega
        · rw [empty_s, join_sOf, joinL_nil]
          have e5 : ((headL n :: rows.map rowL).map (fun z => z ++ [10])).flatten = machL n rows := by
            show _ = headL n ++ [10] ++ rows.flatMap (fun r => rowL r ++ [10])
            rw [List.map_cons, List.flatten_cons, List.map_map]
            rfl
          rw [e5]
          exact q H3 (sm.trans s3)
end
end Kl
namespace Kl
open PySem PySem.Spec PyProof.Rows L2 TL
theorem figs_tl : (Str.ofString "0123456789").cps.toList = [48, 49, 50, 51, 52, 53, 54, 55, 56, 57] := by decide +kernel
theorem isD_mem (c : Nat) : decide (c ∈ (Str.ofString "0123456789").cps.toList) = isD c := by
  rw [figs_tl]
  by_cases h : isD c = true
  · rw [h]
    have := isD_iff.mp h
    refine decide_eq_true ?_
    simp only [List.mem_cons, List.not_mem_nil, or_false]
    omega
  · rw [Bool.not_eq_true] at h
    rw [h]
    refine decide_eq_false fun hm => ?_
    have h2 : isD c = true := by
      simp only [List.mem_cons, List.not_mem_nil, or_false] at hm
      refine isD_iff.mpr ?_
      omega
    rw [h2] at h
    cases h
theorem zero_s : (Str.ofString "0") = sOf [48] := by decide +kernel
theorem sOf_inj {a b : List Nat} : (V.str (sOf a) = V.str (sOf b)) ↔ a = b := by
  constructor
  · intro h
    have h1 : sOf a = sOf b := V.str.inj h
    exact congrArg tl h1
  · rintro rfl
    rfl
theorem int1 {a : Nat} (h : isD a = true) : intText? (sOf [a]) = some ((a : Int) - 48) := by
  have hd := isD_iff.mp h
  have e := intText_digits (x := sOf [a]) (by intro c hc; rw [List.mem_singleton.mp hc]; exact hd) (by simp) (by rw [sOf_len]; exact (by decide : 1 ≤ 4300))
  rw [e]
  show some (((0 * 10 + (a - 48) : Nat)) : Int) = _
  congr 1
  omega
theorem int2 {a b : Nat} (h : isD a = true) (h2 : isD b = true) : intText? (sOf [a, b]) = some (((a : Int) - 48) * 10 + ((b : Int) - 48)) := by
  have hd := isD_iff.mp h
  have hd2 := isD_iff.mp h2
  have e := intText_digits (x := sOf [a, b]) (by intro c hc; rcases List.mem_cons.mp hc with rfl | hc; exact hd; rw [List.mem_singleton.mp hc]; exact hd2) (by simp) (by rw [sOf_len]; exact (by decide : 2 ≤ 4300))
  rw [e]
  show some ((((0 * 10 + (a - 48)) * 10 + (b - 48) : Nat)) : Int) = _
  congr 1
  omega
section
variable {P : Program} {w : World} {K : PySem.W.Frag} {mg : Str → Option Value} {base : Heap}
abbrev sNumberOf : Stmt := top 23
abbrev sReadStep : Stmt := top 24
theorem scNumberOf : FnScope ["word", "sign"] ["word"] (defScope sNumberOf) := ⟨rfl, rfl, rfl, by decide +kernel, rfl, by decide +kernel, by decide +kernel⟩
theorem scReadStep : FnScope ["word", "numbers", "part"] ["word"] (defScope sReadStep) := ⟨rfl, rfl, rfl, by decide +kernel, rfl, by decide +kernel, by decide +kernel⟩
def spNumberOf : Sp := fun vs H Q _ => ∃ l : List Nat, vs = [.str (sOf l)] ∧ l.length ≤ sizeLine ∧ ∀ H', Same H H' → Q (oV (numOf l)) H'
theorem ok_numberOf (D : Def K mg "number_of" sNumberOf ["word"]) (G : Gb mg) (M : Gc mg) : Callee P w K mg base 1 "number_of" ["word"] spNumberOf := by
  refine D.ok scNumberOf (fun vs H Q E h => ?_) (fun f cdv A outer s H vs Q E hr h => ?_)
  · obtain ⟨l, rfl, _⟩ := h
    rfl
  · obtain ⟨l, rfl, hz, q⟩ := h
    refine ⟨_, pss_cons (ps_if (PW.pt (pw_or (pt_not (pt_chain op_le op_le pe_int (pe_callB call_len_str (by rfl) G.len PySem.boot_len (pa_cons (pv 0) pa_nil)) (pe_gi M.mDigits (by rfl))))
        (pw_or1 (pt_not (pt_val (pe_callB (cr_all rfl) (by rfl) G.all (by decide +kernel) (pa_cons
          (pe_lc (own := [("sign", 1)]) (g := gName 1) (tt := tYes) rfl scNumberOf.nd (pi_str (pv 0)) (blkOk_by (N := ["word", "sign"]) (sc := defScope sNumberOf) (by decide +kernel))
            (fun _ _ _ _ _ => pg_name (i := 1) scNumberOf.nd rfl (Or.inl rfl)) (fun _ _ _ _ _ => pts_nil) (fun _ _ _ _ _ => pe_cmpR op_in_sign (pv 1) pe_str (by rfl))) pa_nil)))))))
        (pss_one (ps_ret pe_non)) pss_nil)
      (pss_one (ps_ret (pe_ifExp (PW.pt (pw_or (pt_cmpR op_eq (pv 0) pe_str (nomark _)) (pw_or1 (pt_cmpR op_ne (pe_ix ix_str (pv 0) pe_int (fun _ _ => rfl)) pe_str (nomark _)))))
        (pe_callTy call_int_str (by rfl) G.tint (by decide +kernel) (pa_cons (pv 0) pa_nil)) pe_non))), ?_⟩
    refine ⟨_, rfl, sOf l, rfl, by rw [sOf_len]; exact hz, 1, _, rfl, rfl, _, rfl, ?_⟩
    rw [sOf_len]
    by_cases h1 : 1 ≤ l.length
    case neg =>
      rw [decide_eq_false (by omega : ¬ (1 : Int) ≤ (l.length : Int))]
      refine iteF ⟨_, rfl, iteT (iteT ?_)⟩
      have e : l = [] := List.length_eq_zero_iff.mp (by omega)
      subst e
      exact q H (Same.refl H)
    rw [decide_eq_true (by omega : (1 : Int) ≤ (l.length : Int))]
    refine iteT ⟨(l.length : Int), 2, rfl, rfl, _, rfl, ?_⟩
    by_cases h2 : l.length ≤ 2
    case neg =>
      rw [decide_eq_false (by omega : ¬ (l.length : Int) ≤ 2)]
      refine iteT (iteT ?_)
      have e : numOf l = none := by
        match l, h2 with
        | [], h2 => exact absurd (by decide : 0 ≤ 2) h2
        | [_], h2 => exact absurd (by show 1 ≤ 2; decide) h2
        | [_, _], h2 => exact absurd (by show 2 ≤ 2; decide) h2
        | _ :: _ :: _ :: _, _ => rfl
      rw [e] at q
      exact q H (Same.refl H)
    rw [decide_eq_true (by omega : (l.length : Int) ≤ 2)]
    refine iteF ⟨_, rfl, sOf l, rfl, fun L hL => ?_⟩
    refine lc_pure (j := 1) (P := fun i v => ∃ c, (sOf l).cps[i]? = some c ∧ v = .str ⟨#[c]⟩) (walk_str (z := sOf l)) (fun i y H' => ∃ z, l[i]? = some z ∧ y = .bl (isD z)) hL (by show (l.toArray).size ≤ _; rw [List.size_toArray]; exact hz) (fun _ _ => trivial) (fun i y H1 H2 r _ => r) ?_ ?_
    · rintro i y H' hi sm ⟨c, hc, rfl⟩ Kt hK
      have hc' : l[i]? = some c := by
        rw [← hc]
        show l[i]? = (l.toArray)[i]?
        rw [List.getElem?_toArray]
      refine ⟨_, rfl, c, _, rfl, rfl, ?_⟩
      rw [isD_mem]
      exact hK _ _ (Same.refl _) ⟨c, hc', rfl⟩
    · intro ys H' sm hL' hl hy
      have hl' : ys.length = l.length := by
        rw [hl]
        show (l.toArray).size = _
        rw [List.size_toArray]
      have e2 := bools_of isD hl' hy
      refine ⟨L, l.map isD, rfl, ?_, ?_⟩
      · rw [← e2]
        exact SqL.of hL'
      rw [all_id]
      refine ⟨_, rfl, ?_⟩
      match l, h1, h2, q with
      | [a], _, _, q =>
        cases ha : isD a with
        | false =>
          have e : numOf [a] = none := by
            show (if isD a then _ else _) = _
            rw [ha]
            rfl
          rw [e] at q
          have e3 : [a].all isD = false := by simp [ha]
          rw [e3]
          exact iteT (q H' sm)
        | true =>
          have e : numOf [a] = some ((a : Int) - 48) := by
            show (if isD a then _ else _) = _
            rw [ha]
            rfl
          rw [e] at q
          have e3 : [a].all isD = true := by simp [ha]
          rw [e3]
          refine iteF ?_
          refine ⟨_, rfl, rfl, _, rfl, ?_⟩
          have fin : ∀ R : VK, R = Q → tCB (fun xs H Q => ∃ a n, xs = [V.str a] ∧ PySem.intText? a = some n ∧ a.length ≤ 640 ∧ Q (.int n) H) (tCons (tVar 0) tNil) [some (.str (sOf [a])), none] H' R := by
            rintro _ rfl
            exact ⟨_, rfl, sOf [a], _, rfl, int1 ha, by rw [sOf_len]; exact (by decide : 1 ≤ 640), q H' sm⟩
          by_cases h0 : a = 48
          · subst h0
            rw [decide_eq_true (by rw [zero_s] : V.str (sOf [48]) = V.str (Str.ofString "0"))]
            exact iteT (iteT (fin Q rfl))
          · rw [decide_eq_false (by rw [zero_s, sOf_inj]; simpa using h0 : ¬ V.str (sOf [a]) = V.str (Str.ofString "0"))]
            refine iteF ⟨_, rfl, sOf [a], 0, a, rfl, rfl, by rw [sOf_len]; exact (by decide : 1 ≤ sizeLine), rfl, rfl, _, rfl, ?_⟩
            have e4 : decide (V.str ⟨#[a]⟩ = V.str (Str.ofString "0")) = false := by
              refine decide_eq_false ?_
              rw [zero_s]
              show ¬ V.str (sOf [a]) = V.str (sOf [48])
              rw [sOf_inj]
              simpa using h0
            rw [e4]
            exact iteT (fin Q rfl)
      | [a, b], _, _, q =>
        have e5 : numOf [a, b] = if isD a && isD b && decide (a ≠ 48) then some (((a : Int) - 48) * 10 + ((b : Int) - 48)) else none := rfl
        rw [e5] at q
        cases hab : (isD a && isD b) with
        | false =>
          rw [hab] at q
          have e3 : [a, b].all isD = false := by
            show (isD a && (isD b && true)) = false
            rw [Bool.and_true, hab]
          rw [e3]
          exact iteT (q H' sm)
        | true =>
          rw [hab] at q
          have e3 : [a, b].all isD = true := by
            show (isD a && (isD b && true)) = true
            rw [Bool.and_true, hab]
          rw [e3]
          refine iteF ⟨_, rfl, rfl, _, rfl, ?_⟩
          rw [decide_eq_false (by rw [zero_s, sOf_inj]; simp : ¬ V.str (sOf [a, b]) = V.str (Str.ofString "0"))]
          refine iteF ⟨_, rfl, sOf [a, b], 0, a, rfl, rfl, by rw [sOf_len]; exact (by decide : 2 ≤ sizeLine), rfl, rfl, _, rfl, ?_⟩
          by_cases h0 : a = 48
          · subst h0
            have e4 : decide (V.str ⟨#[48]⟩ = V.str (Str.ofString "0")) = true := by
              refine decide_eq_true ?_
              rw [zero_s]
            rw [e4]
            exact iteF (q H' sm)
          · have e4 : decide (V.str ⟨#[a]⟩ = V.str (Str.ofString "0")) = false := by
              refine decide_eq_false ?_
              rw [zero_s]
              show ¬ V.str (sOf [a]) = V.str (sOf [48])
              rw [sOf_inj]
              simpa using h0
            rw [e4]
            have e6 : (true && decide (a ≠ 48)) = true := by simp [h0]
            rw [e6] at q
            have hab' : isD a = true ∧ isD b = true := by simpa using hab
            exact iteT ⟨_, rfl, sOf [a, b], _, rfl, int2 hab'.1 hab'.2, by rw [sOf_len]; exact (by decide : 2 ≤ 640), q H' sm⟩
/-! ### cutting, as the program does it -/
theorem split_cut (l : List Nat) (s : Nat) (hs : s < 256) : Txt.split (sOf l) (sOf [s]) = (cut s l).map sOf := by
  refine map_tl_inj ?_
  rw [split_spl (sOf l) (sOf [s]) (by simp) (kind_ok (by simp [hs])), List.map_map]
  have e : (tl ∘ sOf) = id := rfl
  rw [e, List.map_id]
def spReadStep : Sp := fun vs H Q _ => ∃ l : List Nat, vs = [.str (sOf l)] ∧ l.length ≤ 1000000 ∧ ∀ v H', Same H H' → StepAt (.str "wrong") H' v (stepOf l) → Q v H'
theorem ok_readStep (D : Def K mg "read_step" sReadStep ["word"]) (G : Gb mg) (C1 : Callee P w K mg base 1 "number_of" ["word"] spNumberOf) : Callee P w K mg base 2 "read_step" ["word"] spReadStep := by
  refine D.ok scReadStep (fun vs H Q E h => ?_) (fun f cdv A outer s H vs Q E hr h => ?_)
  · obtain ⟨l, rfl, _⟩ := h
    rfl
  · obtain ⟨l, rfl, hz, q⟩ := h
    refine ⟨_, pss_cons (ps_if (pt_cmpR op_eq (pv 0) pe_str (nomark _)) (pss_one (ps_ret pe_non)) pss_nil)
      (pss_cons (ps_setLc (i := 1) (own := [("part", 2)]) (g := gName 2) (tt := tYes) rfl scReadStep.nd rfl rfl (sw_true rfl rfl rfl (by decide +kernel)) (pi_list (pe_split (pv 0) pe_str)) (blkOk_by (N := ["word", "numbers", "part"]) (sc := defScope sReadStep) (by decide +kernel))
          (fun _ _ _ _ _ => pg_name (i := 2) scReadStep.nd rfl (Or.inl rfl)) (fun _ _ _ _ _ => pts_nil) (fun _ _ _ _ _ => pe_cl C1 hr (by rfl) (pa_cons (pv 2) pa_nil)))
      (pss_one (ps_ret (pe_ifExp (PW.pt (pw_and (pt_cmpR op_eq (pe_callB call_len_seq (by rfl) G.len PySem.boot_len (pa_cons (pv 1) pa_nil)) pe_int (nomark _)) (pw_and1 (pt_cmpR op_notIn_seq pe_non (pv 1) (by rfl)))))
        (pe_callTy call_tuple_of (by rfl) G.ttup (by decide +kernel) (pa_cons (pv 1) pa_nil)) pe_str)))), ?_⟩
    refine ⟨_, rfl, rfl, _, rfl, ?_⟩
    by_cases h0 : l = [45]
    · subst h0
      rw [decide_eq_true (by rw [dash_s] : V.str (sOf [45]) = V.str (Str.ofString "-"))]
      exact iteT (q _ H (Same.refl H) (by show V.non = V.non; rfl))
    rw [decide_eq_false (by rw [dash_s, sOf_inj]; exact h0 : ¬ V.str (sOf l) = V.str (Str.ofString "-"))]
    refine iteF ?_
    refine ⟨_, rfl, ⟨_, rfl⟩, sOf l, _, rfl, rfl, by rw [colon_s]; rfl, ?_, fun pS hS => ?_⟩
    · rw [sOf_len]
      exact small_line (by omega)
    rw [colon_s, split_cut l 58 (by decide)]
    have sS : Same H (upd H pS (.lst (((cut 58 l).map sOf).map V.str))) := same_new hS
    refine ⟨pS, rfl, ⟨_, SqL.of upd_same⟩, fun L hL => ?_⟩
    have hcount : (cut 58 l).length ≤ l.length + 1 := spl_count 58 l []
    refine lc_pure (j := 2) (P := fun i y => (((cut 58 l).map sOf).map V.str)[i]? = some y) (walk_list (K := K) (a := pS) (xs := (((cut 58 l).map sOf).map V.str))) (fun i y H' => ∃ z, (cut 58 l)[i]? = some z ∧ y = oV (numOf z)) hL ?_ (fun H3 s3 => SqL.of (s3 _ _ upd_same)) (fun i y H1 H2 r _ => r) ?_ ?_
    · rw [List.length_map, List.length_map]
      exact small_line (by omega)
    · intro i y H3 hi s3 hy Kt hK
      rw [List.getElem?_map, List.getElem?_map] at hy
      cases ez : (cut 58 l)[i]? with
      | none => rw [ez] at hy; cases hy
      | some z =>
        rw [ez] at hy
        obtain rfl : V.str (sOf z) = y := Option.some.inj hy
        refine ⟨_, rfl, z, rfl, ?_, fun H4 s4 => hK _ _ s4 ⟨z, ez, rfl⟩⟩
        have := cut_len (List.mem_of_getElem? ez)
        exact small_line (by omega)
    · intro ys H' sm hL' hl hy
      have sAll : Same H H' := sS.trans sm
      have e2 : ys = (cut 58 l).map (fun z => oV (numOf z)) := by
        refine List.ext_getElem? fun i => ?_
        rw [List.getElem?_map]
        rw [List.length_map, List.length_map] at hl
        by_cases hi : i < ys.length
        · obtain ⟨x, e1, e2⟩ := hy i _ (List.getElem?_eq_getElem hi)
          rw [List.getElem?_eq_getElem hi, e1, e2]
          rfl
        · rw [List.getElem?_eq_none (by omega), List.getElem?_eq_none (by omega)]
          rfl
      refine ⟨_, rfl, L, ys, rfl, .inl (SqL.of hL'), rfl, _, rfl, ?_⟩
      have wrong : (∀ a b, ¬ (stepOf l = some (some (a, b)))) → StepAt (.str "wrong") H' (.str (Str.ofString "wrong")) (stepOf l) := by
        intro hn
        have e : stepOf l = none := by
          cases e : stepOf l with
          | none => rfl
          | some z =>
            cases z with
            | none =>
              exfalso
              unfold stepOf at e
              rw [if_neg h0] at e
              split at e
              · split at e <;> cases e
              · cases e
            | some ab => exact absurd e (hn ab.1 ab.2)
        rw [e]
        rfl
      have est : stepOf l = match cut 58 l with
          | [p, q] => (match numOf p, numOf q with
            | some a, some b => some (some (a, b))
            | _, _ => none)
          | _ => none := by
        exact if_neg h0
      by_cases h2 : (cut 58 l).length = 2
      case neg =>
        have e3 : decide (V.int (ys.length : Int) = V.int 2) = false := by
          refine decide_eq_false fun e => h2 ?_
          have e' := V.int.inj e
          rw [e2, List.length_map] at e'
          omega
        rw [e3]
        refine iteF (iteF ?_)
        refine q _ H' sAll (wrong ?_)
        intro a b e
        rw [est] at e
        split at e
        · rename_i p r ec
          rw [ec] at h2
          exact h2 rfl
        · cases e
      have e3 : decide (V.int (ys.length : Int) = V.int 2) = true := by
        refine decide_eq_true ?_
        rw [e2, List.length_map, h2]
        rfl
      rw [e3]
      refine iteT ?_
      obtain ⟨c1, c2, ec⟩ : ∃ c1 c2, cut 58 l = [c1, c2] := by
        match cut 58 l, h2 with
        | [c1, c2], _ => exact ⟨c1, c2, rfl⟩
      rw [ec] at e2
      have est2 : stepOf l = match numOf c1, numOf c2 with
          | some a, some b => some (some (a, b))
          | _, _ => none := by
        rw [est, ec]
      have e2' : ys = [oV (numOf c1), oV (numOf c2)] := e2
      subst e2'
      have fl : ∀ o, flatV (oV o) = true := fun o => by cases o <;> rfl
      refine ⟨_, rfl, L, _, rfl, .inl (SqL.of hL'), rfl, by simp [fl], _, rfl, ?_⟩
      cases n1 : numOf c1 with
      | none =>
        have e4 : inV .non [oV none, oV (numOf c2)] = true := rfl
        rw [if_pos rfl, e4]
        refine iteF (q _ H' sAll (wrong ?_))
        intro a b e
        rw [est2, n1] at e
        simp at e
      | some a1 =>
        cases n2 : numOf c2 with
        | none =>
          have e4 : inV .non [oV (some a1), oV none] = true := rfl
          rw [if_pos rfl, e4]
          refine iteF (q _ H' sAll (wrong ?_))
          intro a b e
          rw [est2, n1, n2] at e
          simp at e
        | some a2 =>
          have e4 : inV .non [oV (some a1), oV (some a2)] = false := rfl
          rw [if_pos rfl, e4]
          refine iteT ⟨_, rfl, L, _, rfl, .inl ⟨SqL.of hL', fun pT hT => ?_⟩⟩
          refine q _ _ (sAll.trans (same_new hT)) ?_
          rw [est2, n1, n2]
          exact ⟨pT, rfl, by rw [upd_same]; rfl⟩
end
end Kl
namespace Kl
open PySem PySem.Spec PyProof.Rows L2 TL
/-! ### lists cut -/
theorem cut_from1 (xs : List V) : cutV xs (some 1) none = xs.drop 1 := by
  unfold cutV
  rw [show HT.sIx xs.length 0 (some 1) = min 1 xs.length from HT.sIx_nat xs.length 0 1, HT.sIx_none]
  cases xs with
  | nil => rfl
  | cons x r =>
    rw [show min 1 (x :: r).length = 1 by rw [List.length_cons]; omega]
    show List.take ((x :: r).length - 1) r = r
    rw [List.length_cons, Nat.add_sub_cancel]
    exact List.take_length
theorem sIx_m1 (n d : Nat) : HT.sIx n d (some (-1)) = n - 1 := by
  show (if (-1 : Int) < 0 then ((-1 : Int) + (n : Int)).toNat else min (-1 : Int).toNat n) = n - 1
  rw [if_pos (by decide)]
  omega
theorem cut_mid (x : V) (r : List V) : cutV (x :: r) (some 1) (some (-1)) = r.dropLast := by
  unfold cutV
  rw [show HT.sIx (x :: r).length 0 (some 1) = min 1 (x :: r).length from HT.sIx_nat _ 0 1, sIx_m1, show min 1 (x :: r).length = 1 by rw [List.length_cons]; omega]
  show List.take ((r.length + 1) - 1 - 1) r = r.dropLast
  rw [List.dropLast_eq_take]
  rfl
theorem cut_upto (r : List V) : cutV r none (some (-1)) = r.dropLast := by
  unfold cutV
  rw [HT.sIx_none, sIx_m1, List.dropLast_eq_take]
  rfl
def ToldAt (bs br : V) (H : Hp) (u : V) : Option (Int × List RRow) → Prop
  | none => u = .non
  | some (n, rows) => FoundAt bs br H u (some n) rows
theorem rowOf_len {l : List Nat} {e : Option Int} {ss : List RStep} (h : rowOf l = some (e, ss)) : ss.length ≤ l.length + 1 := by
  unfold rowOf at h
  have hc : (cut 32 l).length ≤ l.length + 1 := spl_count 32 l []
  cases ec : cut 32 l with
  | nil => rw [ec] at h; cases h
  | cons w ws =>
    rw [ec] at h hc
    cases e2 : endOf w with
    | none => simp only at h; rw [e2] at h; cases h
    | some o =>
      simp only at h
      rw [e2] at h
      cases h
      rw [List.length_map]
      rw [List.length_cons] at hc
      omega
theorem small_read {l : List Nat} {ls : List (List Nat)} (hl : l.length ≤ 100000) (h1 : ls.length ≤ l.length + 1) (h2 : ∀ p ∈ ls, p.length ≤ l.length) : Small (ls.map rowOf) := by
  refine ⟨by rw [List.length_map]; exact small_line (by omega), fun r hr e ss er => ?_⟩
  obtain ⟨p, hp, rfl⟩ := List.mem_map.mp hr
  have := rowOf_len er
  have := h2 p hp
  exact small_line (by omega)
/-- the gathered items stand against what was read -/
theorem all2_of {α β : Type} {F : V → β → Prop} (f : α → β) {ys : List V} {xs : List α} (hl : ys.length = xs.length) (h : ∀ (i : Nat) (y : V), ys[i]? = some y → ∃ x, xs[i]? = some x ∧ F y (f x)) : All2 F ys (xs.map f) := by
  refine ⟨by rw [hl, List.length_map], fun i a b ea eb => ?_⟩
  obtain ⟨x, ex, hx⟩ := h i a ea
  rw [List.getElem?_map, ex] at eb
  cases eb
  exact hx
section
variable {P : Program} {w : World} {K : PySem.W.Frag} {mg : Str → Option Value} {base : Heap}
abbrev sReadRow : Stmt := top 25
abbrev sReadMachine : Stmt := top 26
theorem scReadRow : FnScope ["line", "words", "end", "word"] ["line"] (defScope sReadRow) := ⟨rfl, rfl, rfl, by decide +kernel, rfl, by decide +kernel, by decide +kernel⟩
theorem scReadMachine : FnScope ["text", "lines", "head", "size", "found", "line"] ["text"] (defScope sReadMachine) := ⟨rfl, rfl, rfl, by decide +kernel, rfl, by decide +kernel, by decide +kernel⟩
def spReadRow : Sp := fun vs H Q _ => ∃ l : List Nat, vs = [.str (sOf l)] ∧ l.length ≤ 1000000 ∧ ∀ v H', Same H H' → RowAt (.str "wrong") .non H' v (rowOf l) → Q v H'
theorem ok_readRow (D : Def K mg "read_row" sReadRow ["line"]) (G : Gb mg) (C1 : Callee P w K mg base 1 "number_of" ["word"] spNumberOf) (C2 : Callee P w K mg base 2 "read_step" ["word"] spReadStep) : Callee P w K mg base 3 "read_row" ["line"] spReadRow := by
  refine D.ok scReadRow (fun vs H Q E h => ?_) (fun f cdv A outer s H vs Q E hr h => ?_)
  · obtain ⟨l, rfl, _⟩ := h
    rfl
  · obtain ⟨l, rfl, hz, q⟩ := h
    refine ⟨_, pss_cons (ps_set (i := 1) scReadRow.nd rfl (Or.inl rfl) (pe_split (pv 0) pe_str))
      (pss_cons (ps_set (i := 2) scReadRow.nd rfl (Or.inl rfl) (pe_ifExp (pt_cmpR op_eq (pe_ix ix_list (pv 1) pe_int (fun _ _ => rfl)) pe_str (nomark _)) pe_non (pe_cl C1 (hr.mono (by decide)) (by rfl) (pa_cons (pe_ix ix_list (pv 1) pe_int (fun _ _ => rfl)) pa_nil))))
      (pss_cons (ps_if (PW.pt (pw_and (pt_cmpR op_isN (pv 2) pe_non (nomark _)) (pw_and1 (pt_cmpR op_ne (pe_ix ix_list (pv 1) pe_int (fun _ _ => rfl)) pe_str (nomark _))))) (pss_one (ps_ret pe_non)) pss_nil)
      (pss_one (ps_ret (pe_tup (pa_cons (pv 2) (pa_cons (pe_callTy call_tuple_of (by rfl) G.ttup (by decide +kernel) (pa_cons
        (pe_lc (own := [("word", 3)]) (g := gName 3) (tt := tYes) rfl scReadRow.nd (pi_list (pe_slice sl_list (pv 1) (po_some pe_int) po_none)) (blkOk_by (N := ["line", "words", "end", "word"]) (sc := defScope sReadRow) (by decide +kernel))
          (fun _ _ _ _ _ => pg_name (i := 3) scReadRow.nd rfl (Or.inl rfl)) (fun _ _ _ _ _ => pts_nil) (fun _ _ _ _ _ => pe_cl C2 hr (by rfl) (pa_cons (pv 3) pa_nil))) pa_nil)) pa_nil))))))), ?_⟩
    have hcount : (cut 32 l).length ≤ l.length + 1 := spl_count 32 l []
    refine ⟨_, rfl, ⟨_, rfl⟩, sOf l, _, rfl, rfl, by rw [blank_s]; rfl, ?_, fun pS hS => ?_⟩
    · rw [sOf_len]
      exact small_line (by omega)
    rw [blank_s, split_cut l 32 (by decide)]
    have hlen := fun p (hp : p ∈ cut 32 l) => cut_len hp
    have er : rowOf l = match cut 32 l with
        | w :: ws => (endOf w).map fun e => (e, ws.map stepOf)
        | [] => none := rfl
    cases ec : cut 32 l with
    | nil => exact absurd ec (spl_ne 32 l [])
    | cons w0 ws =>
      rw [ec] at hcount hlen er
      have er : rowOf l = (endOf w0).map fun e => (e, ws.map stepOf) := er
      have sS : Same H (upd H pS (.lst (((w0 :: ws).map sOf).map V.str))) := same_new hS
      have hw0 := hlen w0 (List.mem_cons_self ..)
      refine ⟨_, rfl, pS, _, 0, .str (sOf w0), rfl, rfl, SqL.of upd_same, atI_nat (j := 0) rfl, rfl, _, rfl, ?_⟩
      -- behind end = ..
      have rest : ∀ (o : Option Int) (H2 : Hp), Same H H2 → H2 pS = some (.lst (((w0 :: ws).map sOf).map V.str)) → (o = none → endOf w0 = none ∨ w0 = [45]) → (∀ e, endOf w0 = some e → o = e) → (endOf w0 = none → o = none) →
          ∀ D : Ends, D.rt = Q → ∀ σ : L2.St, σ = [some (.str (sOf l)), some (.ref pS), some (oV o), none] →
          tSeq (tIfS (tAnd (tTest (tOp (fun x y H Q => y = .non ∧ Q (.bl (decide (x = .non))) H) (tVar 2) (tC .non))) (tTest (tOp rNe (tOp (rIxL K) (tVar 1) (tC (.int 0))) (tC (.str (Str.ofString "-")))))) (tRet (tC .non)) tNext)
            (tRet (tTup (tCons (tVar 2) (tCons (tCB (fun xs H Q => ∃ p ys, xs = [.ref p] ∧ ((SqL K H p ys ∧ ∀ l, H l = none → Q (.ref l) (upd H l (.tup ys))) ∨ (SqT K H p ys ∧ Q (.ref p) H))) (tCons
              (tLc (iList K (tSl (rSlL K) (tVar 1) (tPart (tC (.int 1))) tNoPart)) (gName 3) tYes (tCall spReadStep [] E0 (tCons (tVar 3) tNil)) [3]) tNil)) tNil)))) D σ H2 := by
        rintro o H2 s2 h2 ho1 ho2 ho3 D rfl σ rfl
        refine ⟨_, rfl, rfl, _, rfl, ?_⟩
        have go : (∃ e, endOf w0 = some e) → (tRet (tTup (tCons (tVar 2) (tCons (tCB (fun xs H Q => ∃ p ys, xs = [.ref p] ∧ ((SqL K H p ys ∧ ∀ l, H l = none → Q (.ref l) (upd H l (.tup ys))) ∨ (SqT K H p ys ∧ Q (.ref p) H))) (tCons
              (tLc (iList K (tSl (rSlL K) (tVar 1) (tPart (tC (.int 1))) tNoPart)) (gName 3) tYes (tCall spReadStep [] E0 (tCons (tVar 3) tNil)) [3]) tNil)) tNil)))) D [some (.str (sOf l)), some (.ref pS), some (oV o), none] H2 := by
          rintro ⟨e, he⟩
          have hoe := ho2 e he
          subst hoe
          rw [he] at er
          have er : rowOf l = some (o, ws.map stepOf) := er
          refine ⟨_, rfl, _, rfl, 1, rfl, pS, _, rfl, SqL.of h2, fun p3 hp3 => ?_⟩
          have e3 : cutV (((w0 :: ws).map sOf).map V.str) (some 1) none = (ws.map sOf).map V.str := by
            rw [cut_from1]
            rfl
          rw [e3]
          have s3 : Same H2 (upd H2 p3 (.lst ((ws.map sOf).map V.str))) := same_new hp3
          refine ⟨p3, rfl, ⟨_, SqL.of upd_same⟩, fun L hL => ?_⟩
          rw [List.length_cons] at hcount
          refine lc_pure (j := 3) (P := fun i y => ((ws.map sOf).map V.str)[i]? = some y) (walk_list (K := K) (a := p3) (xs := ((ws.map sOf).map V.str))) (fun i y H' => ∃ z, ws[i]? = some z ∧ StepAt (.str "wrong") H' y (stepOf z)) hL (by rw [List.length_map, List.length_map]; exact small_line (by omega)) (fun H4 s4 => SqL.of (s4 _ _ upd_same)) (fun i y H1 H2 r t => by obtain ⟨z, e1, e2⟩ := r; exact ⟨z, e1, e2.mono t⟩) ?_ ?_
          · intro i y H4 hi s4 hy Kt hK
            rw [List.getElem?_map, List.getElem?_map] at hy
            cases ez : ws[i]? with
            | none => rw [ez] at hy; cases hy
            | some z =>
              rw [ez] at hy
              obtain rfl : V.str (sOf z) = y := Option.some.inj hy
              have hzl := hlen z (List.mem_cons_of_mem _ (List.mem_of_getElem? ez))
              exact ⟨_, rfl, z, rfl, by omega, fun v H5 s5 hv => hK _ _ s5 ⟨z, ez, hv⟩⟩
          · intro ys H4 s4 hL' hly hy
            have a2 : All2 (StepAt (.str "wrong") H4) ys (ws.map stepOf) := all2_of stepOf (by rw [hly, List.length_map, List.length_map]) hy
            refine ⟨L, ys, rfl, .inl ⟨SqL.of hL', fun pT hT => ?_⟩⟩
            refine ⟨(by decide : 2 ≤ sizeLine), fun pR hR => ?_⟩
            have s5 : Same H4 (upd H4 pT (.tup ys)) := same_new hT
            have s6 := same_new (o := .tup [oV o, .ref pT]) hR
            refine q _ _ (s2.trans (s3.trans (s4.trans (s5.trans s6)))) ?_
            rw [er]
            exact ⟨pR, pT, ys, rfl, upd_same, s6 _ _ upd_same, a2.imp fun _ _ z => z.mono (TupS.same (s5.trans s6))⟩
        cases o with
        | some j =>
          refine iteF (iteF (go ?_))
          cases he : endOf w0 with
          | none => exact absurd (ho3 he) (by simp)
          | some e => exact ⟨e, rfl⟩
        | none =>
          refine iteT ?_
          refine ⟨_, rfl, pS, _, 0, .str (sOf w0), rfl, rfl, SqL.of h2, atI_nat (j := 0) rfl, rfl, _, rfl, ?_⟩
          by_cases h45 : w0 = [45]
          · subst h45
            rw [decide_eq_true (by rw [dash_s] : V.str (sOf [45]) = V.str (Str.ofString "-"))]
            exact iteF (go ⟨none, rfl⟩)
          · rw [decide_eq_false (by rw [dash_s, sOf_inj]; exact h45 : ¬ V.str (sOf w0) = V.str (Str.ofString "-"))]
            refine iteT (q _ _ s2 ?_)
            rw [er]
            rcases ho1 rfl with h | h
            · rw [h]
              rfl
            · exact absurd h h45
      by_cases h45 : w0 = [45]
      · subst h45
        rw [decide_eq_true (by rw [dash_s] : V.str (sOf [45]) = V.str (Str.ofString "-"))]
        refine iteT ?_
        exact rest none _ sS upd_same (fun _ => .inr rfl) (fun e he => (Option.some.inj he)) (fun h => by cases h) _ rfl _ rfl
      · rw [decide_eq_false (by rw [dash_s, sOf_inj]; exact h45 : ¬ V.str (sOf w0) = V.str (Str.ofString "-"))]
        refine iteF ?_
        have ee : endOf w0 = (numOf w0).map some := by
          unfold endOf
          rw [if_neg h45]
        refine ⟨_, rfl, pS, _, 0, .str (sOf w0), rfl, rfl, SqL.of upd_same, atI_nat (j := 0) rfl, w0, rfl, small_line (by omega), fun H2 s2 => ?_⟩
        refine rest (numOf w0) _ (sS.trans s2) (s2 _ _ upd_same) (fun h => .inl (by rw [ee, h]; rfl)) (fun e he => ?_) (fun h => ?_) _ rfl _ rfl
        · rw [ee] at he
          cases hn : numOf w0 with
          | none => rw [hn] at he; cases he
          | some j => rw [hn] at he; exact Option.some.inj he
        · rw [ee] at h
          cases hn : numOf w0 with
          | none => rfl
          | some j => rw [hn] at h; cases h
end
end Kl
namespace Kl
open PySem PySem.Spec PyProof.Rows L2 TL
/-- the size of a first line -/
def headOf (h : List Nat) : Option Int :=
  match cut 32 h with
  | [a, w] => if a = sizeL then numOf w else none
  | _ => none
theorem parse_of {l h : List Nat} {rest : List (List Nat)} (e : cut 10 l = h :: rest) :
    parse l = match headOf h with
      | none => none
      | some n => if (h :: rest).getLast? = some [] then (if fits (some n) (rest.dropLast.map rowOf) = true then some (n, rest.dropLast.map rowOf) else none) else none := by
  unfold parse
  rw [e]
  show (match cut 32 h with | [a, w] => _ | _ => none) = _
  unfold headOf
  match cut 32 h with
  | [] => rfl
  | [_] => rfl
  | _ :: _ :: _ :: _ => rfl
  | [a, w] =>
    show (if a = sizeL ∧ (h :: rest).getLast? = some [] then _ else none) = (match (if a = sizeL then numOf w else none) with | none => none | some n => _)
    by_cases h1 : a = sizeL
    · rw [if_pos h1]
      by_cases h2 : (h :: rest).getLast? = some []
      · rw [if_pos ⟨h1, h2⟩]
        cases numOf w with
        | none => rfl
        | some n =>
          show _ = if (h :: rest).getLast? = some [] then _ else none
          rw [if_pos h2]
      · rw [if_neg (fun z => h2 z.2)]
        cases numOf w with
        | none => rfl
        | some n =>
          show _ = if (h :: rest).getLast? = some [] then _ else none
          rw [if_neg h2]
    · rw [if_neg h1, if_neg (fun z => h1 z.1)]
theorem sizew_s : (Str.ofString "size") = sOf sizeL := by decide +kernel
section
variable {P : Program} {w : World} {K : PySem.W.Frag} {mg : Str → Option Value} {base : Heap}
def spReadMachine : Sp := fun vs H Q _ => ∃ v, vs = [v] ∧ ((∃ t, TyX K H v t ∧ PySem.W.kitOne K t (.type "str") = some false ∧ Q .non H) ∨
  ∃ l : List Nat, v = .str (sOf l) ∧ l.length ≤ 100000 ∧ ∀ u H', Same H H' → ToldAt (.str "wrong") .non H' u (parse l) → Q u H')
theorem ok_readMachine (D : Def K mg "read_machine" sReadMachine ["text"]) (G : Gb mg) (C1 : Callee P w K mg base 1 "number_of" ["word"] spNumberOf) (C2 : Callee P w K mg base 3 "read_row" ["line"] spReadRow) (C3 : Callee P w K mg base 6 "is_machine" ["thing"] spIsMachine) :
    Callee P w K mg base 7 "read_machine" ["text"] (spReadMachine (K := K)) := by
  refine D.ok scReadMachine (fun vs H Q E h => ?_) (fun f cdv A outer s H vs Q E hr h => ?_)
  · obtain ⟨v, rfl, _⟩ := h
    rfl
  · obtain ⟨v, rfl, hv⟩ := h
    refine ⟨_, pss_cons (ps_if (pt_not (pt_val (pe_isi (T := "str") G.isi G.tstr (pv 0) (by rfl) (by rfl) (by decide +kernel)))) (pss_one (ps_ret pe_non)) pss_nil)
      (pss_cons (ps_set (i := 1) scReadMachine.nd rfl (Or.inl rfl) (pe_split (pv 0) pe_str))
      (pss_cons (ps_set (i := 2) scReadMachine.nd rfl (Or.inl rfl) (pe_split (pe_ix ix_list (pv 1) pe_int (fun _ _ => rfl)) pe_str))
      (pss_cons (ps_set (i := 3) scReadMachine.nd rfl (Or.inl rfl) (pe_ifExp (PW.pt (pw_and (pt_cmpR op_eq (pe_callB call_len_seq (by rfl) G.len PySem.boot_len (pa_cons (pv 2) pa_nil)) pe_int (nomark _)) (pw_and1 (pt_cmpR op_eq (pe_ix ix_list (pv 2) pe_int (fun _ _ => rfl)) pe_str (nomark _)))))
        (pe_cl C1 (hr.mono (by decide)) (by rfl) (pa_cons (pe_ix ix_list (pv 2) pe_int (fun _ _ => rfl)) pa_nil)) pe_non))
      (pss_cons (ps_if (PW.pt (pw_or (pt_cmpR op_isN (pv 3) pe_non (nomark _)) (pw_or1 (pt_cmpR op_ne (pe_ix ix_list (pv 1) (pe_un un_neg pe_int) (fun _ _ => rfl)) pe_str (nomark _))))) (pss_one (ps_ret pe_non)) pss_nil)
      (pss_cons (ps_set (i := 4) scReadMachine.nd rfl (Or.inl rfl) (pe_tup (pa_cons (pv 3) (pa_cons (pe_callTy call_tuple_of (by rfl) G.ttup (by decide +kernel) (pa_cons
        (pe_lc (own := [("line", 5)]) (g := gName 5) (tt := tYes) rfl scReadMachine.nd (pi_list (pe_slice sl_list (pv 1) (po_some pe_int) (po_some (pe_un un_neg pe_int)))) (blkOk_by (N := ["text", "lines", "head", "size", "found", "line"]) (sc := defScope sReadMachine) (by decide +kernel))
          (fun _ _ _ _ _ => pg_name (i := 5) scReadMachine.nd rfl (Or.inl rfl)) (fun _ _ _ _ _ => pts_nil) (fun _ _ _ _ _ => pe_cl C2 (hr.mono (by decide)) (by rfl) (pa_cons (pv 5) pa_nil))) pa_nil)) pa_nil))))
      (pss_one (ps_ret (pe_ifExp (pt_val (pe_cl C3 hr (by rfl) (pa_cons (pv 4) pa_nil))) (pv 4) pe_non)))))))), ?_⟩
    rcases hv with ⟨t, h1, h2, q⟩ | ⟨l, rfl, hz, q⟩
    · exact ⟨_, rfl, _, _, _, _, false, rfl, .ty "str", h1, h2, false, rfl, iteT q⟩
    refine ⟨_, rfl, _, _, _, _, true, rfl, .ty "str", .base (.str _), kit_ty (by decide +kernel), true, rfl, iteF ?_⟩
    -- lines
    have hcount : (cut 10 l).length ≤ l.length + 1 := spl_count 10 l []
    have hlen := fun p (hp : p ∈ cut 10 l) => cut_len hp
    refine ⟨_, rfl, ⟨_, rfl⟩, sOf l, _, rfl, rfl, by rw [nl_s]; rfl, by rw [sOf_len]; exact small_line (by omega), fun p1 hp1 => ?_⟩
    rw [nl_s, split_cut l 10 (by decide)]
    cases ec : cut 10 l with
    | nil => exact absurd ec (spl_ne 10 l [])
    | cons h0 rest =>
      rw [ec] at hcount hlen
      have ep := parse_of ec
      have hh0 := hlen h0 (List.mem_cons_self ..)
      have s1 : Same H (upd H p1 (.lst (((h0 :: rest).map sOf).map V.str))) := same_new hp1
      -- head
      have hcount2 : (cut 32 h0).length ≤ h0.length + 1 := spl_count 32 h0 []
      have hlen2 := fun p (hp : p ∈ cut 32 h0) => cut_len hp
      refine ⟨_, rfl, p1, _, 0, .str (sOf h0), rfl, rfl, SqL.of upd_same, atI_nat (j := 0) rfl, ⟨_, rfl⟩, sOf h0, _, rfl, rfl, by rw [blank_s]; rfl, by rw [sOf_len]; exact small_line (by omega), fun p2 hp2 => ?_⟩
      rw [blank_s, split_cut h0 32 (by decide)]
      have s2 := same_new (o := .lst (((cut 32 h0).map sOf).map V.str)) hp2
      generalize e2 : upd (upd H p1 (.lst (((h0 :: rest).map sOf).map V.str))) p2 (.lst (((cut 32 h0).map sOf).map V.str)) = H2 at s2
      have g1 : H2 p1 = some (.lst (((h0 :: rest).map sOf).map V.str)) := s2 _ _ upd_same
      have g2 : H2 p2 = some (.lst (((cut 32 h0).map sOf).map V.str)) := by rw [← e2]; exact upd_same
      have s02 : Same H H2 := s1.trans s2
      -- behind size = ..
      have rest' : ∀ (o : Option Int) (H3 : Hp), Same H2 H3 → headOf h0 = o → ∀ D : Ends, D.rt = Q → ∀ σ : L2.St, σ = [some (.str (sOf l)), some (.ref p1), some (.ref p2), some (oV o), none, none] →
          tSeq (tIfS (tOr (tTest (tOp (fun x y H Q => y = .non ∧ Q (.bl (decide (x = .non))) H) (tVar 3) (tC .non))) (tTest (tOp rNe (tOp (rIxL K) (tVar 1) (tUn (rU fun i => .int (-i)) (tC (.int 1)))) (tC (.str (Str.ofString "")))))) (tRet (tC .non)) tNext)
            (tSeq (tAsg (tTup (tCons (tVar 3) (tCons (tCB (fun xs H Q => ∃ p ys, xs = [.ref p] ∧ ((SqL K H p ys ∧ ∀ l, H l = none → Q (.ref l) (upd H l (.tup ys))) ∨ (SqT K H p ys ∧ Q (.ref p) H))) (tCons
              (tLc (iList K (tSl (rSlL K) (tVar 1) (tPart (tC (.int 1))) (tPart (tUn (rU fun i => .int (-i)) (tC (.int 1)))))) (gName 5) tYes (tCall spReadRow [] E0 (tCons (tVar 5) tNil)) [5]) tNil)) tNil))) (gName 4))
            (tRet (tIf (tB (tCall spIsMachine [] E0 (tCons (tVar 4) tNil))) (tVar 4) (tC .non)))) D σ H3 := by
        rintro o H3 s3 ho D rfl σ rfl
        have s03 := s02.trans s3
        rw [ho] at ep
        refine ⟨_, rfl, rfl, _, rfl, ?_⟩
        cases o with
        | none =>
          refine iteT (iteT (q _ _ s03 ?_))
          rw [ep]
          rfl
        | some n =>
          have ep : parse l = if (h0 :: rest).getLast? = some [] then (if fits (some n) (rest.dropLast.map rowOf) = true then some (n, rest.dropLast.map rowOf) else none) else none := ep
          refine iteF ?_
          have hgl : (h0 :: rest).getLast? = some ((h0 :: rest).getLast (List.cons_ne_nil _ _)) := List.getLast?_eq_some_getLast _
          have hxs : ((h0 :: rest).map sOf).map V.str = ((((h0 :: rest).dropLast).map sOf).map V.str) ++ [.str (sOf ((h0 :: rest).getLast (List.cons_ne_nil _ _)))] := by
            conv => lhs; rw [← List.dropLast_concat_getLast (List.cons_ne_nil h0 rest)]
            simp
          refine ⟨_, rfl, 1, rfl, p1, _, -1, .str (sOf ((h0 :: rest).getLast (List.cons_ne_nil _ _))), rfl, rfl, SqL.of (s3 _ _ g1), ?_, rfl, _, rfl, ?_⟩
          · rw [hxs]
            exact atI_last _ _
          by_cases hl0 : (h0 :: rest).getLast (List.cons_ne_nil _ _) = []
          case neg =>
            rw [decide_eq_false (by rw [empty_s, sOf_inj]; exact hl0 : ¬ V.str (sOf ((h0 :: rest).getLast (List.cons_ne_nil _ _))) = V.str (Str.ofString ""))]
            refine iteT (q _ _ s03 ?_)
            rw [ep, hgl, if_neg (fun z => hl0 (Option.some.inj z))]
            rfl
          rw [decide_eq_true (by rw [empty_s, hl0] : V.str (sOf ((h0 :: rest).getLast (List.cons_ne_nil _ _))) = V.str (Str.ofString ""))]
          refine iteF ?_
          rw [hgl, if_pos (by rw [hl0])] at ep
          -- found
          refine ⟨_, rfl, _, rfl, 1, rfl, 1, rfl, -1, rfl, p1, _, rfl, SqL.of (s3 _ _ g1), fun p3 hp3 => ?_⟩
          have e3 : cutV (((h0 :: rest).map sOf).map V.str) (some 1) (some (-1)) = (rest.dropLast.map sOf).map V.str := by
            rw [List.map_cons, List.map_cons, cut_mid]
            simp
          rw [e3]
          have s4 := same_new (o := .lst ((rest.dropLast.map sOf).map V.str)) hp3
          refine ⟨p3, rfl, ⟨_, SqL.of upd_same⟩, fun L hL => ?_⟩
          have hrl : rest.dropLast.length ≤ l.length + 1 := by
            rw [List.length_dropLast]
            rw [List.length_cons] at hcount
            omega
          refine lc_pure (j := 5) (P := fun i y => ((rest.dropLast.map sOf).map V.str)[i]? = some y) (walk_list (K := K) (a := p3) (xs := ((rest.dropLast.map sOf).map V.str))) (fun i y H' => ∃ z, rest.dropLast[i]? = some z ∧ RowAt (.str "wrong") .non H' y (rowOf z)) hL (by rw [List.length_map, List.length_map]; exact small_line (by omega)) (fun H4 s4 => SqL.of (s4 _ _ upd_same)) (fun i y H1 H2 r t => by obtain ⟨z, e1, e2⟩ := r; exact ⟨z, e1, e2.mono t⟩) ?_ ?_
          · intro i y H4 hi s4 hy Kt hK
            rw [List.getElem?_map, List.getElem?_map] at hy
            cases ez : rest.dropLast[i]? with
            | none => rw [ez] at hy; cases hy
            | some z =>
              rw [ez] at hy
              obtain rfl : V.str (sOf z) = y := Option.some.inj hy
              have hzl := hlen z (List.mem_cons_of_mem _ ((List.dropLast_sublist rest).subset (List.mem_of_getElem? ez)))
              exact ⟨_, rfl, z, rfl, by omega, fun v H5 s5 hv => hK _ _ s5 ⟨z, ez, hv⟩⟩
          · intro ys H4 s5 hL' hly hy
            have a2 : All2 (RowAt (.str "wrong") .non H4) ys (rest.dropLast.map rowOf) := all2_of rowOf (by rw [hly, List.length_map, List.length_map]) hy
            refine ⟨L, ys, rfl, .inl ⟨SqL.of hL', fun pT hT => ?_⟩⟩
            refine ⟨(by decide : 2 ≤ sizeLine), fun pF hF => ?_⟩
            have s6 : Same H4 (upd H4 pT (.tup ys)) := same_new hT
            have s7 := same_new (o := .tup [oV (some n), .ref pT]) hF
            have s07 := s03.trans (s4.trans (s5.trans (s6.trans s7)))
            have hfd : FoundAt (.str "wrong") .non (upd (upd H4 pT (.tup ys)) pF (.tup [oV (some n), .ref pT])) (.ref pF) (some n) (rest.dropLast.map rowOf) :=
              ⟨pF, pT, ys, rfl, upd_same, s7 _ _ upd_same, a2.imp fun _ _ z => z.mono (TupS.same (s6.trans s7))⟩
            have hsm : Small (rest.dropLast.map rowOf) := small_read hz hrl fun p hp => hlen p (List.mem_cons_of_mem _ ((List.dropLast_sublist rest).subset hp))
            refine ⟨_, rfl, "wrong", .non, .ref pF, n, rest.dropLast.map rowOf, rfl, .inl rfl, hfd, hsm, fun H8 s8 => ⟨_, rfl, ?_⟩⟩
            cases hfit : fits (some n) (rest.dropLast.map rowOf) with
            | false =>
              rw [hfit, if_neg Bool.false_ne_true] at ep
              refine iteF (q _ _ (s07.trans s8) ?_)
              rw [ep]
              rfl
            | true =>
              rw [hfit, if_pos rfl] at ep
              refine iteT ⟨_, rfl, q _ _ (s07.trans s8) ?_⟩
              rw [ep]
              exact hfd.mono (TupS.same s8)
      have eh : headOf h0 = match cut 32 h0 with
        | [a, w] => if a = sizeL then numOf w else none
        | _ => none := rfl
      refine ⟨_, rfl, p2, _, rfl, .inl (SqL.of g2), rfl, _, rfl, ?_⟩
      rw [List.length_map, List.length_map]
      by_cases hl2 : (cut 32 h0).length = 2
      case neg =>
        rw [decide_eq_false (by intro z; have := V.int.inj z; omega : ¬ V.int (((cut 32 h0).length : Nat) : Int) = V.int 2)]
        refine iteF (iteF (rest' none _ (Same.refl _) ?_ _ rfl _ rfl))
        rw [eh]
        split
        · rename_i a w e
          rw [e] at hl2
          exact absurd rfl hl2
        · rfl
      rw [decide_eq_true (by rw [hl2]; rfl : V.int (((cut 32 h0).length : Nat) : Int) = V.int 2)]
      refine iteT ?_
      obtain ⟨a, w2, e3⟩ : ∃ a w2, cut 32 h0 = [a, w2] := by
        match cut 32 h0, hl2 with
        | [a, w2], _ => exact ⟨a, w2, rfl⟩
      rw [e3] at g2 hlen2
      have eh : headOf h0 = if a = sizeL then numOf w2 else none := by rw [eh, e3]
      refine ⟨_, rfl, p2, _, 0, .str (sOf a), rfl, rfl, SqL.of g2, rfl, rfl, _, rfl, ?_⟩
      by_cases hs : a = sizeL
      case neg =>
        rw [decide_eq_false (by rw [sizew_s, sOf_inj]; exact hs : ¬ V.str (sOf a) = V.str (Str.ofString "size"))]
        refine iteF (rest' none _ (Same.refl _) ?_ _ rfl _ rfl)
        rw [eh, if_neg hs]
      rw [decide_eq_true (by rw [sizew_s, hs] : V.str (sOf a) = V.str (Str.ofString "size"))]
      refine iteT ⟨_, rfl, p2, _, 1, .str (sOf w2), rfl, rfl, SqL.of g2, rfl, w2, rfl, ?_, fun H3 s3 => ?_⟩
      · have := hlen2 w2 (List.mem_cons_of_mem _ (List.mem_cons_self ..))
        exact small_line (by omega)
      · exact rest' (numOf w2) _ s3 (by rw [eh, if_pos hs]) _ rfl _ rfl
end
end Kl
namespace Kl
open PySem PySem.Spec PyProof.Rows L2 TL
section
variable {X : Cx}
/-- str of a whole number or of None -/
def strO : Option Int → Str
  | none => Str.ofString "None"
  | some i => Str.ofString (toString i)
theorem call_strO : CallR X (.type "str") (fun xs H Q => ∃ o, xs = [oV o] ∧ (∀ i, o = some i → i.natAbs.log2 < 1920) ∧ Q (.str (strO o)) H) := by
  intro pins s σ H xs us Q I r h
  obtain ⟨o, rfl, hz, q⟩ := h
  obtain ⟨u, rfl, hu⟩ := vals1 r
  cases o with
  | none =>
    cases (show u = Value.none from hu)
    exact PySem.P.str_of_none ⟨.str _, H, I.tok _, ⟨_, rfl⟩, q⟩
  | some i =>
    obtain ⟨t, rfl⟩ := (show ∃ t, u = Value.int i t from hu)
    exact PySem.P.str_of_int (hz i rfl) ⟨.str _, H, I.tok _, ⟨_, rfl⟩, q⟩
end
section
variable {P : Program} {w : World} {K : PySem.W.Frag} {mg : Str → Option Value} {base : Heap}
/-! ### the law's own checks -/
abbrev sLIsInt : Stmt := top 37
abbrev sLLong : Stmt := top 38
abbrev sLStepFits : Stmt := top 39
abbrev sLRowFits : Stmt := top 40
abbrev sLMachineFits : Stmt := top 41
theorem scLIsInt : FnScope ["_law_thing", "_law_least", "_law_most"] ["_law_thing", "_law_least", "_law_most"] (defScope sLIsInt) := ⟨rfl, rfl, rfl, by decide +kernel, rfl, by decide +kernel, by decide +kernel⟩
theorem scLLong : FnScope ["_law_thing", "_law_many"] ["_law_thing", "_law_many"] (defScope sLLong) := ⟨rfl, rfl, rfl, by decide +kernel, rfl, by decide +kernel, by decide +kernel⟩
theorem scLStepFits : FnScope ["_law_thing", "_law_states"] ["_law_thing", "_law_states"] (defScope sLStepFits) := ⟨rfl, rfl, rfl, by decide +kernel, rfl, by decide +kernel, by decide +kernel⟩
theorem scLRowFits : FnScope ["_law_thing", "_law_size", "_law_states", "_law_step_here"] ["_law_thing", "_law_size", "_law_states"] (defScope sLRowFits) := ⟨rfl, rfl, rfl, by decide +kernel, rfl, by decide +kernel, by decide +kernel⟩
theorem scLMachineFits : FnScope ["_law_thing", "_law_states", "_law_row"] ["_law_thing"] (defScope sLMachineFits) := ⟨rfl, rfl, rfl, by decide +kernel, rfl, by decide +kernel, by decide +kernel⟩
def inO (lo hi : Int) : Option Int → Bool
  | none => false
  | some i => decide (lo ≤ i) && decide (i ≤ hi)
def spLIsInt : Sp := fun vs H Q _ => ∃ (o : Option Int) (lo hi : Int), vs = [oV o, .int lo, .int hi] ∧ Q (.bl (inO lo hi o)) H
theorem ok_lIsInt (D : Def K mg "_law_is_int" sLIsInt ["_law_thing", "_law_least", "_law_most"]) (G : Gb mg) : Callee P w K mg base 1 "_law_is_int" ["_law_thing", "_law_least", "_law_most"] spLIsInt := by
  refine D.ok scLIsInt (fun vs H Q E h => ?_) (fun f cdv A outer s H vs Q E hr h => ?_)
  · obtain ⟨o, lo, hi, rfl, _⟩ := h
    rfl
  · obtain ⟨o, lo, hi, rfl, q⟩ := h
    refine ⟨_, pss_one (ps_ret (pe_and (pe_isi (T := "int") G.isi G.tint (pv 0) (by rfl) (by rfl) (by decide +kernel)) (pe_and (pe_not (pe_isi (T := "bool") G.isi G.tbool (pv 0) (by rfl) (by rfl) (by decide +kernel)))
      (pe_and (pe_cmpR op_le (pv 1) (pv 0) (nomark _)) (pe_one (pe_cmpR op_le (pv 0) (pv 2) (nomark _))))))), ?_⟩
    cases o with
    | none => exact ⟨_, rfl, _, _, _, _, false, rfl, .ty "int", .base .non, kit_ty (by decide +kernel), false, rfl, iteF q⟩
    | some i =>
      refine ⟨_, rfl, _, _, _, _, true, rfl, .ty "int", .base (.int i), kit_ty (by decide +kernel), true, rfl, iteT ?_⟩
      refine ⟨_, rfl, _, _, _, _, false, rfl, .ty "bool", .base (.int i), kit_ty (by decide +kernel), false, rfl, true, rfl, iteT ?_⟩
      refine ⟨_, rfl, _, rfl, lo, i, rfl, rfl, _, rfl, ?_⟩
      have q : Q (.bl (decide (lo ≤ i) && decide (i ≤ hi))) H := q
      cases h : decide (lo ≤ i) with
      | false => rw [h] at q; exact iteF q
      | true => rw [h] at q; exact iteT ⟨_, rfl, _, rfl, i, hi, rfl, rfl, q⟩
theorem ok_lLong (D : Def K mg "_law_long" sLLong ["_law_thing", "_law_many"]) (G : Gb mg) : Callee P w K mg base 1 "_law_long" ["_law_thing", "_law_many"] spIsTupleOf := by
  refine D.ok scLLong (fun vs H Q E h => ?_) (fun f cdv A outer s H vs Q E hr h => ?_)
  · obtain ⟨v, n, rfl, _⟩ := h
    rfl
  · obtain ⟨v, n, rfl, q⟩ := h
    refine ⟨_, pss_one (ps_ret (pe_and (pe_isi (T := "tuple") G.isi G.ttup (pv 0) (by rfl) (by rfl) (by decide +kernel)) (pe_one (pe_cmpR op_eq (pe_callB call_len_seq (by rfl) G.len PySem.boot_len (pa_cons (pv 0) pa_nil)) (pv 1) (nomark _))))), ?_⟩
    rcases q with ⟨hv, q⟩ | ⟨p, xs, rfl, hp, q⟩
    · obtain ⟨t, h1, h2⟩ := hv.ty (K := K) (H := H)
      exact ⟨_, rfl, _, _, _, _, false, rfl, .ty "tuple", h1, h2, false, rfl, iteF q⟩
    · refine ⟨_, rfl, _, _, _, _, true, rfl, .ty "tuple", .base (.tup hp), kit_ty (by decide +kernel), true, rfl, iteT ?_⟩
      refine ⟨_, rfl, p, xs, rfl, .inr (SqT.of hp), _, rfl, rfl, ?_⟩
      have e : decide (V.int (xs.length : Int) = V.int n) = decide ((xs.length : Int) = n) := by simp
      rw [e]
      exact q
theorem ok_lStepFits (D : Def K mg "_law_step_fits" sLStepFits ["_law_thing", "_law_states"]) (C1 : Callee P w K mg base 1 "_law_long" ["_law_thing", "_law_many"] spIsTupleOf) (C2 : Callee P w K mg base 1 "_law_is_int" ["_law_thing", "_law_least", "_law_most"] spLIsInt) :
    Callee P w K mg base 2 "_law_step_fits" ["_law_thing", "_law_states"] spIsStep := by
  refine D.ok scLStepFits (fun vs H Q E h => ?_) (fun f cdv A outer s H vs Q E hr h => ?_)
  · obtain ⟨x, v, s, k, rfl, _⟩ := h
    rfl
  · obtain ⟨x, v, z, k, rfl, hs, q⟩ := h
    refine ⟨_, pss_cons (ps_if (pt_cmpR op_isN (pv 0) pe_non (nomark _)) (pss_one (ps_ret pe_bl)) pss_nil)
      (pss_one (ps_ret (pe_and (pe_cl C1 hr (by rfl) (pa_cons (pv 0) (pa_cons pe_int pa_nil)))
        (pe_and (pe_cl C2 hr (by rfl) (pa_cons (pe_ix ix_tup (pv 0) pe_int (fun _ _ => rfl)) (pa_cons pe_int (pa_cons pe_int pa_nil))))
        (pe_one (pe_cl C2 hr (by rfl) (pa_cons (pe_ix ix_tup (pv 0) pe_int (fun _ _ => rfl)) (pa_cons pe_int (pa_cons (pe_op op_sub (pv 1) pe_int) pa_nil))))))))), ?_⟩
    refine ⟨_, rfl, rfl, _, rfl, ?_⟩
    match z, hs, q with
    | none, hs, q =>
      cases (show v = .str x from hs)
      refine iteF ?_
      exact ⟨_, rfl, .str x, 2, rfl, .inl ⟨.inr ⟨x, rfl⟩, false, rfl, iteF q⟩⟩
    | some none, hs, q =>
      cases (show v = .non from hs)
      exact iteT q
    | some (some (a, b)), hs, q =>
      obtain ⟨p, rfl, hp⟩ := hs
      refine iteF ?_
      refine ⟨_, rfl, .ref p, 2, rfl, .inr ⟨p, _, rfl, hp, true, rfl, iteT ?_⟩⟩
      refine ⟨_, rfl, p, _, 0, .int a, rfl, rfl, SqT.of hp, rfl, some a, 0, 60, rfl, _, rfl, ?_⟩
      have q' : Q (.bl ((decide (0 ≤ a) && decide (a ≤ 60)) && (decide (0 ≤ b) && decide (b ≤ (k : Int) - 1)))) H := q
      have e0 : inO 0 60 (some a) = (decide (0 ≤ a) && decide (a ≤ 60)) := rfl
      rw [e0]
      cases e : (decide (0 ≤ a) && decide (a ≤ 60)) with
      | false => rw [e] at q'; exact iteF q'
      | true =>
        rw [e] at q'
        exact iteT ⟨_, rfl, p, _, 1, .int b, rfl, rfl, SqT.of hp, rfl, _, rfl, (k : Int), 1, rfl, rfl, some b, 0, (k : Int) - 1, rfl, q'⟩
theorem ok_lRowFits (D : Def K mg "_law_row_fits" sLRowFits ["_law_thing", "_law_size", "_law_states"]) (G : Gb mg) (C1 : Callee P w K mg base 1 "_law_long" ["_law_thing", "_law_many"] spIsTupleOf) (C2 : Callee P w K mg base 1 "_law_is_int" ["_law_thing", "_law_least", "_law_most"] spLIsInt)
    (C3 : Callee P w K mg base 2 "_law_step_fits" ["_law_thing", "_law_states"] spIsStep) : Callee P w K mg base 3 "_law_row_fits" ["_law_thing", "_law_size", "_law_states"] spIsRow := by
  refine D.ok scLRowFits (fun vs H Q E h => ?_) (fun f cdv A outer s H vs Q E hr h => ?_)
  · obtain ⟨x, br, v, r, n, k, rfl, _⟩ := h
    rfl
  · obtain ⟨x, br, v, r, n, k, rfl, hbr, hrow, hsz, q⟩ := h
    refine ⟨_, pss_cons (ps_if (PW.pt (pw_or (pt_not (pt_val (pe_cl C1 (hr.mono (by decide)) (by rfl) (pa_cons (pv 0) (pa_cons pe_int pa_nil)))))
        (pw_or1 (pt_not (pt_val (pe_cl C1 (hr.mono (by decide)) (by rfl) (pa_cons (pe_ix ix_tup (pv 0) pe_int (fun _ _ => rfl)) (pa_cons (pv 1) pa_nil)))))))) (pss_one (ps_ret pe_bl)) pss_nil)
      (pss_cons (ps_if (PW.pt (pw_and (pt_cmpR op_notN (pe_ix ix_tup (pv 0) pe_int (fun _ _ => rfl)) pe_non (nomark _))
        (pw_and1 (pt_not (pt_val (pe_cl C2 (hr.mono (by decide)) (by rfl) (pa_cons (pe_ix ix_tup (pv 0) pe_int (fun _ _ => rfl)) (pa_cons pe_int (pa_cons pe_int pa_nil))))))))) (pss_one (ps_ret pe_bl)) pss_nil)
      (pss_one (ps_ret (pe_callB (cr_all rfl) (by rfl) G.all (by decide +kernel) (pa_cons
        (pe_lc (own := [("_law_step_here", 3)]) (g := gName 3) (tt := tYes) rfl scLRowFits.nd (pi_tup (pe_ix ix_tup (pv 0) pe_int (fun _ _ => rfl))) (blkOk_by (N := ["_law_thing", "_law_size", "_law_states", "_law_step_here"]) (sc := defScope sLRowFits) (by decide +kernel))
          (fun _ _ _ _ _ => pg_name (i := 3) scLRowFits.nd rfl (Or.inl rfl)) (fun _ _ _ _ _ => pts_nil) (fun _ _ _ _ _ => pe_cl C3 hr (by rfl) (pa_cons (pv 3) (pa_cons (pv 2) pa_nil)))) pa_nil))))), ?_⟩
    match r, hrow, hsz, q with
    | none, hrow, hsz, q =>
      cases (show v = br from hrow)
      exact ⟨_, rfl, _, 2, rfl, .inl ⟨hbr, false, rfl, iteT (iteT (q H (Same.refl H)))⟩⟩
    | some (e, ss), hrow, hsz, q =>
      obtain ⟨p, u, ws, rfl, hp, hu, ha⟩ := hrow
      have q : ∀ H', Same H H' → Q (.bl (decide ((ss.length : Int) = n) && (endFits e && ss.all (stepFits k)))) H' := q
      refine ⟨_, rfl, .ref p, 2, rfl, .inr ⟨p, _, rfl, hp, true, rfl, iteF ?_⟩⟩
      refine ⟨_, rfl, p, _, 1, .ref u, rfl, rfl, SqT.of hp, rfl, _, rfl, .ref u, n, rfl, .inr ⟨u, ws, rfl, hu, _, rfl, ?_⟩⟩
      rw [← ha.1] at q
      cases e1 : decide ((ws.length : Int) = n) with
      | false => rw [e1] at q; exact iteT (q H (Same.refl H))
      | true =>
        rw [e1] at q
        refine iteF ?_
        refine ⟨_, rfl, p, _, 0, oV e, rfl, rfl, SqT.of hp, rfl, rfl, _, rfl, ?_⟩
        have go : ∀ {D : Ends}, D.rt = Q → (endFits e = true) → ∀ σ : L2.St, σ = [some (.ref p), some (.int n), some (.int (k : Int)), none] →
            (tRet (tCB (rAll K) (tCons (tLc (iTup K (tOp (rIxT K) (tVar 0) (tC (.int 1)))) (gName 3) tYes (tCall spIsStep [] E0 (tCons (tVar 3) (tCons (tVar 2) tNil))) [3]) tNil))) D σ H := by
          rintro D rfl he σ rfl
          rw [he] at q
          refine ⟨_, rfl, p, _, 1, .ref u, rfl, rfl, SqT.of hp, rfl, u, rfl, ⟨ws, SqT.of hu⟩, fun L hL => ?_⟩
          refine lc_pure (j := 3) (P := fun i y => ws[i]? = some y) (walk_tup (K := K) (a := u) (xs := ws)) (fun i y H' => ∃ z, ss[i]? = some z ∧ y = .bl (stepFits k z)) hL (by rw [ha.1]; exact hsz _ _ rfl) (fun H' sm => SqT.of (sm _ _ hu)) (fun i y H1 H2 r _ => r) ?_ ?_
          · intro i y H' hi sm hy Kt hK
            obtain ⟨z, ez, hz⟩ := ha.at hy
            exact ⟨y, rfl, _, rfl, x, y, z, k, rfl, hz.mono (TupS.same sm), hK _ _ (Same.refl _) ⟨z, ez, rfl⟩⟩
          · intro ys H' sm hL' hl hy
            have e2 := bools_of (stepFits k) (by rw [hl, ha.1]) hy
            refine ⟨L, ss.map (stepFits k), rfl, ?_, ?_⟩
            · rw [← e2]
              exact SqL.of hL'
            · rw [all_id]
              exact q H' sm
        cases e with
        | none => exact iteF (iteF (go rfl rfl _ rfl))
        | some j =>
          refine iteT ?_
          refine ⟨_, rfl, p, _, 0, .int j, rfl, rfl, SqT.of hp, rfl, some j, 1, 60, rfl, _, rfl, ?_⟩
          have e0 : inO 1 60 (some j) = (decide (1 ≤ j) && decide (j ≤ 60)) := rfl
          rw [e0]
          cases e3 : (decide (1 ≤ j) && decide (j ≤ 60)) with
          | false =>
            have e4 : endFits (some j) = false := e3
            rw [e4] at q
            exact iteT (q H (Same.refl H))
          | true => exact iteF (go rfl e3 _ rfl)
def spLMachineFits : Sp := fun vs H Q _ => ∃ (x : Str) (br v : V) (sz : Option Int) (rows : List RRow), vs = [v] ∧ NoTup br ∧ FoundAt (.str x) br H v sz rows ∧ Small rows ∧ ∀ H', Same H H' → Q (.bl (fits sz rows)) H'
theorem ok_lMachineFits (D : Def K mg "_law_machine_fits" sLMachineFits ["_law_thing"]) (G : Gb mg) (C1 : Callee P w K mg base 1 "_law_long" ["_law_thing", "_law_many"] spIsTupleOf) (C2 : Callee P w K mg base 1 "_law_is_int" ["_law_thing", "_law_least", "_law_most"] spLIsInt)
    (C3 : Callee P w K mg base 3 "_law_row_fits" ["_law_thing", "_law_size", "_law_states"] spIsRow) : Callee P w K mg base 4 "_law_machine_fits" ["_law_thing"] spLMachineFits := by
  refine D.ok scLMachineFits (fun vs H Q E h => ?_) (fun f cdv A outer s H vs Q E hr h => ?_)
  · obtain ⟨x, br, v, n, rows, rfl, _⟩ := h
    rfl
  · obtain ⟨x, br, v, sz, rows, rfl, hbr, ⟨p, u, ws, rfl, hp, hu, ha⟩, ⟨hz1, hz2⟩, q⟩ := h
    refine ⟨_, pss_cons (ps_if (PW.pt (pw_or (pt_not (pt_val (pe_cl C1 (hr.mono (by decide)) (by rfl) (pa_cons (pv 0) (pa_cons pe_int pa_nil)))))
        (pw_or (pt_not (pt_val (pe_cl C2 (hr.mono (by decide)) (by rfl) (pa_cons (pe_ix ix_tup (pv 0) pe_int (fun _ _ => rfl)) (pa_cons pe_int (pa_cons pe_int pa_nil))))))
        (pw_or1 (pt_not (pt_val (pe_isi (T := "tuple") G.isi G.ttup (pe_ix ix_tup (pv 0) pe_int (fun _ _ => rfl)) (by rfl) (by rfl) (by decide +kernel)))))))) (pss_one (ps_ret pe_bl)) pss_nil)
      (pss_cons (ps_set (i := 1) scLMachineFits.nd rfl (Or.inr rfl) (pe_callB call_len_seq (by rfl) G.len PySem.boot_len (pa_cons (pe_ix ix_tup (pv 0) pe_int (fun _ _ => rfl)) pa_nil)))
      (pss_one (ps_ret (pe_and (pe_cmpR op_le pe_int (pv 1) (nomark _)) (pe_and (pe_cmpR op_le (pv 1) pe_int (nomark _))
        (pe_one (pe_callB (cr_all rfl) (by rfl) G.all (by decide +kernel) (pa_cons
          (pe_lc (own := [("_law_row", 2)]) (g := gName 2) (tt := tYes) (te := tCall spIsRow [] E0 (tCons (tVar 2) (tCons (tOp (rIxT K) (tVar 0) (tC (.int 0))) (tCons (tVar 1) tNil)))) rfl scLMachineFits.nd (pi_tup (pe_ix ix_tup (pv 0) pe_int (fun _ _ => rfl))) (blkOk_by (N := ["_law_thing", "_law_states", "_law_row"]) (sc := defScope sLMachineFits) (by decide +kernel))
            (fun _ _ _ _ _ => pg_name (i := 2) scLMachineFits.nd rfl (Or.inl rfl)) (fun _ _ _ _ _ => pts_nil)
            (fun _ _ _ _ _ => pe_cl C3 hr (by rfl) (pa_cons (pv 2) (pa_cons (pe_ix ix_tup (pv 0) pe_int (fun _ _ => rfl)) (pa_cons (pv 1) pa_nil))))) pa_nil)))))))), ?_⟩
    refine ⟨_, rfl, .ref p, 2, rfl, .inr ⟨p, _, rfl, hp, true, rfl, iteF ?_⟩⟩
    refine ⟨_, rfl, p, _, 0, oV sz, rfl, rfl, SqT.of hp, rfl, sz, 1, 8, rfl, _, rfl, ?_⟩
    cases sz with
    | none => exact iteT (iteT (q H (Same.refl H)))
    | some n =>
    have q : ∀ H', Same H H' → Q (.bl ((decide (1 ≤ n) && decide (n ≤ 8)) && ((decide (1 ≤ rows.length) && decide (rows.length ≤ 30)) && rows.all (rowFits n rows.length)))) H' := q
    have e0 : inO 1 8 (some n) = (decide (1 ≤ n) && decide (n ≤ 8)) := rfl
    rw [e0]
    cases e1 : (decide (1 ≤ n) && decide (n ≤ 8)) with
    | false => rw [e1] at q; exact iteT (iteT (q H (Same.refl H)))
    | true =>
      rw [e1] at q
      refine iteF ?_
      refine ⟨_, rfl, p, _, 1, .ref u, rfl, rfl, SqT.of hp, rfl, _, _, _, _, true, rfl, .ty "tuple", .base (.tup hu), kit_ty (by decide +kernel), true, rfl, iteF ?_⟩
      refine ⟨_, rfl, p, _, 1, .ref u, rfl, rfl, SqT.of hp, rfl, u, ws, rfl, .inr (SqT.of hu), ?_⟩
      rw [ha.1]
      refine ⟨_, rfl, 1, (rows.length : Int), rfl, rfl, _, rfl, ?_⟩
      have f1 : decide ((1 : Int) ≤ (rows.length : Int)) = decide (1 ≤ rows.length) := by
        by_cases h : 1 ≤ rows.length
        · rw [decide_eq_true h, decide_eq_true (by omega)]
        · rw [decide_eq_false h, decide_eq_false (by omega)]
      have f2 : decide ((rows.length : Int) ≤ 30) = decide (rows.length ≤ 30) := by
        by_cases h : rows.length ≤ 30
        · rw [decide_eq_true h, decide_eq_true (by omega)]
        · rw [decide_eq_false h, decide_eq_false (by omega)]
      rw [f1]
      cases e2 : decide (1 ≤ rows.length) with
      | false => rw [e2] at q; exact iteF (q H (Same.refl H))
      | true =>
        rw [e2] at q
        refine iteT ⟨_, rfl, (rows.length : Int), 30, rfl, rfl, _, rfl, ?_⟩
        rw [f2]
        cases e3 : decide (rows.length ≤ 30) with
        | false => rw [e3] at q; exact iteF (q H (Same.refl H))
        | true =>
          rw [e3] at q
          refine iteT ?_
          refine ⟨_, rfl, p, _, 1, .ref u, rfl, rfl, SqT.of hp, rfl, u, rfl, ⟨ws, SqT.of hu⟩, fun L hL => ?_⟩
          refine lc_pure (j := 2) (P := fun i y => ws[i]? = some y) (walk_tup (K := K) (a := u) (xs := ws)) (fun i y H' => ∃ z, rows[i]? = some z ∧ y = .bl (rowFits n rows.length z)) hL (by rw [ha.1]; exact hz1) (fun H' sm => SqT.of (sm _ _ hu)) (fun i y H1 H2 r _ => r) ?_ ?_
          · intro i y H' hi sm hy Kt hK
            obtain ⟨z, ez, hz⟩ := ha.at hy
            refine ⟨y, rfl, _, rfl, p, _, 0, .int n, rfl, rfl, SqT.of (sm _ _ hp), rfl, _, rfl, x, br, y, z, n, rows.length, rfl, hbr, hz.mono (TupS.same sm), hz2 z (List.mem_of_getElem? ez), fun H2 s2 => hK _ _ s2 ⟨z, ez, rfl⟩⟩
          · intro ys H' sm hL' hl hy
            have e2 := bools_of (rowFits n rows.length) (by rw [hl, ha.1]) hy
            refine ⟨L, rows.map (rowFits n rows.length), rfl, ?_, ?_⟩
            · rw [← e2]
              exact SqL.of hL'
            · rw [all_id]
              exact q H' sm
end
end Kl
namespace Kl
open PySem PySem.Spec PyProof.Rows L2 TL
section
variable {P : Program} {w : World} {K : PySem.W.Frag} {mg : Str → Option Value} {base : Heap}
/-! ### the law's own writing -/
abbrev sLStepText : Stmt := top 43
abbrev sLMachineText : Stmt := top 44
theorem scLStepText : FnScope ["_law_step_here"] ["_law_step_here"] (defScope sLStepText) := ⟨rfl, rfl, rfl, by decide +kernel, rfl, by decide +kernel, by decide +kernel⟩
theorem scLMachineText : FnScope ["_law_machine_here", "_law_text", "_law_end_here", "_law_steps", "_law_step_here"] ["_law_machine_here"] (defScope sLMachineText) := ⟨rfl, rfl, rfl, by decide +kernel, rfl, by decide +kernel, by decide +kernel⟩
theorem ok_lStepText (D : Def K mg "_law_step_text" sLStepText ["_law_step_here"]) (G : Gb mg) : Callee P w K mg base 1 "_law_step_text" ["_law_step_here"] spStepText := by
  refine D.ok scLStepText (fun vs H Q E h => ?_) (fun f cdv A outer s H vs Q E hr h => ?_)
  · obtain ⟨bs, v, k, s, rfl, _⟩ := h
    rfl
  · obtain ⟨bs, v, k, z, rfl, hk, hs, hf, q⟩ := h
    refine ⟨_, pss_cons (ps_if (pt_cmpR op_isN (pv 0) pe_non (nomark _)) (pss_one (ps_ret pe_str)) pss_nil) (pss_one (ps_ret
      (pe_op op_add_str (pe_op op_add_str (pe_callTy call_str_int (by rfl) G.tstr (by decide +kernel) (pa_cons (pe_ix ix_tup (pv 0) pe_int (fun _ _ => rfl)) pa_nil)) pe_str)
        (pe_callTy call_str_int (by rfl) G.tstr (by decide +kernel) (pa_cons (pe_ix ix_tup (pv 0) pe_int (fun _ _ => rfl)) pa_nil))))), ?_⟩
    refine ⟨_, rfl, rfl, _, rfl, ?_⟩
    match z, hs, hf, q with
    | none, _, hf, _ => exact absurd hf Bool.false_ne_true
    | some none, hs, hf, q =>
      cases (show v = .non from hs)
      refine iteT ?_
      show Q (.str (Str.ofString "-")) H
      rw [dash_s]
      exact q
    | some (some (a, b)), hs, hf, q =>
      obtain ⟨p, rfl, hp⟩ := hs
      obtain ⟨a0, a1, b0, b1⟩ := step_num hk hf
      have la := intL_len (i := a) (by omega)
      have lb := intL_len (i := b) (by omega)
      refine iteF ?_
      refine ⟨_, rfl, p, _, 0, .int a, rfl, rfl, SqT.of hp, rfl, a, rfl, log_small a0 (by omega), ?_⟩
      rw [strI a0]
      refine ⟨_, _, rfl, rfl, ?_, ?_⟩
      · rw [colon_s, sOf_len, sOf_len]
        refine small_line ?_
        show _ + 1 ≤ _
        omega
      rw [colon_s, sOf_app]
      refine ⟨_, rfl, p, _, 1, .int b, rfl, rfl, SqT.of hp, rfl, b, rfl, log_small b0 (by omega), ?_⟩
      rw [strI b0]
      refine ⟨_, _, rfl, rfl, ?_, ?_⟩
      · rw [sOf_len, sOf_len, List.length_append]
        refine small_line ?_
        show _ + 1 + _ ≤ _
        omega
      rw [sOf_app, List.append_assoc]
      exact q
theorem ok_lMachineText (D : Def K mg "_law_machine_text" sLMachineText ["_law_machine_here"]) (G : Gb mg) (C1 : Callee P w K mg base 1 "_law_step_text" ["_law_step_here"] spStepText) :
    Callee P w K mg base 2 "_law_machine_text" ["_law_machine_here"] spMachineText := by
  refine D.ok scLMachineText (fun vs H Q E h => ?_) (fun f cdv A outer s H vs Q E hr h => ?_)
  · obtain ⟨x, br, v, n, rows, rfl, _⟩ := h
    rfl
  · obtain ⟨x, br, v, n, rows, rfl, hbr, hfd, hz, hfit, q⟩ := h
    obtain ⟨n1, n8, r1, r30, hrow⟩ := fits_of hfit
    obtain ⟨p, u, ws, rfl, hp, hu, ha⟩ := id hfd
    refine ⟨_, pss_cons (ps_set (i := 1) scLMachineText.nd rfl (Or.inl rfl) (pe_op op_add_str (pe_op op_add_str pe_str (pe_callTy call_str_int (by rfl) G.tstr (by decide +kernel) (pa_cons (pe_ix ix_tup (pv 0) pe_int (fun _ _ => rfl)) pa_nil))) pe_str))
      (pss_cons (ps_for PassesOwn.never rfl (pi_tup (pe_ix ix_tup (pv 0) pe_int (fun _ _ => rfl))) (pg_tup rfl (pgs_cons (pg_name (i := 2) scLMachineText.nd rfl (Or.inl rfl)) (pgs_cons (pg_name (i := 3) scLMachineText.nd rfl (Or.inl rfl)) pgs_nil)))
        (pss_cons (ps_set (i := 1) scLMachineText.nd rfl (Or.inl rfl) (pe_op op_add_str (pv 1) (pe_ix ix_list (pe_lst (pa_cons pe_str (pa_cons (pe_callTy call_strO (by rfl) G.tstr (by decide +kernel) (pa_cons (pv 2) pa_nil)) pa_nil)))
            (pe_callTy call_int1 (by rfl) G.tint (by decide +kernel) (pa_cons (pe_cmpR op_notN (pv 2) pe_non (nomark _)) pa_nil)) (fun _ _ => rfl))))
        (pss_cons (ps_for PassesOwn.never rfl (pi_tup (pv 3)) (pg_name (i := 4) scLMachineText.nd rfl (Or.inl rfl))
            (pss_one (ps_set (i := 1) scLMachineText.nd rfl (Or.inl rfl) (pe_op op_add_str (pe_op op_add_str (pv 1) pe_str) (pe_cl C1 hr (by rfl) (pa_cons (pv 4) pa_nil))))))
        (pss_one (ps_set (i := 1) scLMachineText.nd rfl (Or.inl rfl) (pe_op op_add_str (pv 1) pe_str))))))
      (pss_one (ps_ret (pv 1)))), ?_⟩
    -- the head
    have ln := intL_len (i := n) (by omega)
    have lh := headL_len (n := n) (by omega)
    refine ⟨_, rfl, p, _, 0, .int n, rfl, rfl, SqT.of hp, rfl, n, rfl, log_small (by omega) (by omega), ?_⟩
    rw [strI (by omega : (0 : Int) ≤ n)]
    have hh : (Str.ofString "size ") ++ sOf (intL n) = sOf (headL n) := by
      rw [size_s, sOf_app]
      rfl
    refine ⟨_, _, rfl, rfl, ?_, ?_⟩
    · rw [size_s, sOf_len, sOf_len]
      refine small_line ?_
      show 5 + _ ≤ _
      omega
    rw [hh]
    refine ⟨_, _, rfl, rfl, ?_, ?_⟩
    · rw [nl_s, sOf_len, sOf_len]
      refine small_line ?_
      show _ + 1 ≤ _
      omega
    rw [nl_s, sOf_app]
    refine ⟨_, rfl, p, _, 1, .ref u, rfl, rfl, SqT.of hp, rfl, u, rfl, ⟨ws, SqT.of hu⟩, ?_⟩
    refine for_tup (K := K) (a := u) (xs := ws) (fun i σ H' => ∃ y2 y3 y4, σ = [some (.ref p), some (.str (sOf (headL n ++ [10] ++ (rows.take i).flatMap (fun r => rowL r ++ [10])))), y2, y3, y4] ∧ Same H H')
      ⟨none, none, none, by rw [List.take_zero, List.flatMap_nil, List.append_nil]; rfl, Same.refl H⟩ (fun i σ H' _ ⟨_, _, _, _, sm⟩ => SqT.of (sm _ _ hu)) ?_ ?_
    · rintro i y σ H' hy ⟨y2, y3, y4, rfl, sm⟩
      obtain ⟨r, er, hr1⟩ := ha.at hy
      have hri := hrow r (List.mem_of_getElem? er)
      have hi30 : i < rows.length := (List.getElem?_eq_some_iff.mp er).1
      have hacc : ((rows.take i).flatMap (fun r => rowL r ++ [10])).length ≤ 30 * 51 := by
        have b := flat_len (fun r => rowL r ++ [10]) 51 (rows.take i) fun r hr0 => by
          rw [List.length_append]
          have := rowL_len n8 r30 (hrow r (List.mem_of_mem_take hr0))
          show _ + 1 ≤ 51
          omega
        rw [List.length_take] at b
        refine Nat.le_trans b (Nat.mul_le_mul_right 51 ?_)
        omega
      have hacc2 : (headL n ++ [10] ++ (rows.take i).flatMap (fun r => rowL r ++ [10])).length ≤ 2000 := by
        rw [List.length_append, List.length_append]
        show _ + 1 + _ ≤ _
        omega
      generalize eacc : headL n ++ [10] ++ (rows.take i).flatMap (fun r => rowL r ++ [10]) = acc at hacc2
      match r, hr1, hri, er with
      | none, _, hri, _ => exact absurd hri Bool.false_ne_true
      | some (e, ss), hr1, hri, er =>
        obtain ⟨pr, ur, wr, rfl, hpr, hur, har⟩ := hr1
        have hri' : (decide ((ss.length : Int) = n) && (endFits e && ss.all (stepFits rows.length))) = true := hri
        simp only [Bool.and_eq_true, decide_eq_true_eq, List.all_eq_true] at hri'
        obtain ⟨hln, hef, hst⟩ := hri'
        have loe := oL_len hef
        refine ⟨pr, _, rfl, SqT.of (sm _ _ hpr), rfl, _, _, rfl, _, _, rfl, rfl, ?_⟩
        -- text + ['-', str(end)][..]
        have hnum : ∀ j, e = some j → j.natAbs.log2 < 1920 := by
          rintro j rfl
          obtain ⟨j1, j2⟩ := end_num hef
          exact log_small (by omega) (by omega)
        refine ⟨_, rfl, _, rfl, e, rfl, hnum, (by decide : 2 ≤ sizeLine), fun l1 hl1 => ?_⟩
        have s1 : Same H' (upd H' l1 (.lst [.str (Str.ofString "-"), .str (strO e)])) := same_new hl1
        refine ⟨_, rfl, rfl, .inr ⟨_, rfl, l1, _, _, .str (sOf (oL e)), rfl, rfl, SqL.of upd_same, ?_, ?_⟩⟩
        · cases e with
          | none =>
            show some (V.str (Str.ofString "-")) = some (V.str (sOf (oL none)))
            rw [dash_s]
            rfl
          | some j =>
            obtain ⟨j1, j2⟩ := end_num hef
            show some (V.str (Str.ofString (toString j))) = some (V.str (sOf (oL (some j))))
            rw [strI (by omega : (0 : Int) ≤ j)]
            rfl
        refine ⟨_, _, rfl, rfl, ?_, ?_⟩
        · rw [sOf_len, sOf_len]
          exact small_line (by omega)
        rw [sOf_app]
        -- the steps
        refine ⟨_, rfl, ur, rfl, ⟨wr, SqT.of (s1 _ _ (sm _ _ hur))⟩, ?_⟩
        refine for_tup (K := K) (a := ur) (xs := wr) (fun j σ H2 => ∃ y4, σ = [some (.ref p), some (.str (sOf (acc ++ oL e ++ (ss.take j).flatMap (fun s => 32 :: stepL s)))), some (oV e), some (.ref ur), y4] ∧ Same H H2)
          ⟨y4, by rw [List.take_zero, List.flatMap_nil, List.append_nil]; rfl, sm.trans s1⟩ (fun j σ H2 _ ⟨_, _, s2⟩ => SqT.of (s2 _ _ hur)) ?_ ?_
        · rintro j y σ H2 hyj ⟨y4', rfl, s2⟩
          obtain ⟨z, ez, hz4⟩ := har.at hyj
          have hzs := hst z (List.mem_of_getElem? ez)
          have hz5 := stepL_len r30 hzs
          have hj8 : j < ss.length := (List.getElem?_eq_some_iff.mp ez).1
          have hin : ((ss.take j).flatMap (fun s => 32 :: stepL s)).length ≤ 8 * 6 := by
            have b := flat_len (fun s => 32 :: stepL s) 6 (ss.take j) fun s hs0 => by
              rw [List.length_cons]
              have := stepL_len r30 (hst s (List.mem_of_mem_take hs0))
              omega
            rw [List.length_take] at b
            refine Nat.le_trans b (Nat.mul_le_mul_right 6 ?_)
            omega
          refine ⟨_, rfl, _, _, rfl, rfl, ?_, ?_⟩
          · rw [blank_s, sOf_len, sOf_len, List.length_append, List.length_append]
            refine small_line ?_
            show _ + _ + _ + 1 ≤ _
            omega
          rw [blank_s, sOf_app]
          refine ⟨y, rfl, _, y, rows.length, z, rfl, r30, hz4.mono (TupS.same s2), hzs, ?_⟩
          refine ⟨_, _, rfl, rfl, ?_, ?_⟩
          · rw [sOf_len, sOf_len, List.length_append, List.length_append, List.length_append]
            refine small_line ?_
            show _ + _ + _ + 1 + _ ≤ _
            omega
          rw [sOf_app]
          refine ⟨some y, ?_, s2⟩
          rw [List.take_add_one, ez, List.flatMap_append]
          show [some (V.ref p), some (V.str (sOf (acc ++ oL e ++ (ss.take j).flatMap (fun s => 32 :: stepL s) ++ [32] ++ stepL z))), some (oV e), some (V.ref ur), some y] = _
          simp
        · rintro σ H2 ⟨y4', rfl, s2⟩
          have e0 : ss.take wr.length = ss := by rw [har.1, List.take_length]
          rw [e0]
          have lr := rowL_len n8 r30 hri
          have lr' : (oL e ++ ss.flatMap (fun s => 32 :: stepL s)).length ≤ 50 := lr
          refine ⟨_, rfl, _, _, rfl, rfl, ?_, ?_⟩
          · rw [sOf_len, sOf_len, List.append_assoc, List.length_append]
            refine small_line ?_
            show _ + _ + 1 ≤ _
            omega
          rw [sOf_app]
          refine ⟨some (oV e), some (.ref ur), y4', ?_, s2⟩
          rw [List.take_add_one, er, List.flatMap_append, ← List.append_assoc (headL n ++ [10]), eacc]
          show [some (V.ref p), some (V.str (sOf (acc ++ oL e ++ ss.flatMap (fun s => 32 :: stepL s) ++ [10]))), some (oV e), some (V.ref ur), y4'] = _
          have e6 : acc ++ oL e ++ ss.flatMap (fun s => 32 :: stepL s) ++ [10] = acc ++ (some (some (e, ss))).toList.flatMap (fun r => rowL r ++ [10]) := by
            show _ = acc ++ ([some (e, ss)] : List RRow).flatMap (fun r => rowL r ++ [10])
            rw [List.flatMap_cons, List.flatMap_nil, List.append_nil]
            show _ = acc ++ ((oL e ++ ss.flatMap (fun s => 32 :: stepL s)) ++ [10])
            simp
          rw [e6]
    · rintro σ H' ⟨y2, y3, y4, rfl, sm⟩
      have e0 : rows.take ws.length = rows := by rw [ha.1, List.take_length]
      rw [e0]
      exact ⟨_, rfl, q H' sm⟩
end
end Kl
namespace Kl
open PySem PySem.Spec PyProof.Rows L2 TL
section
variable {P : Program} {w : World} {K : PySem.W.Frag} {mg : Str → Option Value} {base : Heap}
/-! ### the law's own reading -/
abbrev sLDigits : Stmt := top 45
abbrev sLReadStep : Stmt := top 46
abbrev sLReadRow : Stmt := top 47
theorem scLDigits : FnScope ["_law_word", "_law_sign"] ["_law_word"] (defScope sLDigits) := ⟨rfl, rfl, rfl, by decide +kernel, rfl, by decide +kernel, by decide +kernel⟩
theorem scLReadStep : FnScope ["_law_word", "_law_parts", "_law_numbers"] ["_law_word"] (defScope sLReadStep) := ⟨rfl, rfl, rfl, by decide +kernel, rfl, by decide +kernel, by decide +kernel⟩
theorem scLReadRow : FnScope ["_law_line", "_law_words", "_law_end_here", "_law_word"] ["_law_line"] (defScope sLReadRow) := ⟨rfl, rfl, rfl, by decide +kernel, rfl, by decide +kernel, by decide +kernel⟩
theorem ok_lDigits (D : Def K mg "_law_digits" sLDigits ["_law_word"]) (G : Gb mg) : Callee P w K mg base 1 "_law_digits" ["_law_word"] spNumberOf := by
  refine D.ok scLDigits (fun vs H Q E h => ?_) (fun f cdv A outer s H vs Q E hr h => ?_)
  · obtain ⟨l, rfl, _⟩ := h
    rfl
  · obtain ⟨l, rfl, hz, q⟩ := h
    refine ⟨_, pss_cons (ps_if (PW.pt (pw_or (pt_cmpR op_eq (pe_callB call_len_str (by rfl) G.len PySem.boot_len (pa_cons (pv 0) pa_nil)) pe_int (nomark _)) (pw_or1 (pt_cmpR op_gt (pe_callB call_len_str (by rfl) G.len PySem.boot_len (pa_cons (pv 0) pa_nil)) pe_int (nomark _)))))
        (pss_one (ps_ret pe_non)) pss_nil)
      (pss_cons (ps_if (PW.pt (pw_or (pt_not (pt_val (pe_callB (cr_all rfl) (by rfl) G.all (by decide +kernel) (pa_cons
          (pe_lc (own := [("_law_sign", 1)]) (g := gName 1) (tt := tYes) rfl scLDigits.nd (pi_str (pv 0)) (blkOk_by (N := ["_law_word", "_law_sign"]) (sc := defScope sLDigits) (by decide +kernel))
            (fun _ _ _ _ _ => pg_name (i := 1) scLDigits.nd rfl (Or.inl rfl)) (fun _ _ _ _ _ => pts_nil) (fun _ _ _ _ _ => pe_cmpR op_in_sign (pv 1) pe_str (by rfl))) pa_nil))))
          (pw_or1 (pt_cmpR op_ne (pe_callTy call_str_int (by rfl) G.tstr (by decide +kernel) (pa_cons (pe_callTy call_int_str (by rfl) G.tint (by decide +kernel) (pa_cons (pv 0) pa_nil)) pa_nil)) (pv 0) (nomark _)))))
        (pss_one (ps_ret pe_non)) pss_nil)
      (pss_one (ps_ret (pe_callTy call_int_str (by rfl) G.tint (by decide +kernel) (pa_cons (pv 0) pa_nil))))), ?_⟩
    have hzl : (sOf l).length ≤ sizeLine := by rw [sOf_len]; exact hz
    refine ⟨_, rfl, sOf l, rfl, hzl, rfl, _, rfl, ?_⟩
    rw [sOf_len]
    by_cases h1 : 1 ≤ l.length
    case neg =>
      rw [decide_eq_true (by rw [show l.length = 0 by omega]; rfl : V.int ((l.length : Nat) : Int) = V.int 0)]
      refine iteT (iteT ?_)
      have e : l = [] := List.length_eq_zero_iff.mp (by omega)
      subst e
      exact q H (Same.refl H)
    rw [decide_eq_false (by intro z; have := V.int.inj z; omega : ¬ V.int ((l.length : Nat) : Int) = V.int 0)]
    refine iteF ⟨_, rfl, sOf l, rfl, hzl, _, _, rfl, rfl, _, rfl, ?_⟩
    rw [sOf_len]
    by_cases h2 : l.length ≤ 2
    case neg =>
      rw [decide_eq_true (by omega : (2 : Int) < (l.length : Int))]
      refine iteT ?_
      have e : numOf l = none := by
        match l, h2 with
        | [], h2 => exact absurd (by decide : 0 ≤ 2) h2
        | [_], h2 => exact absurd (by show 1 ≤ 2; decide) h2
        | [_, _], h2 => exact absurd (by show 2 ≤ 2; decide) h2
        | _ :: _ :: _ :: _, _ => rfl
      rw [e] at q
      exact q H (Same.refl H)
    rw [decide_eq_false (by omega : ¬ (2 : Int) < (l.length : Int))]
    refine iteF ⟨_, rfl, sOf l, rfl, fun L hL => ?_⟩
    refine lc_pure (j := 1) (P := fun i v => ∃ c, (sOf l).cps[i]? = some c ∧ v = .str ⟨#[c]⟩) (walk_str (z := sOf l)) (fun i y H' => ∃ z, l[i]? = some z ∧ y = .bl (isD z)) hL (by show (l.toArray).size ≤ _; rw [List.size_toArray]; exact hz) (fun _ _ => trivial) (fun i y H1 H2 r _ => r) ?_ ?_
    · rintro i y H' hi sm ⟨c, hc, rfl⟩ Kt hK
      have hc' : l[i]? = some c := by
        rw [← hc]
        show l[i]? = (l.toArray)[i]?
        rw [List.getElem?_toArray]
      refine ⟨_, rfl, c, _, rfl, rfl, ?_⟩
      rw [isD_mem]
      exact hK _ _ (Same.refl _) ⟨c, hc', rfl⟩
    · intro ys H' sm hL' hl hy
      have hl' : ys.length = l.length := by
        rw [hl]
        show (l.toArray).size = _
        rw [List.size_toArray]
      have e2 := bools_of isD hl' hy
      refine ⟨L, l.map isD, rfl, ?_, ?_⟩
      · rw [← e2]
        exact SqL.of hL'
      rw [all_id]
      refine ⟨_, rfl, ?_⟩
      match l, h1, h2, q with
      | [a], _, _, q =>
        cases ha : isD a with
        | false =>
          have e : numOf [a] = none := by
            show (if isD a then _ else _) = _
            rw [ha]
            rfl
          rw [e] at q
          have e3 : [a].all isD = false := by simp [ha]
          rw [e3]
          exact iteT (iteT (q H' sm))
        | true =>
          have e : numOf [a] = some ((a : Int) - 48) := by
            show (if isD a then _ else _) = _
            rw [ha]
            rfl
          have hw := num_write e
          rw [e] at q
          have e3 : [a].all isD = true := by simp [ha]
          rw [e3]
          refine iteF ?_
          refine ⟨_, rfl, sOf [a], _, rfl, int1 ha, by rw [sOf_len]; exact (by decide : 1 ≤ 640), _, rfl, log_small hw.1 (by omega), _, rfl, rfl, _, rfl, ?_⟩
          rw [strI hw.1, decide_eq_true (by show V.str (sOf (numL _)) = _; rw [hw.2.2] : V.str (sOf (intL ((a : Int) - 48))) = V.str (sOf [a]))]
          exact iteF ⟨_, rfl, sOf [a], _, rfl, int1 ha, by rw [sOf_len]; exact (by decide : 1 ≤ 640), q H' sm⟩
      | [a, b], _, _, q =>
        have e5 : numOf [a, b] = if isD a && isD b && decide (a ≠ 48) then some (((a : Int) - 48) * 10 + ((b : Int) - 48)) else none := rfl
        cases hab : (isD a && isD b) with
        | false =>
          rw [e5, hab] at q
          have e3 : [a, b].all isD = false := by
            show (isD a && (isD b && true)) = false
            rw [Bool.and_true, hab]
          rw [e3]
          exact iteT (iteT (q H' sm))
        | true =>
          have e3 : [a, b].all isD = true := by
            show (isD a && (isD b && true)) = true
            rw [Bool.and_true, hab]
          rw [e3]
          have hab' : isD a = true ∧ isD b = true := by simpa using hab
          have ha9 := isD_iff.mp hab'.1
          have hb9 := isD_iff.mp hab'.2
          refine iteF ?_
          refine ⟨_, rfl, sOf [a, b], _, rfl, int2 hab'.1 hab'.2, by rw [sOf_len]; exact (by decide : 2 ≤ 640), _, rfl, log_small (by omega) (by omega), _, rfl, rfl, _, rfl, ?_⟩
          rw [strI (by omega)]
          by_cases h0 : a = 48
          · subst h0
            have e6 : intL ((((48 : Nat) : Int) - 48) * 10 + ((b : Int) - 48)) = [b] := by
              show numL ((((48 : Nat) : Int) - 48) * 10 + ((b : Int) - 48)).toNat = [b]
              have e7 : ((((48 : Nat) : Int) - 48) * 10 + ((b : Int) - 48)).toNat = b - 48 := by omega
              rw [e7, numL_lt (by omega), show 48 + (b - 48) = b by omega]
            rw [e6, decide_eq_false (by rw [sOf_inj]; simp : ¬ V.str (sOf [b]) = V.str (sOf [48, b]))]
            rw [e5, hab] at q
            exact iteT (q H' sm)
          · have e : numOf [a, b] = some (((a : Int) - 48) * 10 + ((b : Int) - 48)) := by
              rw [e5, hab]
              simp [h0]
            have hw := num_write e
            rw [e] at q
            rw [decide_eq_true (by show V.str (sOf (numL _)) = _; rw [hw.2.2] : V.str (sOf (intL (((a : Int) - 48) * 10 + ((b : Int) - 48)))) = V.str (sOf [a, b]))]
            exact iteF ⟨_, rfl, sOf [a, b], _, rfl, int2 hab'.1 hab'.2, by rw [sOf_len]; exact (by decide : 2 ≤ 640), q H' sm⟩
def spLReadStep : Sp := fun vs H Q _ => ∃ l : List Nat, vs = [.str (sOf l)] ∧ l.length ≤ 1000000 ∧ ∀ v H', Same H H' → StepAt (.str "none") H' v (stepOf l) → Q v H'
theorem ok_lReadStep (D : Def K mg "_law_read_step" sLReadStep ["_law_word"]) (G : Gb mg) (C1 : Callee P w K mg base 1 "_law_digits" ["_law_word"] spNumberOf) : Callee P w K mg base 2 "_law_read_step" ["_law_word"] spLReadStep := by
  refine D.ok scLReadStep (fun vs H Q E h => ?_) (fun f cdv A outer s H vs Q E hr h => ?_)
  · obtain ⟨l, rfl, _⟩ := h
    rfl
  · obtain ⟨l, rfl, hz, q⟩ := h
    refine ⟨_, pss_cons (ps_if (pt_cmpR op_eq (pv 0) pe_str (nomark _)) (pss_one (ps_ret pe_non)) pss_nil)
      (pss_cons (ps_set (i := 1) scLReadStep.nd rfl (Or.inl rfl) (pe_split (pv 0) pe_str))
      (pss_cons (ps_if (pt_cmpR op_ne (pe_callB call_len_seq (by rfl) G.len PySem.boot_len (pa_cons (pv 1) pa_nil)) pe_int (nomark _)) (pss_one (ps_ret pe_str)) pss_nil)
      (pss_cons (ps_set (i := 2) scLReadStep.nd rfl (Or.inl rfl) (pe_tup (pa_cons (pe_cl C1 hr (by rfl) (pa_cons (pe_ix ix_list (pv 1) pe_int (fun _ _ => rfl)) pa_nil)) (pa_cons (pe_cl C1 hr (by rfl) (pa_cons (pe_ix ix_list (pv 1) pe_int (fun _ _ => rfl)) pa_nil)) pa_nil))))
      (pss_one (ps_ret (pe_ix ix_list (pe_lst (pa_cons (pv 2) (pa_cons pe_str pa_nil)))
        (pe_callTy call_int1 (by rfl) G.tint (by decide +kernel) (pa_cons (pe_or (pe_cmpR op_isN (pe_ix ix_tup (pv 2) pe_int (fun _ _ => rfl)) pe_non (nomark _)) (pe_one (pe_cmpR op_isN (pe_ix ix_tup (pv 2) pe_int (fun _ _ => rfl)) pe_non (nomark _)))) pa_nil)) (fun _ _ => rfl))))))), ?_⟩
    refine ⟨_, rfl, rfl, _, rfl, ?_⟩
    by_cases h0 : l = [45]
    · subst h0
      rw [decide_eq_true (by rw [dash_s] : V.str (sOf [45]) = V.str (Str.ofString "-"))]
      exact iteT (q _ H (Same.refl H) (by show V.non = V.non; rfl))
    rw [decide_eq_false (by rw [dash_s, sOf_inj]; exact h0 : ¬ V.str (sOf l) = V.str (Str.ofString "-"))]
    refine iteF ?_
    refine ⟨_, rfl, ⟨_, rfl⟩, sOf l, _, rfl, rfl, by rw [colon_s]; rfl, by rw [sOf_len]; exact small_line (by omega), fun pS hS => ?_⟩
    rw [colon_s, split_cut l 58 (by decide)]
    have hcount : (cut 58 l).length ≤ l.length + 1 := spl_count 58 l []
    have hlen := fun p (hp : p ∈ cut 58 l) => cut_len hp
    have sS : Same H (upd H pS (.lst (((cut 58 l).map sOf).map V.str))) := same_new hS
    have est : stepOf l = match cut 58 l with
        | [p, q] => (match numOf p, numOf q with
          | some a, some b => some (some (a, b))
          | _, _ => none)
        | _ => none := by
      exact if_neg h0
    refine ⟨_, rfl, pS, _, rfl, .inl (SqL.of upd_same), rfl, _, rfl, ?_⟩
    rw [List.length_map, List.length_map]
    by_cases h2 : (cut 58 l).length = 2
    case neg =>
      rw [decide_eq_false (by intro z; have := V.int.inj z; omega : ¬ V.int (((cut 58 l).length : Nat) : Int) = V.int 2)]
      refine iteT (q _ _ sS ?_)
      have e : stepOf l = none := by
        rw [est]
        split
        · rename_i p r ec
          rw [ec] at h2
          exact absurd rfl h2
        · rfl
      rw [e]
      rfl
    rw [decide_eq_true (by rw [h2]; rfl : V.int (((cut 58 l).length : Nat) : Int) = V.int 2)]
    refine iteF ?_
    obtain ⟨c1, c2, ec⟩ : ∃ c1 c2, cut 58 l = [c1, c2] := by
      match cut 58 l, h2 with
      | [c1, c2], _ => exact ⟨c1, c2, rfl⟩
    have est2 : stepOf l = match numOf c1, numOf c2 with
        | some a, some b => some (some (a, b))
        | _, _ => none := by
      rw [est, ec]
    rw [ec] at hlen sS ⊢
    have l1 := hlen c1 (List.mem_cons_self ..)
    have l2 := hlen c2 (List.mem_cons_of_mem _ (List.mem_cons_self ..))
    refine ⟨_, rfl, pS, _, 0, .str (sOf c1), rfl, rfl, SqL.of upd_same, rfl, c1, rfl, small_line (by omega), fun H1 s1 => ?_⟩
    refine ⟨_, rfl, pS, _, 1, .str (sOf c2), rfl, rfl, SqL.of (s1 _ _ upd_same), rfl, c2, rfl, small_line (by omega), fun H2 s2 => ?_⟩
    refine ⟨(by decide : 2 ≤ sizeLine), fun pT hT => ?_⟩
    have s3 : Same H2 (upd H2 pT (.tup [oV (numOf c1), oV (numOf c2)])) := same_new hT
    refine ⟨_, rfl, (by decide : 2 ≤ sizeLine), fun pL hpL => ?_⟩
    have s4 := same_new (o := .lst [.ref pT, .str (Str.ofString "none")]) hpL
    have gT := s4 _ _ upd_same
    have gL : upd (upd H2 pT (.tup [oV (numOf c1), oV (numOf c2)])) pL (.lst [.ref pT, .str (Str.ofString "none")]) pL = some (.lst [.ref pT, .str (Str.ofString "none")]) := upd_same
    have sAll := sS.trans (s1.trans (s2.trans (s3.trans s4)))
    refine ⟨_, rfl, pT, _, 0, oV (numOf c1), rfl, rfl, SqT.of gT, rfl, rfl, _, rfl, ?_⟩
    cases n1 : numOf c1 with
    | none =>
      refine iteT (.inr ⟨true, rfl, pL, _, 1, .str (Str.ofString "none"), rfl, rfl, SqL.of (by rw [← n1]; exact gL), rfl, q _ _ (by rw [← n1]; exact sAll) ?_⟩)
      rw [est2, n1]
      rfl
    | some a1 =>
      rw [n1] at gT gL sAll
      refine iteF ⟨_, rfl, pT, _, 1, oV (numOf c2), rfl, rfl, SqT.of gT, rfl, rfl, .inr ⟨_, rfl, ?_⟩⟩
      cases n2 : numOf c2 with
      | none =>
        refine ⟨pL, _, 1, .str (Str.ofString "none"), rfl, rfl, SqL.of (by rw [← n2]; exact gL), rfl, q _ _ (by rw [← n2]; exact sAll) ?_⟩
        rw [est2, n1, n2]
        rfl
      | some a2 =>
        rw [n2] at gT gL sAll
        refine ⟨pL, _, 0, .ref pT, rfl, rfl, SqL.of gL, rfl, q _ _ sAll ?_⟩
        rw [est2, n1, n2]
        exact ⟨pT, rfl, gT⟩
end
end Kl
namespace Kl
open PySem PySem.Spec PyProof.Rows L2 TL
section
variable {P : Program} {w : World} {K : PySem.W.Frag} {mg : Str → Option Value} {base : Heap}
def spLReadRow : Sp := fun vs H Q _ => ∃ l : List Nat, vs = [.str (sOf l)] ∧ l.length ≤ 1000000 ∧ ∀ v H', Same H H' → RowAt (.str "none") (.str "none") H' v (rowOf l) → Q v H'
theorem num_dash : numOf [45] = none := rfl
theorem ok_lReadRow (D : Def K mg "_law_read_row" sLReadRow ["_law_line"]) (G : Gb mg) (C1 : Callee P w K mg base 1 "_law_digits" ["_law_word"] spNumberOf) (C2 : Callee P w K mg base 2 "_law_read_step" ["_law_word"] spLReadStep) : Callee P w K mg base 3 "_law_read_row" ["_law_line"] spLReadRow := by
  refine D.ok scLReadRow (fun vs H Q E h => ?_) (fun f cdv A outer s H vs Q E hr h => ?_)
  · obtain ⟨l, rfl, _⟩ := h
    rfl
  · obtain ⟨l, rfl, hz, q⟩ := h
    refine ⟨_, pss_cons (ps_set (i := 1) scLReadRow.nd rfl (Or.inl rfl) (pe_split (pv 0) pe_str))
      (pss_cons (ps_set (i := 2) scLReadRow.nd rfl (Or.inl rfl) (pe_cl C1 (hr.mono (by decide)) (by rfl) (pa_cons (pe_ix ix_list (pv 1) pe_int (fun _ _ => rfl)) pa_nil)))
      (pss_cons (ps_if (PW.pt (pw_and (pt_cmpR op_isN (pv 2) pe_non (nomark _)) (pw_and1 (pt_cmpR op_ne (pe_ix ix_list (pv 1) pe_int (fun _ _ => rfl)) pe_str (nomark _))))) (pss_one (ps_ret pe_str)) pss_nil)
      (pss_one (ps_ret (pe_tup (pa_cons (pv 2) (pa_cons (pe_callTy call_tuple_of (by rfl) G.ttup (by decide +kernel) (pa_cons
        (pe_lc (own := [("_law_word", 3)]) (g := gName 3) (tt := tYes) rfl scLReadRow.nd (pi_list (pe_slice sl_list (pv 1) (po_some pe_int) po_none)) (blkOk_by (N := ["_law_line", "_law_words", "_law_end_here", "_law_word"]) (sc := defScope sLReadRow) (by decide +kernel))
          (fun _ _ _ _ _ => pg_name (i := 3) scLReadRow.nd rfl (Or.inl rfl)) (fun _ _ _ _ _ => pts_nil) (fun _ _ _ _ _ => pe_cl C2 hr (by rfl) (pa_cons (pv 3) pa_nil))) pa_nil)) pa_nil))))))), ?_⟩
    have hcount : (cut 32 l).length ≤ l.length + 1 := spl_count 32 l []
    refine ⟨_, rfl, ⟨_, rfl⟩, sOf l, _, rfl, rfl, by rw [blank_s]; rfl, ?_, fun pS hS => ?_⟩
    · rw [sOf_len]
      exact small_line (by omega)
    rw [blank_s, split_cut l 32 (by decide)]
    have hlen := fun p (hp : p ∈ cut 32 l) => cut_len hp
    have er : rowOf l = match cut 32 l with
        | w :: ws => (endOf w).map fun e => (e, ws.map stepOf)
        | [] => none := rfl
    cases ec : cut 32 l with
    | nil => exact absurd ec (spl_ne 32 l [])
    | cons w0 ws =>
      rw [ec] at hcount hlen er
      have er : rowOf l = (endOf w0).map fun e => (e, ws.map stepOf) := er
      have sS : Same H (upd H pS (.lst (((w0 :: ws).map sOf).map V.str))) := same_new hS
      have hw0 := hlen w0 (List.mem_cons_self ..)
      refine ⟨_, rfl, pS, _, 0, .str (sOf w0), rfl, rfl, SqL.of upd_same, atI_nat (j := 0) rfl, w0, rfl, small_line (by omega), fun H2 s2' => ?_⟩
      have s2 := sS.trans s2'
      have h2 := s2' _ _ (upd_same (H := H) (a := pS) (o := .lst (((w0 :: ws).map sOf).map V.str)))
      refine ⟨_, rfl, rfl, _, rfl, ?_⟩
      have go : endOf w0 = some (numOf w0) → (tRet (tTup (tCons (tVar 2) (tCons (tCB (fun xs H Q => ∃ p ys, xs = [.ref p] ∧ ((SqL K H p ys ∧ ∀ l, H l = none → Q (.ref l) (upd H l (.tup ys))) ∨ (SqT K H p ys ∧ Q (.ref p) H))) (tCons
              (tLc (iList K (tSl (rSlL K) (tVar 1) (tPart (tC (.int 1))) tNoPart)) (gName 3) tYes (tCall spLReadStep [] E0 (tCons (tVar 3) tNil)) [3]) tNil)) tNil)))) { nx := fun _ H' => Q .non H', rt := Q } [some (.str (sOf l)), some (.ref pS), some (oV (numOf w0)), none] H2 := by
        intro he
        rw [he] at er
        have er : rowOf l = some (numOf w0, ws.map stepOf) := er
        refine ⟨_, rfl, _, rfl, 1, rfl, pS, _, rfl, SqL.of h2, fun p3 hp3 => ?_⟩
        have e3 : cutV (((w0 :: ws).map sOf).map V.str) (some 1) none = (ws.map sOf).map V.str := by
          rw [cut_from1]
          rfl
        rw [e3]
        have s3 : Same H2 (upd H2 p3 (.lst ((ws.map sOf).map V.str))) := same_new hp3
        refine ⟨p3, rfl, ⟨_, SqL.of upd_same⟩, fun L hL => ?_⟩
        rw [List.length_cons] at hcount
        refine lc_pure (j := 3) (P := fun i y => ((ws.map sOf).map V.str)[i]? = some y) (walk_list (K := K) (a := p3) (xs := ((ws.map sOf).map V.str))) (fun i y H' => ∃ z, ws[i]? = some z ∧ StepAt (.str "none") H' y (stepOf z)) hL (by rw [List.length_map, List.length_map]; exact small_line (by omega)) (fun H4 s4 => SqL.of (s4 _ _ upd_same)) (fun i y H1 H2 r t => by obtain ⟨z, e1, e2⟩ := r; exact ⟨z, e1, e2.mono t⟩) ?_ ?_
        · intro i y H4 hi s4 hy Kt hK
          rw [List.getElem?_map, List.getElem?_map] at hy
          cases ez : ws[i]? with
          | none => rw [ez] at hy; cases hy
          | some z =>
            rw [ez] at hy
            obtain rfl : V.str (sOf z) = y := Option.some.inj hy
            have hzl := hlen z (List.mem_cons_of_mem _ (List.mem_of_getElem? ez))
            exact ⟨_, rfl, z, rfl, by omega, fun v H5 s5 hv => hK _ _ s5 ⟨z, ez, hv⟩⟩
        · intro ys H4 s4 hL' hly hy
          have a2 : All2 (StepAt (.str "none") H4) ys (ws.map stepOf) := all2_of stepOf (by rw [hly, List.length_map, List.length_map]) hy
          refine ⟨L, ys, rfl, .inl ⟨SqL.of hL', fun pT hT => ?_⟩⟩
          refine ⟨(by decide : 2 ≤ sizeLine), fun pR hR => ?_⟩
          have s5 : Same H4 (upd H4 pT (.tup ys)) := same_new hT
          have s6 := same_new (o := .tup [oV (numOf w0), .ref pT]) hR
          refine q _ _ (s2.trans (s3.trans (s4.trans (s5.trans s6)))) ?_
          rw [er]
          exact ⟨pR, pT, ys, rfl, upd_same, s6 _ _ upd_same, a2.imp fun _ _ z => z.mono (TupS.same (s5.trans s6))⟩
      have ee : ¬ w0 = [45] → endOf w0 = (numOf w0).map some := fun h45 => by
        unfold endOf
        rw [if_neg h45]
      cases hn : numOf w0 with
      | some j =>
        rw [hn] at go ee
        refine iteF (iteF (go ?_))
        refine ee ?_
        rintro rfl
        rw [num_dash] at hn
        cases hn
      | none =>
        rw [hn] at go ee
        refine iteT ?_
        refine ⟨_, rfl, pS, _, 0, .str (sOf w0), rfl, rfl, SqL.of h2, atI_nat (j := 0) rfl, rfl, _, rfl, ?_⟩
        by_cases h45 : w0 = [45]
        · subst h45
          rw [decide_eq_true (by rw [dash_s] : V.str (sOf [45]) = V.str (Str.ofString "-"))]
          exact iteF (go rfl)
        · rw [decide_eq_false (by rw [dash_s, sOf_inj]; exact h45 : ¬ V.str (sOf w0) = V.str (Str.ofString "-"))]
          refine iteT (q _ _ s2 ?_)
          rw [er, ee h45]
          rfl
end
end Kl
namespace Kl
open PySem PySem.Spec PyProof.Rows L2 TL
theorem cutS_last (l : List Nat) : cutS (sOf l) (some (-1)) none = sOf (l.drop (l.length - 1)) := by
  unfold cutS
  have e : (sOf l).length = l.length := sOf_len l
  rw [HT.sIx_none, sIx_m1, e]
  show (⟨(((l.drop (l.length - 1)).take (l.length - (l.length - 1)))).toArray⟩ : Str) = _
  rw [List.take_of_length_le (by rw [List.length_drop]; exact Nat.le_refl _)]
theorem drop_last_iff (l : List Nat) (c : Nat) : l.drop (l.length - 1) = [c] ↔ l.getLast? = some c := by
  cases h : l.reverse with
  | nil =>
    have e : l = [] := by simpa using h
    subst e
    simp
  | cons x r =>
    have e : l = r.reverse ++ [x] := by
      have := congrArg List.reverse h
      simpa using this
    subst e
    simp
theorem parse_nolast {l : List Nat} (h : ¬ l.getLast? = some 10) : parse l = none := by
  cases ec : cut 10 l with
  | nil => exact absurd ec (spl_ne 10 l [])
  | cons h0 rest =>
    rw [parse_of ec]
    cases eh : headOf h0 with
    | none => rfl
    | some n =>
      show (if (h0 :: rest).getLast? = some [] then _ else none) = none
      refine if_neg fun hl => ?_
      rw [← ec] at hl
      rcases (spl_last_iff 10 l []).mp hl with ⟨e, _⟩ | e
      · subst e
        rw [show cut 10 [] = [[]] from rfl] at ec
        cases ec
        cases eh
      · exact h e
section
variable {P : Program} {w : World} {K : PySem.W.Frag} {mg : Str → Option Value} {base : Heap}
abbrev sLRead : Stmt := top 48
theorem scLRead : FnScope ["_law_text", "_law_lines", "_law_words", "_law_found", "_law_line"] ["_law_text"] (defScope sLRead) := ⟨rfl, rfl, rfl, by decide +kernel, rfl, by decide +kernel, by decide +kernel⟩
def spLRead : Sp := fun vs H Q _ => ∃ v, vs = [v] ∧ ((∃ t, TyX K H v t ∧ PySem.W.kitOne K t (.type "str") = some false ∧ Q .non H) ∨
  ∃ l : List Nat, v = .str (sOf l) ∧ l.length ≤ 100000 ∧ ∀ u H', Same H H' → ToldAt (.str "none") (.str "none") H' u (parse l) → Q u H')
theorem ok_lRead (D : Def K mg "_law_read" sLRead ["_law_text"]) (G : Gb mg) (C1 : Callee P w K mg base 1 "_law_digits" ["_law_word"] spNumberOf) (C2 : Callee P w K mg base 3 "_law_read_row" ["_law_line"] spLReadRow)
    (C3 : Callee P w K mg base 4 "_law_machine_fits" ["_law_thing"] spLMachineFits) (C4 : Callee P w K mg base 2 "_law_machine_text" ["_law_machine_here"] spMachineText) :
    Callee P w K mg base 5 "_law_read" ["_law_text"] (spLRead (K := K)) := by
  refine D.ok scLRead (fun vs H Q E h => ?_) (fun f cdv A outer s H vs Q E hr h => ?_)
  · obtain ⟨v, rfl, _⟩ := h
    rfl
  · obtain ⟨v, rfl, hv⟩ := h
    refine ⟨_, pss_cons (ps_if (PW.pt (pw_or (pt_not (pt_val (pe_isi (T := "str") G.isi G.tstr (pv 0) (by rfl) (by rfl) (by decide +kernel)))) (pw_or1 (pt_cmpR op_ne (pe_slice sl_str (pv 0) (po_some (pe_un un_neg pe_int)) po_none) pe_str (nomark _))))) (pss_one (ps_ret pe_non)) pss_nil)
      (pss_cons (ps_set (i := 1) scLRead.nd rfl (Or.inl rfl) (pe_slice sl_list (pe_split (pv 0) pe_str) po_none (po_some (pe_un un_neg pe_int))))
      (pss_cons (ps_set (i := 2) scLRead.nd rfl (Or.inl rfl) (pe_split (pe_ix ix_list (pv 1) pe_int (fun _ _ => rfl)) pe_str))
      (pss_cons (ps_if (PW.pt (pw_or (pt_cmpR op_ne (pe_callB call_len_seq (by rfl) G.len PySem.boot_len (pa_cons (pv 2) pa_nil)) pe_int (nomark _)) (pw_or1 (pt_cmpR op_ne (pe_ix ix_list (pv 2) pe_int (fun _ _ => rfl)) pe_str (nomark _))))) (pss_one (ps_ret pe_non)) pss_nil)
      (pss_cons (ps_set (i := 3) scLRead.nd rfl (Or.inl rfl) (pe_tup (pa_cons (pe_cl C1 (hr.mono (by decide)) (by rfl) (pa_cons (pe_ix ix_list (pv 2) pe_int (fun _ _ => rfl)) pa_nil)) (pa_cons (pe_callTy call_tuple_of (by rfl) G.ttup (by decide +kernel) (pa_cons
        (pe_lc (own := [("_law_line", 4)]) (g := gName 4) (tt := tYes) rfl scLRead.nd (pi_list (pe_slice sl_list (pv 1) (po_some pe_int) po_none)) (blkOk_by (N := ["_law_text", "_law_lines", "_law_words", "_law_found", "_law_line"]) (sc := defScope sLRead) (by decide +kernel))
          (fun _ _ _ _ _ => pg_name (i := 4) scLRead.nd rfl (Or.inl rfl)) (fun _ _ _ _ _ => pts_nil) (fun _ _ _ _ _ => pe_cl C2 (hr.mono (by decide)) (by rfl) (pa_cons (pv 4) pa_nil))) pa_nil)) pa_nil))))
      (pss_cons (ps_if (PW.pt (pw_or (pt_not (pt_val (pe_cl C3 hr (by rfl) (pa_cons (pv 3) pa_nil)))) (pw_or1 (pt_cmpR op_ne (pe_cl C4 (hr.mono (by decide)) (by rfl) (pa_cons (pv 3) pa_nil)) (pv 0) (nomark _))))) (pss_one (ps_ret pe_non)) pss_nil)
      (pss_one (ps_ret (pv 3)))))))), ?_⟩
    rcases hv with ⟨t, h1, h2, q⟩ | ⟨l, rfl, hz, q⟩
    · exact ⟨_, rfl, _, _, _, _, false, rfl, .ty "str", h1, h2, false, rfl, iteT (iteT q)⟩
    have hzl : (sOf l).length ≤ sizeLine := by rw [sOf_len]; exact small_line (by omega)
    refine ⟨_, rfl, _, _, _, _, true, rfl, .ty "str", .base (.str _), kit_ty (by decide +kernel), true, rfl, iteF ?_⟩
    refine ⟨_, rfl, 1, rfl, -1, rfl, _, rfl, hzl, ?_⟩
    rw [cutS_last]
    refine ⟨rfl, _, rfl, ?_⟩
    by_cases hlast : l.getLast? = some 10
    case neg =>
      rw [decide_eq_false (by rw [nl_s, sOf_inj, drop_last_iff]; exact hlast : ¬ V.str (sOf (l.drop (l.length - 1))) = V.str (Str.ofString "\n"))]
      refine iteT (q _ _ (Same.refl H) ?_)
      rw [parse_nolast hlast]
      rfl
    rw [decide_eq_true (by rw [nl_s, sOf_inj, drop_last_iff]; exact hlast : V.str (sOf (l.drop (l.length - 1))) = V.str (Str.ofString "\n"))]
    refine iteF ?_
    -- lines
    have hcount : (cut 10 l).length ≤ l.length + 1 := spl_count 10 l []
    have htwo : 2 ≤ (cut 10 l).length := spl_two 10 l [] hlast
    have hlen := fun p (hp : p ∈ cut 10 l) => cut_len hp
    have hgl : (cut 10 l).getLast? = some [] := (spl_last_iff 10 l []).mpr (.inr hlast)
    refine ⟨_, rfl, ⟨_, rfl⟩, sOf l, _, rfl, rfl, by rw [nl_s]; rfl, by rw [sOf_len]; exact small_line (by omega), fun p0 hp0 => ?_⟩
    rw [nl_s, split_cut l 10 (by decide)]
    cases ec : cut 10 l with
    | nil => exact absurd ec (spl_ne 10 l [])
    | cons h0 rest =>
      rw [ec] at hcount hlen hgl htwo
      have ep := parse_of ec
      have hh0 := hlen h0 (List.mem_cons_self ..)
      have hrest : rest ≠ [] := by
        rintro rfl
        exact absurd htwo (by show ¬ 2 ≤ 1; decide)
      have s0 : Same H (upd H p0 (.lst (((h0 :: rest).map sOf).map V.str))) := same_new hp0
      refine ⟨1, rfl, -1, rfl, p0, _, rfl, SqL.of upd_same, fun p1 hp1 => ?_⟩
      have e1 : cutV (((h0 :: rest).map sOf).map V.str) none (some (-1)) = ((h0 :: rest.dropLast).map sOf).map V.str := by
        rw [cut_upto]
        cases rest with
        | nil => exact absurd rfl hrest
        | cons x y =>
          simp
      rw [e1]
      have s1' := same_new (o := .lst (((h0 :: rest.dropLast).map sOf).map V.str)) hp1
      have g1' : upd (upd H p0 (.lst (((h0 :: rest).map sOf).map V.str))) p1 (.lst (((h0 :: rest.dropLast).map sOf).map V.str)) p1 = some (.lst (((h0 :: rest.dropLast).map sOf).map V.str)) := upd_same
      have s1 := s0.trans s1'
      generalize upd (upd H p0 (.lst (((h0 :: rest).map sOf).map V.str))) p1 (.lst (((h0 :: rest.dropLast).map sOf).map V.str)) = H1 at s1 g1' s1'
      -- words
      have hcount2 : (cut 32 h0).length ≤ h0.length + 1 := spl_count 32 h0 []
      have hlen2 := fun p (hp : p ∈ cut 32 h0) => cut_len hp
      refine ⟨_, rfl, p1, _, 0, .str (sOf h0), rfl, rfl, SqL.of g1', atI_nat (j := 0) rfl, ⟨_, rfl⟩, sOf h0, _, rfl, rfl, by rw [blank_s]; rfl, by rw [sOf_len]; exact small_line (by omega), fun p2 hp2 => ?_⟩
      rw [blank_s, split_cut h0 32 (by decide)]
      have s2 := same_new (o := .lst (((cut 32 h0).map sOf).map V.str)) hp2
      have g2 : upd H1 p2 (.lst (((cut 32 h0).map sOf).map V.str)) p2 = some (.lst (((cut 32 h0).map sOf).map V.str)) := upd_same
      have g1 := s2 _ _ g1'
      have s02 := s1.trans s2
      generalize upd H1 p2 (.lst (((cut 32 h0).map sOf).map V.str)) = H2 at s2 g2 g1 s02
      have eh : headOf h0 = match cut 32 h0 with
        | [a, w] => if a = sizeL then numOf w else none
        | _ => none := rfl
      rw [hgl] at ep
      refine ⟨_, rfl, p2, _, rfl, .inl (SqL.of g2), rfl, _, rfl, ?_⟩
      rw [List.length_map, List.length_map]
      by_cases hl2 : (cut 32 h0).length = 2
      case neg =>
        rw [decide_eq_false (by intro z; have := V.int.inj z; omega : ¬ V.int (((cut 32 h0).length : Nat) : Int) = V.int 2)]
        refine iteT (iteT (q _ _ s02 ?_))
        have e5 : headOf h0 = none := by
          rw [eh]
          split
          · rename_i a w e
            rw [e] at hl2
            exact absurd rfl hl2
          · rfl
        rw [ep, e5]
        rfl
      rw [decide_eq_true (by rw [hl2]; rfl : V.int (((cut 32 h0).length : Nat) : Int) = V.int 2)]
      refine iteF ?_
      obtain ⟨a, w2, e3⟩ : ∃ a w2, cut 32 h0 = [a, w2] := by
        match cut 32 h0, hl2 with
        | [a, w2], _ => exact ⟨a, w2, rfl⟩
      rw [e3] at g2 hlen2
      have eh : headOf h0 = if a = sizeL then numOf w2 else none := by rw [eh, e3]
      refine ⟨_, rfl, p2, _, 0, .str (sOf a), rfl, rfl, SqL.of g2, rfl, rfl, _, rfl, ?_⟩
      by_cases hs : a = sizeL
      case neg =>
        rw [decide_eq_false (by rw [sizew_s, sOf_inj]; exact hs : ¬ V.str (sOf a) = V.str (Str.ofString "size"))]
        refine iteT (q _ _ s02 ?_)
        rw [ep, eh, if_neg hs]
        rfl
      rw [decide_eq_true (by rw [sizew_s, hs] : V.str (sOf a) = V.str (Str.ofString "size"))]
      rw [if_pos hs] at eh
      refine iteF ⟨_, rfl, p2, _, 1, .str (sOf w2), rfl, rfl, SqL.of g2, rfl, w2, rfl, ?_, fun H3 s3 => ?_⟩
      · have := hlen2 w2 (List.mem_cons_of_mem _ (List.mem_cons_self ..))
        exact small_line (by omega)
      -- found
      have s03 := s02.trans s3
      refine ⟨_, rfl, 1, rfl, p1, _, rfl, SqL.of (s3 _ _ g1), fun p3 hp3 => ?_⟩
      have e4 : cutV (((h0 :: rest.dropLast).map sOf).map V.str) (some 1) none = (rest.dropLast.map sOf).map V.str := by
        rw [cut_from1]
        rfl
      rw [e4]
      have s4 := same_new (o := .lst ((rest.dropLast.map sOf).map V.str)) hp3
      refine ⟨p3, rfl, ⟨_, SqL.of upd_same⟩, fun L hL => ?_⟩
      have hrl : rest.dropLast.length ≤ l.length + 1 := by
        rw [List.length_dropLast]
        rw [List.length_cons] at hcount
        omega
      refine lc_pure (j := 4) (P := fun i y => ((rest.dropLast.map sOf).map V.str)[i]? = some y) (walk_list (K := K) (a := p3) (xs := ((rest.dropLast.map sOf).map V.str))) (fun i y H' => ∃ z, rest.dropLast[i]? = some z ∧ RowAt (.str "none") (.str "none") H' y (rowOf z)) hL (by rw [List.length_map, List.length_map]; exact small_line (by omega)) (fun H4 s4 => SqL.of (s4 _ _ upd_same)) (fun i y H1 H2 r t => by obtain ⟨z, e1, e2⟩ := r; exact ⟨z, e1, e2.mono t⟩) ?_ ?_
      · intro i y H4 hi s4 hy Kt hK
        rw [List.getElem?_map, List.getElem?_map] at hy
        cases ez : rest.dropLast[i]? with
        | none => rw [ez] at hy; cases hy
        | some z =>
          rw [ez] at hy
          obtain rfl : V.str (sOf z) = y := Option.some.inj hy
          have hzl := hlen z (List.mem_cons_of_mem _ ((List.dropLast_sublist rest).subset (List.mem_of_getElem? ez)))
          exact ⟨_, rfl, z, rfl, by omega, fun v H5 s5 hv => hK _ _ s5 ⟨z, ez, hv⟩⟩
      · intro ys H4 s5 hL' hly hy
        have a2 : All2 (RowAt (.str "none") (.str "none") H4) ys (rest.dropLast.map rowOf) := all2_of rowOf (by rw [hly, List.length_map, List.length_map]) hy
        refine ⟨L, ys, rfl, .inl ⟨SqL.of hL', fun pT hT => ?_⟩⟩
        refine ⟨(by decide : 2 ≤ sizeLine), fun pF hF => ?_⟩
        have s6 : Same H4 (upd H4 pT (.tup ys)) := same_new hT
        have s7 := same_new (o := .tup [oV (numOf w2), .ref pT]) hF
        have s07 := s03.trans (s4.trans (s5.trans (s6.trans s7)))
        have hfd : FoundAt (.str "none") (.str "none") (upd (upd H4 pT (.tup ys)) pF (.tup [oV (numOf w2), .ref pT])) (.ref pF) (numOf w2) (rest.dropLast.map rowOf) :=
          ⟨pF, pT, ys, rfl, upd_same, s7 _ _ upd_same, a2.imp fun _ _ z => z.mono (TupS.same (s6.trans s7))⟩
        have hsm : Small (rest.dropLast.map rowOf) := small_read hz hrl fun p hp => hlen p (List.mem_cons_of_mem _ ((List.dropLast_sublist rest).subset hp))
        refine ⟨_, rfl, "none", .str "none", .ref pF, _, _, rfl, .inr ⟨_, rfl⟩, hfd, hsm, fun H8 s8 => ⟨_, rfl, ?_⟩⟩
        rw [eh] at ep
        cases hn : numOf w2 with
        | none =>
          rw [hn] at ep
          refine iteT (iteT (q _ _ (s07.trans s8) ?_))
          rw [ep]
          rfl
        | some n =>
          rw [hn] at ep hfd s07 s8
          have ep : parse l = if fits (some n) (rest.dropLast.map rowOf) = true then some (n, rest.dropLast.map rowOf) else none := ep
          cases hfit : fits (some n) (rest.dropLast.map rowOf) with
          | false =>
            rw [hfit, if_neg Bool.false_ne_true] at ep
            refine iteT (iteT (q _ _ (s07.trans s8) ?_))
            rw [ep]
            rfl
          | true =>
            rw [hfit, if_pos rfl] at ep
            refine iteF ?_
            refine ⟨_, rfl, "none", .str "none", .ref pF, n, _, rfl, .inr ⟨_, rfl⟩, hfd.mono (TupS.same s8), hsm, hfit, fun H9 s9 => ?_⟩
            rw [(parse_write ep).1]
            refine ⟨_, rfl, rfl, _, rfl, ?_⟩
            rw [decide_eq_true (rfl : V.str (sOf l) = V.str (sOf l))]
            refine iteF ⟨_, rfl, q _ _ ((s07.trans s8).trans s9) ?_⟩
            rw [ep]
            exact hfd.mono (TupS.same (s8.trans s9))
end
end Kl
namespace Kl
open PySem PySem.Spec PyProof.Rows L2
/-- behind an if: what both ways come to -/
theorem join_if {c : TT} {t u : TS} {D : Ends} {σ : L2.St} {H : Hp} (J : L2.St → Hp → Prop) (rest : ∀ σ2 H2, J σ2 H2 → D.nx σ2 H2) (h : (∀ σ2 H2, J σ2 H2 → D.nx σ2 H2) → tIfS c t u D σ H) : tIfS c t u D σ H := h rest
section
variable {P : Program} {w : World} {K : PySem.W.Frag} {mg : Str → Option Value} {base : Heap}
/-! ### the law's draws -/
abbrev sMixed : Stmt := top 28
abbrev sWell : Stmt := top 29
abbrev sFilled : Stmt := top 30
abbrev sDraw : Stmt := top 31
theorem scMixed : FnScope ["_law_number"] ["_law_number"] (defScope sMixed) := ⟨rfl, rfl, rfl, by decide +kernel, rfl, by decide +kernel, by decide +kernel⟩
theorem scWell : FnScope ["_law_script", "_law_cell"] ["_law_script"] (defScope sWell) := ⟨rfl, rfl, rfl, by decide +kernel, rfl, by decide +kernel, by decide +kernel⟩
theorem scFilled : FnScope ["_law_well_here", "_law_cell"] ["_law_well_here"] (defScope sFilled) := ⟨rfl, rfl, rfl, by decide +kernel, rfl, by decide +kernel, by decide +kernel⟩
theorem scDraw : FnScope ["_law_well_here", "_law_many", "_law_told"] ["_law_well_here", "_law_many"] (defScope sDraw) := ⟨rfl, rfl, rfl, by decide +kernel, rfl, by decide +kernel, by decide +kernel⟩
def spMixed : Sp := fun vs H Q _ => ∃ i : Int, vs = [.int i] ∧ ∀ j : Int, Q (.int j) H
theorem mod_bound (i : Int) {m : Int} (h : 0 < m) : 0 ≤ i % m ∧ i % m < m := ⟨Int.emod_nonneg _ (by omega), Int.emod_lt_of_pos _ h⟩
theorem ok_mixed (D : Def K mg "_law_mixed" sMixed ["_law_number"]) (G : Gb mg) : Callee P w K mg base 1 "_law_mixed" ["_law_number"] spMixed := by
  refine D.ok scMixed (fun vs H Q E h => ?_) (fun f cdv A outer s H vs Q E hr h => ?_)
  · obtain ⟨i, rfl, _⟩ := h
    rfl
  · obtain ⟨i, rfl, q⟩ := h
    refine ⟨_, pss_cons (ps_set (i := 0) scMixed.nd rfl (Or.inl rfl) (pe_op op_mod (pe_callTy call_int1 (by rfl) G.tint (by decide +kernel) (pa_cons (pe_op op_add (pe_op op_mul (pv 0) pe_int) pe_int) pa_nil)) pe_int))
      (pss_cons (ps_set (i := 0) scMixed.nd rfl (Or.inl rfl) (pe_op op_mod (pe_callTy call_int1 (by rfl) G.tint (by decide +kernel) (pa_cons (pe_op op_add (pe_op op_mul (pv 0) (pe_op op_add (pe_op op_fdiv (pv 0) pe_int) pe_int)) pe_int) pa_nil)) pe_int))
      (pss_one (ps_ret (pe_op op_add (pe_op op_mul (pv 0) pe_int) (pe_op op_mod (pe_callTy call_int1 (by rfl) G.tint (by decide +kernel) (pa_cons (pe_op op_add (pe_op op_mul (pv 0) (pe_op op_add (pe_op op_fdiv (pv 0) pe_int) pe_int)) pe_int) pa_nil)) pe_int))))), ?_⟩
    refine ⟨_, rfl, _, _, rfl, rfl, .inr ⟨by decide, by decide⟩, _, _, rfl, rfl, .inl ⟨_, rfl, _, _, rfl, rfl, by show (0 : Int) < _; decide, ?_⟩⟩
    dsimp only
    obtain ⟨b0, b1⟩ := mod_bound (i * 48271 + 11) (m := 2147483647) (by decide)
    generalize (i * 48271 + 11) % 2147483647 = n at b0 b1
    refine ⟨_, rfl, _, rfl, _, _, rfl, rfl, ⟨by decide, by decide⟩, _, _, rfl, rfl, _, _, rfl, rfl, .inl ⟨by omega, by omega⟩, _, _, rfl, rfl, .inl ⟨_, rfl, _, _, rfl, rfl, by show (0 : Int) < _; decide, ?_⟩⟩
    dsimp only
    obtain ⟨c0, c1⟩ := mod_bound (n * (n / 1009 + 69621) + 7919) (m := 2147483647) (by decide)
    generalize (n * (n / 1009 + 69621) + 7919) % 2147483647 = k at c0 c1
    refine ⟨_, rfl, _, _, rfl, rfl, .inl ⟨by omega, by omega⟩, ?_⟩
    exact ⟨_, rfl, _, rfl, _, _, rfl, rfl, ⟨by decide, by decide⟩, _, _, rfl, rfl, _, _, rfl, rfl, .inl ⟨by omega, by omega⟩, _, _, rfl, rfl, .inl ⟨_, rfl, _, _, rfl, rfl, by show (0 : Int) < _; decide, _, _, rfl, rfl, q _⟩⟩
def spWell (K : PySem.W.Frag) : Sp := fun vs H Q _ => ∃ (a : Addr) (ns : List Int), vs = [.ref a] ∧ SqL K H a (ns.map V.int) ∧ ns.length ≤ 63 ∧ ∀ (W L : Addr) (ms : List Int) (H' : Hp), Same H H' → Well L ms H' W → Q (.ref W) H'
theorem ok_well (D : Def K mg "_law_well" sWell ["_law_script"]) (G : Gb mg) : Callee P w K mg base 1 "_law_well" ["_law_script"] (spWell K) := by
  refine D.ok scWell (fun vs H Q E h => ?_) (fun f cdv A outer s H vs Q E hr h => ?_)
  · obtain ⟨a, ns, rfl, _⟩ := h
    rfl
  · obtain ⟨a, ns, rfl, hS, hl63, q⟩ := h
    refine ⟨_, pss_one (ps_ret (pe_lst (pa_cons
      (pe_lc (own := [("_law_cell", 1)]) (g := gName 1) (tt := tYes) rfl scWell.nd (pi_list (pe_slice sl_list (pv 0) po_none (po_some pe_int))) (blkOk_by (N := ["_law_script", "_law_cell"]) (sc := defScope sWell) (by decide +kernel))
        (fun _ _ _ _ _ => pg_name (i := 1) scWell.nd rfl (Or.inl rfl)) (fun _ _ _ _ _ => pts_nil) (fun _ _ _ _ _ => pe_callTy call_int1 (by rfl) G.tint (by decide +kernel) (pa_cons (pv 1) pa_nil)))
      (pa_cons pe_int (pa_cons pe_int (pa_cons pe_int pa_nil)))))), ?_⟩
    refine ⟨_, rfl, 63, rfl, a, _, rfl, hS, fun p1 hp1 => ?_⟩
    have e1 : cutV (ns.map V.int) none (some 63) = ((ns.drop (HT.sIx (ns.map V.int).length 0 none)).take (HT.sIx (ns.map V.int).length (ns.map V.int).length (some 63) - HT.sIx (ns.map V.int).length 0 none)).map V.int := by
      unfold cutV
      rw [List.map_take, List.map_drop]
    rw [e1]
    generalize em : (ns.drop (HT.sIx (ns.map V.int).length 0 none)).take (HT.sIx (ns.map V.int).length (ns.map V.int).length (some 63) - HT.sIx (ns.map V.int).length 0 none) = ms
    have hml : ms.length ≤ 63 := by
      rw [← em, List.length_take, List.length_drop]
      omega
    have s1 : Same H (upd H p1 (.lst (ms.map V.int))) := same_new hp1
    refine ⟨p1, rfl, ⟨_, SqL.of upd_same⟩, fun L hL => ?_⟩
    refine lc_pure (j := 1) (P := fun i y => (ms.map V.int)[i]? = some y) (walk_list (K := K) (a := p1) (xs := ms.map V.int)) (fun i y H' => (ms.map V.int)[i]? = some y) hL (by rw [List.length_map]; exact Nat.le_trans hml (by decide)) (fun H3 s3 => SqL.of (s3 _ _ upd_same)) (fun i y H1 H2 r _ => r) ?_ ?_
    · intro i y H3 hi s3 hy Kt hK
      have hy' := hy
      rw [List.getElem?_map] at hy
      cases ez : ms[i]? with
      | none => rw [ez] at hy; cases hy
      | some z =>
        rw [ez] at hy
        obtain rfl : V.int z = y := Option.some.inj hy
        exact ⟨_, rfl, .inl ⟨z, rfl, hK _ _ (Same.refl _) hy'⟩⟩
    · intro ys H3 s3 hL3 hly hy
      have e2 : ys = ms.map V.int := by
        refine List.ext_getElem? fun i => ?_
        by_cases hi : i < ys.length
        · rw [hy i _ (List.getElem?_eq_getElem hi), List.getElem?_eq_getElem hi]
        · rw [List.getElem?_eq_none (by omega), List.getElem?_eq_none (by omega)]
      rw [e2] at hL3
      refine ⟨(by decide : 4 ≤ sizeLine), fun W hW => ?_⟩
      have s4 := same_new (o := .lst [.ref L, .int 0, .int 0, .int 1]) hW
      exact q W L ms _ (s1.trans (s3.trans s4)) ⟨0, 0, 1, upd_same, s4 _ _ hL3, Int.le_refl 0⟩
def spFilled : Sp := fun vs H Q _ => ∃ (W L : Addr) (ns : List Int), vs = [.ref W] ∧ Well L ns H W ∧ ∀ (j : Int) (H' : Hp), Well L ns H' W → But W H H' → Q (.int j) H'
theorem ok_filled (D : Def K mg "_law_filled" sFilled ["_law_well_here"]) (G : Gb mg) (C1 : Callee P w K mg base 1 "_law_mixed" ["_law_number"] spMixed) : Callee P w K mg base 2 "_law_filled" ["_law_well_here"] spFilled := by
  refine D.ok scFilled (fun vs H Q E h => ?_) (fun f cdv A outer s H vs Q E hr h => ?_)
  · obtain ⟨W, L, ns, rfl, _⟩ := h
    rfl
  · obtain ⟨W, L, ns, rfl, ⟨c, x, z, h1, h2, h3⟩, q⟩ := h
    refine ⟨_, pss_cons (ps_asg (pe_op op_add (pe_ix ix_list (pv 0) pe_int (fun _ _ => rfl)) pe_int) (pg_sub (pv 0) pe_int set_list))
      (pss_cons (ps_if (pt_cmpR op_le (pe_ix ix_list (pv 0) pe_int (fun _ _ => rfl)) (pe_callB call_len_seq (by rfl) G.len PySem.boot_len (pa_cons (pe_ix ix_list (pv 0) pe_int (fun _ _ => rfl)) pa_nil)) (nomark _))
        (pss_cons (ps_set (i := 1) scFilled.nd rfl (Or.inl rfl) (pe_ix ix_list (pe_ix ix_list (pv 0) pe_int (fun _ _ => rfl)) (pe_op op_sub (pe_ix ix_list (pv 0) pe_int (fun _ _ => rfl)) pe_int) (fun _ _ => rfl)))
        (pss_cons (ps_asg (pe_op op_mod (pe_callTy call_int1 (by rfl) G.tint (by decide +kernel) (pa_cons (pe_op op_add (pe_op op_add (pe_op op_mul (pe_ix ix_list (pv 0) pe_int (fun _ _ => rfl)) pe_int) (pv 1)) pe_int) pa_nil)) pe_int) (pg_sub (pv 0) pe_int set_list))
        (pss_cons (ps_if (pt_cmpR op_ge (pv 1) (pe_op op_pow pe_int pe_int) (nomark _)) (pss_one (ps_ret (pv 1))) pss_nil)
        (pss_one (ps_ret (pe_cl C1 hr (by rfl) (pa_cons (pe_op op_add (pv 1) (pe_op op_mul pe_int (pe_ix ix_list (pv 0) pe_int (fun _ _ => rfl)))) pa_nil))))))) pss_nil)
      (pss_one (ps_ret (pe_cl C1 hr (by rfl) (pa_cons (pe_op op_add (pe_ix ix_list (pv 0) pe_int (fun _ _ => rfl)) (pe_op op_mul pe_int (pe_ix ix_list (pv 0) pe_int (fun _ _ => rfl)))) pa_nil))))), ?_⟩
    have hne : L ≠ W := ne_well h1 h2
    refine ⟨_, rfl, W, _, 1, .int c, rfl, rfl, SqL.of h1, rfl, _, _, rfl, rfl, _, rfl, W, _, 1, 1, rfl, rfl, h1, rfl, ?_⟩
    have b1 : But W H (upd H W (.lst ([V.ref L, .int c, .int x, .int z].set 1 (.int (c + 1))))) := But.at
    have g1 : (upd H W (.lst ([V.ref L, .int c, .int x, .int z].set 1 (.int (c + 1))))) W = some (.lst [.ref L, .int (c + 1), .int x, .int z]) := upd_same
    have g2 : (upd H W (.lst ([V.ref L, .int c, .int x, .int z].set 1 (.int (c + 1))))) L = some (.lst (ns.map V.int)) := by rw [upd_ne hne]; exact h2
    generalize (upd H W (.lst ([V.ref L, .int c, .int x, .int z].set 1 (.int (c + 1))))) = H1 at b1 g1 g2
    refine ⟨_, rfl, W, _, 1, .int (c + 1), rfl, rfl, SqL.of g1, rfl, _, rfl, W, _, 0, .ref L, rfl, rfl, SqL.of g1, rfl, L, _, rfl, .inl (SqL.of g2), _, _, rfl, rfl, _, rfl, ?_⟩
    rw [List.length_map]
    refine ite2 (fun hle => ?_) (fun hle => ?_)
    · have hle := of_decide_eq_true hle
      have hc : (c.toNat) < ns.length := by omega
      have hat : atI (ns.map V.int) (c + 1 - 1) = some (.int ns[c.toNat]) := by
        have e : c + 1 - 1 = ((c.toNat : Nat) : Int) := by omega
        rw [e]
        refine atI_nat ?_
        rw [List.getElem?_map, List.getElem?_eq_getElem hc]
        rfl
      generalize ns[c.toNat] = cell at hat
      refine ⟨_, rfl, W, _, 0, .ref L, rfl, rfl, SqL.of g1, rfl, _, rfl, W, _, 1, .int (c + 1), rfl, rfl, SqL.of g1, rfl, _, _, rfl, rfl, L, _, _, _, rfl, rfl, SqL.of g2, hat, ?_⟩
      refine ⟨_, rfl, W, _, 3, .int z, rfl, rfl, SqL.of g1, rfl, _, _, rfl, rfl, .inr ⟨by decide, by decide⟩, _, rfl, _, _, rfl, rfl, _, _, rfl, rfl, .inl ⟨_, rfl, _, _, rfl, rfl, by show (0 : Int) < _; decide, _, rfl, W, _, 3, 3, rfl, rfl, g1, rfl, ?_⟩⟩
      dsimp only
      generalize (z * 69069 + cell + 1) % 2147483629 = z2
      have b2 : But W H1 (upd H1 W (.lst ([V.ref L, .int (c + 1), .int x, .int z].set 3 (.int z2)))) := But.at
      have g1' : (upd H1 W (.lst ([V.ref L, .int (c + 1), .int x, .int z].set 3 (.int z2)))) W = some (.lst [.ref L, .int (c + 1), .int x, .int z2]) := upd_same
      have g2' : (upd H1 W (.lst ([V.ref L, .int (c + 1), .int x, .int z].set 3 (.int z2)))) L = some (.lst (ns.map V.int)) := by rw [upd_ne hne]; exact g2
      generalize (upd H1 W (.lst ([V.ref L, .int (c + 1), .int x, .int z].set 3 (.int z2)))) = H2 at b2 g1' g2'
      have fin : ∀ j : Int, Q (.int j) H2 := fun j => q j H2 ⟨_, _, _, g1', g2', by omega⟩ (b1.trans b2)
      refine ⟨_, rfl, _, _, rfl, rfl, ⟨by decide, by decide, by decide⟩, _, _, rfl, rfl, _, rfl, ite2 (fun _ => ?_) (fun _ => ?_)⟩
      · exact ⟨_, rfl, fin _⟩
      · exact ⟨_, rfl, _, rfl, W, _, 1, .int (c + 1), rfl, rfl, SqL.of g1', rfl, _, _, rfl, rfl, .inl ⟨by decide, by decide⟩, _, _, rfl, rfl, _, rfl, fin⟩
    · have fin : ∀ j : Int, Q (.int j) H1 := fun j => q j H1 ⟨_, _, _, g1, g2, by omega⟩ b1
      exact ⟨_, rfl, W, _, 3, .int z, rfl, rfl, SqL.of g1, rfl, _, rfl, W, _, 1, .int (c + 1), rfl, rfl, SqL.of g1, rfl, _, _, rfl, rfl, .inl ⟨by decide, by decide⟩, _, _, rfl, rfl, _, rfl, fin⟩
def spDraw : Sp := fun vs H Q _ => ∃ (W L : Addr) (ns : List Int) (m : Int), vs = [.ref W, .int m] ∧ Well L ns H W ∧ 0 < m ∧ m < 1073741824 ∧ ∀ (r : Int) (H' : Hp), 0 ≤ r → r < m → Well L ns H' W → But W H H' → Q (.int r) H'
theorem ok_draw (D : Def K mg "_law_draw" sDraw ["_law_well_here", "_law_many"]) (G : Gb mg) (C1 : Callee P w K mg base 2 "_law_filled" ["_law_well_here"] spFilled) : Callee P w K mg base 3 "_law_draw" ["_law_well_here", "_law_many"] spDraw := by
  refine D.ok scDraw (fun vs H Q E h => ?_) (fun f cdv A outer s H vs Q E hr h => ?_)
  · obtain ⟨W, L, ns, m, rfl, _⟩ := h
    rfl
  · obtain ⟨W, L, ns, m, rfl, hw, m0, m1, q⟩ := h
    refine ⟨_, pss_cons (ps_if (pt_cmpR op_eq (pe_ix ix_list (pv 0) pe_int (fun _ _ => rfl)) pe_int (nomark _)) (pss_one (ps_asg (pe_cl C1 hr (by rfl) (pa_cons (pv 0) pa_nil)) (pg_sub (pv 0) pe_int set_list))) pss_nil)
      (pss_cons (ps_set (i := 2) scDraw.nd rfl (Or.inl rfl) (pe_op op_mod (pe_callTy call_int1 (by rfl) G.tint (by decide +kernel) (pa_cons (pe_ix ix_list (pv 0) pe_int (fun _ _ => rfl)) pa_nil)) (pv 1)))
      (pss_cons (ps_asg (pe_op op_fdiv (pe_callTy call_int1 (by rfl) G.tint (by decide +kernel) (pa_cons (pe_ix ix_list (pv 0) pe_int (fun _ _ => rfl)) pa_nil)) (pv 1)) (pg_sub (pv 0) pe_int set_list))
      (pss_one (ps_ret (pv 2))))), ?_⟩
    refine join_if (fun σ2 H2 => σ2 = [some (.ref W), some (.int m), none] ∧ Well L ns H2 W ∧ But W H H2) ?_ (fun rest => ?_)
    · rintro σ2 H2 ⟨rfl, ⟨c, x, z, h1, h2, h3⟩, b⟩
      refine ⟨_, rfl, W, _, 2, .int x, rfl, rfl, SqL.of h1, rfl, .inl ⟨x, rfl, _, rfl, _, _, rfl, rfl, m0, ?_⟩⟩
      obtain ⟨r0, r1⟩ := mod_bound x m0
      refine ⟨_, rfl, W, _, 2, .int x, rfl, rfl, SqL.of h1, rfl, .inl ⟨x, rfl, _, rfl, _, _, rfl, rfl, ⟨m0, m1⟩, _, rfl, W, _, 2, 2, rfl, rfl, h1, rfl, ?_⟩⟩
      refine ⟨_, rfl, q _ _ r0 r1 ⟨c, x / m, z, upd_same, by rw [upd_ne (ne_well h1 h2)]; exact h2, h3⟩ (b.trans But.at)⟩
    · obtain ⟨c, x, z, h1, h2, h3⟩ := id hw
      refine ⟨_, rfl, W, _, 2, .int x, rfl, rfl, SqL.of h1, rfl, rfl, _, rfl, ite2 (fun _ => ?_) (fun _ => ?_)⟩
      · refine ⟨_, rfl, W, L, ns, rfl, hw, fun j H1 w1 b1 => ?_⟩
        obtain ⟨c', x', z', g1, g2, g3⟩ := w1
        refine ⟨_, rfl, W, _, 2, 2, rfl, rfl, g1, rfl, ?_⟩
        exact rest _ _ ⟨rfl, ⟨c', j, z', upd_same, by rw [upd_ne (ne_well g1 g2)]; exact g2, g3⟩, b1.trans But.at⟩
      · exact rest _ _ ⟨rfl, hw, But.refl _ _⟩
end
end Kl
namespace Kl
open PySem PySem.Spec PyProof.Rows L2
theorem atI_in {α : Type} {xs : List α} {r : Int} (h0 : 0 ≤ r) (h1 : r < (xs.length : Int)) : ∃ v, atI xs r = some v ∧ v ∈ xs := by
  have hr : r.toNat < xs.length := by omega
  refine ⟨xs[r.toNat], ?_, List.getElem_mem hr⟩
  have e : ((r.toNat : Nat) : Int) = r := by omega
  have h := atI_nat (xs := xs) (List.getElem?_eq_getElem hr)
  rw [e] at h
  exact h
theorem All2.snoc {α β : Type} {F : α → β → Prop} {as : List α} {bs : List β} (h : All2 F as bs) {a : α} {b : β} (hab : F a b) : All2 F (as ++ [a]) (bs ++ [b]) := by
  refine ⟨by rw [List.length_append, List.length_append, h.1]; rfl, fun i x y ex ey => ?_⟩
  by_cases hi : i < as.length
  · rw [List.getElem?_append_left hi] at ex
    rw [List.getElem?_append_left (by rw [← h.1]; exact hi)] at ey
    exact h.2 i x y ex ey
  · rw [List.getElem?_append_right (by omega)] at ex
    rw [List.getElem?_append_right (by rw [← h.1]; omega)] at ey
    rw [← h.1] at ey
    cases e : i - as.length with
    | zero =>
      rw [e] at ex ey
      cases ex
      cases ey
      exact hab
    | succ m => rw [e] at ex; simp at ex
section
variable {P : Program} {w : World} {K : PySem.W.Frag} {mg : Str → Option Value} {base : Heap}
abbrev sMore : Stmt := top 33
abbrev sStep : Stmt := top 34
abbrev sEnd : Stmt := top 35
abbrev sMachine : Stmt := top 36
theorem scMore : FnScope ["_law_well_here"] ["_law_well_here"] (defScope sMore) := ⟨rfl, rfl, rfl, by decide +kernel, rfl, by decide +kernel, by decide +kernel⟩
theorem scStep : FnScope ["_law_well_here", "_law_states", "_law_lack"] ["_law_well_here", "_law_states", "_law_lack"] (defScope sStep) := ⟨rfl, rfl, rfl, by decide +kernel, rfl, by decide +kernel, by decide +kernel⟩
theorem scEnd : FnScope ["_law_well_here", "_law_lack"] ["_law_well_here", "_law_lack"] (defScope sEnd) := ⟨rfl, rfl, rfl, by decide +kernel, rfl, by decide +kernel, by decide +kernel⟩
theorem scMachine : FnScope ["_law_well_here", "_law_size", "_law_few", "_law_states", "_law_lack", "_law_dull", "_law_rows", "_law_state", "_law_letter"] ["_law_well_here"] (defScope sMachine) := ⟨rfl, rfl, rfl, by decide +kernel, rfl, by decide +kernel, by decide +kernel⟩
abbrev CDraw (P : Program) (w : World) (K : PySem.W.Frag) (mg : Str → Option Value) (base : Heap) : Prop := Callee P w K mg base 3 "_law_draw" ["_law_well_here", "_law_many"] spDraw
def spMore : Sp := fun vs H Q _ => ∃ (W L : Addr) (ns : List Int), vs = [.ref W] ∧ Well L ns H W ∧ ∀ (i : Int) (H' : Hp), 0 ≤ i → i ≤ 60 → Well L ns H' W → But W H H' → Q (.int i) H'
theorem ok_more (D : Def K mg "_law_more" sMore ["_law_well_here"]) (C1 : CDraw P w K mg base) : Callee P w K mg base 4 "_law_more" ["_law_well_here"] spMore := by
  refine D.ok scMore (fun vs H Q E h => ?_) (fun f cdv A outer s H vs Q E hr h => ?_)
  · obtain ⟨W, L, ns, rfl, _⟩ := h
    rfl
  · obtain ⟨W, L, ns, rfl, hw, q⟩ := h
    refine ⟨_, pss_one (ps_ret (pe_ix ix_list (pe_lst (pa_cons (pe_cl C1 hr (by rfl) (pa_cons (pv 0) (pa_cons pe_int pa_nil))) (pa_cons (pe_cl C1 hr (by rfl) (pa_cons (pv 0) (pa_cons pe_int pa_nil))) (pa_cons (pe_cl C1 hr (by rfl) (pa_cons (pv 0) (pa_cons pe_int pa_nil))) pa_nil))))
      (pe_ix ix_list (pe_lst (pa_cons pe_int (pa_cons pe_int (pa_cons pe_int (pa_cons pe_int (pa_cons pe_int pa_nil)))))) (pe_cl C1 hr (by rfl) (pa_cons (pv 0) (pa_cons pe_int pa_nil))) (fun _ _ => rfl)) (fun _ _ => rfl))), ?_⟩
    refine ⟨_, rfl, W, L, ns, 2, rfl, hw, by decide, by decide, fun r1 H1 a1 a2 w1 b1 => ?_⟩
    refine ⟨_, rfl, W, L, ns, 4, rfl, w1, by decide, by decide, fun r2 H2 a3 a4 w2 b2 => ?_⟩
    refine ⟨_, rfl, W, L, ns, 61, rfl, w2, by decide, by decide, fun r3 H3 a5 a6 w3 b3 => ?_⟩
    refine ⟨(by decide : 3 ≤ sizeLine), fun p1 n1 => ?_⟩
    have w4 := w3.new (o := .lst [.int r1, .int r2, .int r3]) n1
    have g1 : upd H3 p1 (.lst [.int r1, .int r2, .int r3]) p1 = some (.lst [.int r1, .int r2, .int r3]) := upd_same
    have b4 := ((b1.trans b2).trans b3).trans (But.same (same_new (o := .lst [.int r1, .int r2, .int r3]) n1))
    have x1 := w3.ne n1
    refine ⟨(by decide : 5 ≤ sizeLine), fun p2 n2 => ?_⟩
    have s5 := same_new (o := .lst [.int 0, .int 0, .int 1, .int 1, .int 2]) n2
    have w5 := w4.new (o := .lst [.int 0, .int 0, .int 1, .int 1, .int 2]) n2
    have x2 := w4.ne n2
    refine ⟨_, rfl, W, L, ns, 5, rfl, w5, by decide, by decide, fun r4 H4 a7 a8 w6 b6 => ?_⟩
    have g1' := b6 _ _ x1 (s5 _ _ g1)
    have g2' := b6 _ _ x2 upd_same
    obtain ⟨v, ev, mv⟩ := atI_in (xs := [V.int 0, .int 0, .int 1, .int 1, .int 2]) a7 (by exact a8)
    obtain ⟨j, rfl, j0, j1⟩ : ∃ j : Int, v = .int j ∧ 0 ≤ j ∧ j < 3 := by
      simp only [List.mem_cons, List.not_mem_nil, or_false] at mv
      rcases mv with rfl | rfl | rfl | rfl | rfl <;> exact ⟨_, rfl, by decide, by decide⟩
    refine ⟨p2, _, _, .int j, rfl, rfl, SqL.of g2', ev, ?_⟩
    obtain ⟨u, eu, mu⟩ := atI_in (xs := [V.int r1, .int r2, .int r3]) j0 (by exact j1)
    obtain ⟨i, rfl, i0, i1⟩ : ∃ i : Int, u = .int i ∧ 0 ≤ i ∧ i ≤ 60 := by
      simp only [List.mem_cons, List.not_mem_nil, or_false] at mu
      rcases mu with rfl | rfl | rfl
      · exact ⟨_, rfl, a1, by omega⟩
      · exact ⟨_, rfl, a3, by omega⟩
      · exact ⟨_, rfl, a5, by omega⟩
    exact ⟨p1, _, _, .int i, rfl, rfl, SqL.of g1', eu, q i _ i0 i1 w6 ((b4.trans (But.same s5)).trans b6)⟩
abbrev sN : V := .str "none"
def spStep : Sp := fun vs H Q _ => ∃ (W L : Addr) (ns : List Int) (k : Nat) (lack : Int), vs = [.ref W, .int (k : Int), .int lack] ∧ Well L ns H W ∧ 1 ≤ k ∧ k ≤ 30 ∧ ∀ (v : V) (s : RStep) (H' : Hp), StepAt sN H' v s → stepFits k s = true → Well L ns H' W → But W H H' → Q v H'
theorem ok_step (D : Def K mg "_law_step" sStep ["_law_well_here", "_law_states", "_law_lack"]) (C1 : CDraw P w K mg base) (C2 : Callee P w K mg base 4 "_law_more" ["_law_well_here"] spMore) : Callee P w K mg base 5 "_law_step" ["_law_well_here", "_law_states", "_law_lack"] spStep := by
  refine D.ok scStep (fun vs H Q E h => ?_) (fun f cdv A outer s H vs Q E hr h => ?_)
  · obtain ⟨W, L, ns, k, lack, rfl, _⟩ := h
    rfl
  · obtain ⟨W, L, ns, k, lack, rfl, hw, k1, k30, q⟩ := h
    refine ⟨_, pss_cons (ps_if (pt_cmpR op_lt (pe_cl C1 (hr.mono (by decide)) (by rfl) (pa_cons (pv 0) (pa_cons pe_int pa_nil))) (pv 2) (nomark _)) (pss_one (ps_ret pe_non)) pss_nil)
      (pss_one (ps_ret (pe_tup (pa_cons (pe_cl C2 hr (by rfl) (pa_cons (pv 0) pa_nil)) (pa_cons (pe_cl C1 (hr.mono (by decide)) (by rfl) (pa_cons (pv 0) (pa_cons (pv 1) pa_nil))) pa_nil))))), ?_⟩
    refine ⟨_, rfl, W, L, ns, 6, rfl, hw, by decide, by decide, fun r H1 _ _ w1 b1 => ?_⟩
    refine ⟨_, rfl, _, _, rfl, rfl, _, rfl, ite2 (fun _ => q .non (some none) _ rfl rfl w1 b1) (fun _ => ?_)⟩
    refine ⟨_, rfl, W, L, ns, rfl, w1, fun a H2 a0 a1 w2 b2 => ?_⟩
    refine ⟨_, rfl, _, rfl, W, L, ns, _, rfl, w2, by omega, by omega, fun c H3 c0 c1 w3 b3 => ?_⟩
    refine ⟨(by decide : 2 ≤ sizeLine), fun p np => ?_⟩
    refine q (.ref p) (some (some (a, c))) _ ⟨p, rfl, upd_same⟩ ?_ (w3.new np) (((b1.trans b2).trans b3).trans (But.same (same_new np)))
    show ((decide (0 ≤ a) && decide (a ≤ 60)) && (decide (0 ≤ c) && decide (c ≤ (k : Int) - 1))) = true
    simp only [Bool.and_eq_true, decide_eq_true_eq]
    omega
def spEnd : Sp := fun vs H Q _ => ∃ (W L : Addr) (ns : List Int) (lack : Int), vs = [.ref W, .int lack] ∧ Well L ns H W ∧ ∀ (e : Option Int) (H' : Hp), endFits e = true → Well L ns H' W → But W H H' → Q (oV e) H'
theorem ok_end (D : Def K mg "_law_end" sEnd ["_law_well_here", "_law_lack"]) (G : Gb mg) (C1 : CDraw P w K mg base) : Callee P w K mg base 4 "_law_end" ["_law_well_here", "_law_lack"] spEnd := by
  refine D.ok scEnd (fun vs H Q E h => ?_) (fun f cdv A outer s H vs Q E hr h => ?_)
  · obtain ⟨W, L, ns, lack, rfl, _⟩ := h
    rfl
  · obtain ⟨W, L, ns, lack, rfl, hw, q⟩ := h
    refine ⟨_, pss_cons (ps_if (pt_cmpR op_lt (pe_cl C1 hr (by rfl) (pa_cons (pv 0) (pa_cons pe_int pa_nil))) (pv 1) (nomark _)) (pss_one (ps_ret pe_non)) pss_nil)
      (pss_one (ps_ret (pe_ix ix_list (pe_lst (pa_cons (pe_op op_add pe_int (pe_cl C1 hr (by rfl) (pa_cons (pv 0) (pa_cons pe_int pa_nil)))) (pa_cons (pe_op op_add pe_int (pe_cl C1 hr (by rfl) (pa_cons (pv 0) (pa_cons pe_int pa_nil)))) pa_nil)))
        (pe_callTy call_int1 (by rfl) G.tint (by decide +kernel) (pa_cons (pe_cmpR op_eq (pe_cl C1 hr (by rfl) (pa_cons (pv 0) (pa_cons pe_int pa_nil))) pe_int (nomark _)) pa_nil)) (fun _ _ => rfl)))), ?_⟩
    refine ⟨_, rfl, W, L, ns, 6, rfl, hw, by decide, by decide, fun r H1 _ _ w1 b1 => ?_⟩
    refine ⟨_, rfl, _, _, rfl, rfl, _, rfl, ite2 (fun _ => q none _ rfl w1 b1) (fun _ => ?_)⟩
    refine ⟨_, rfl, W, L, ns, 4, rfl, w1, by decide, by decide, fun r2 H2 a1 a2 w2 b2 => ?_⟩
    refine ⟨_, _, rfl, rfl, _, rfl, W, L, ns, 60, rfl, w2, by decide, by decide, fun r3 H3 a3 a4 w3 b3 => ?_⟩
    refine ⟨_, _, rfl, rfl, (by decide : 2 ≤ sizeLine), fun p np => ?_⟩
    have x1 := w3.ne np
    have s1 := same_new (o := .lst [.int (1 + r2), .int (1 + r3)]) np
    refine ⟨_, rfl, W, L, ns, 5, rfl, w3.new np, by decide, by decide, fun r4 H4 a5 a6 w4 b4 => ?_⟩
    have g := b4 _ _ x1 (upd_same (o := .lst [.int (1 + r2), .int (1 + r3)]))
    have b := (((b1.trans b2).trans b3).trans (But.same s1)).trans b4
    refine ⟨rfl, .inr ⟨_, rfl, ?_⟩⟩
    have fin : ∀ z : Int, 1 ≤ z → z ≤ 60 → Q (.int z) H4 := fun z z0 z1 => q (some z) _ (by show (decide (1 ≤ z) && decide (z ≤ 60)) = true; simp [z0, z1]) w4 b
    cases decide (V.int r4 = V.int 0) with
    | true => exact ⟨p, _, 1, .int (1 + r3), rfl, rfl, SqL.of g, rfl, fin _ (by omega) (by omega)⟩
    | false => exact ⟨p, _, 0, .int (1 + r2), rfl, rfl, SqL.of g, rfl, fin _ (by omega) (by omega)⟩
def spMachine : Sp := fun vs H Q _ => ∃ (W L : Addr) (ns : List Int), vs = [.ref W] ∧ Well L ns H W ∧ ∀ (v : V) (n : Int) (rows : List RRow) (H' : Hp), FoundAt sN sN H' v (some n) rows → Small rows → fits (some n) rows = true → Well L ns H' W → But W H H' → Q v H'
theorem ok_machine (D : Def K mg "_law_machine" sMachine ["_law_well_here"]) (G : Gb mg) (C1 : CDraw P w K mg base) (C2 : Callee P w K mg base 4 "_law_end" ["_law_well_here", "_law_lack"] spEnd) (C3 : Callee P w K mg base 5 "_law_step" ["_law_well_here", "_law_states", "_law_lack"] spStep) :
    Callee P w K mg base 6 "_law_machine" ["_law_well_here"] spMachine := by
  refine D.ok scMachine (fun vs H Q E h => ?_) (fun f cdv A outer s H vs Q E hr h => ?_)
  · obtain ⟨W, L, ns, rfl, _⟩ := h
    rfl
  · obtain ⟨W, L, ns, rfl, hw, q⟩ := h
    have hr3 : Room 3 _ := hr.mono (by decide)
    refine ⟨_, pss_cons (ps_set (i := 1) scMachine.nd rfl (Or.inl rfl) (pe_ix ix_list (pe_lst (pa_cons pe_int (pa_cons pe_int (pa_cons pe_int (pa_cons pe_int (pa_cons (pe_op op_add pe_int (pe_cl C1 hr3 (by rfl) (pa_cons (pv 0) (pa_cons pe_int pa_nil)))) pa_nil)))))) (pe_cl C1 hr3 (by rfl) (pa_cons (pv 0) (pa_cons pe_int pa_nil))) (fun _ _ => rfl)))
      (pss_cons (ps_set (i := 2) scMachine.nd rfl (Or.inl rfl) (pe_lst (pa_cons (pe_op op_add pe_int (pe_cl C1 hr3 (by rfl) (pa_cons (pv 0) (pa_cons pe_int pa_nil)))) (pa_cons (pe_op op_add pe_int (pe_cl C1 hr3 (by rfl) (pa_cons (pv 0) (pa_cons pe_int pa_nil)))) (pa_cons (pe_op op_sub pe_int (pe_cl C1 hr3 (by rfl) (pa_cons (pv 0) (pa_cons pe_int pa_nil)))) pa_nil)))))
      (pss_cons (ps_set (i := 3) scMachine.nd rfl (Or.inr rfl) (pe_ix ix_list (pv 2) (pe_ix ix_list (pe_lst (pa_cons pe_int (pa_cons pe_int (pa_cons pe_int (pa_cons pe_int (pa_cons pe_int (pa_cons pe_int (pa_cons pe_int (pa_cons pe_int pa_nil))))))))) (pe_cl C1 hr3 (by rfl) (pa_cons (pv 0) (pa_cons pe_int pa_nil))) (fun _ _ => rfl)) (fun _ _ => rfl)))
      (pss_cons (ps_set (i := 4) scMachine.nd rfl (Or.inr rfl) (pe_cl C1 hr3 (by rfl) (pa_cons (pv 0) (pa_cons pe_int pa_nil))))
      (pss_cons (ps_set (i := 5) scMachine.nd rfl (Or.inl rfl) (pe_op op_add pe_int (pe_cl C1 hr3 (by rfl) (pa_cons (pv 0) (pa_cons pe_int pa_nil)))))
      (pss_cons (ps_set (i := 6) scMachine.nd rfl (Or.inl rfl) (pe_lst pa_nil))
      (pss_cons (ps_for PassesOwn.never rfl (pi_range1 (by rfl) G.range (pa_cons (pv 3) pa_nil)) (pg_name (i := 7) scMachine.nd rfl (Or.inl rfl))
        (pss_one (ps_expr (pe_bm PySem.F.plainAttrs_list PySem.F.slot_list_append PySem.F.type_list_append mt_append (pv 6) (pa_cons
          (pe_tup (pa_cons (pe_cl C2 (hr.mono (by decide)) (by rfl) (pa_cons (pv 0) (pa_cons (pv 5) pa_nil))) (pa_cons (pe_callTy call_tuple_of (by rfl) G.ttup (by decide +kernel) (pa_cons
            (pe_lc (own := [("_law_letter", 8)]) (g := gName 8) (tt := tYes) rfl scMachine.nd (pi_range1 (by rfl) G.range (pa_cons (pv 1) pa_nil)) (blkOk_by (N := ["_law_well_here", "_law_size", "_law_few", "_law_states", "_law_lack", "_law_dull", "_law_rows", "_law_state", "_law_letter"]) (sc := defScope sMachine) (by decide +kernel))
              (fun _ _ _ _ _ => pg_name (i := 8) scMachine.nd rfl (Or.inl rfl)) (fun _ _ _ _ _ => pts_nil) (fun _ _ _ _ _ => pe_cl C3 hr (by rfl) (pa_cons (pv 0) (pa_cons (pv 3) (pa_cons (pv 4) pa_nil))))) pa_nil)) pa_nil))) pa_nil)))))
      (pss_one (ps_ret (pe_tup (pa_cons (pv 1) (pa_cons (pe_callTy call_tuple_of (by rfl) G.ttup (by decide +kernel) (pa_cons (pv 6) pa_nil)) pa_nil))))))))))), ?_⟩
    -- size
    refine ⟨_, rfl, W, L, ns, 8, rfl, hw, by decide, by decide, fun r1 H1 a1 a2 w1 b1 => ?_⟩
    refine ⟨_, _, rfl, rfl, (by decide : 5 ≤ sizeLine), fun p1 np1 => ?_⟩
    have w1' := w1.new (o := .lst [.int 1, .int 2, .int 2, .int 3, .int (1 + r1)]) np1
    have x1 := w1.ne np1
    have s1 := same_new (o := .lst [.int 1, .int 2, .int 2, .int 3, .int (1 + r1)]) np1
    refine ⟨_, rfl, W, L, ns, 5, rfl, w1', by decide, by decide, fun r2 H2 a3 a4 w2 b2 => ?_⟩
    have g1 := b2 _ _ x1 (upd_same (o := .lst [.int 1, .int 2, .int 2, .int 3, .int (1 + r1)]))
    have bb2 := (b1.trans (But.same s1)).trans b2
    obtain ⟨v1, ev1, mv1⟩ := atI_in (xs := [V.int 1, .int 2, .int 2, .int 3, .int (1 + r1)]) a3 (by exact a4)
    obtain ⟨size, rfl, z1, z8⟩ : ∃ j : Int, v1 = .int j ∧ 1 ≤ j ∧ j ≤ 8 := by
      simp only [List.mem_cons, List.not_mem_nil, or_false] at mv1
      rcases mv1 with rfl | rfl | rfl | rfl | rfl
      · exact ⟨_, rfl, by decide, by decide⟩
      · exact ⟨_, rfl, by decide, by decide⟩
      · exact ⟨_, rfl, by decide, by decide⟩
      · exact ⟨_, rfl, by decide, by decide⟩
      · exact ⟨_, rfl, by omega, by omega⟩
    refine ⟨p1, _, _, .int size, rfl, rfl, SqL.of g1, ev1, ?_⟩
    -- few
    refine ⟨_, rfl, W, L, ns, 3, rfl, w2, by decide, by decide, fun r3 H3 a5 a6 w3 b3 => ?_⟩
    refine ⟨_, _, rfl, rfl, _, rfl, W, L, ns, 7, rfl, w3, by decide, by decide, fun r4 H4 a7 a8 w4 b4 => ?_⟩
    refine ⟨_, _, rfl, rfl, _, rfl, W, L, ns, 3, rfl, w4, by decide, by decide, fun r5 H5 a9 a10 w5 b5 => ?_⟩
    refine ⟨_, _, rfl, rfl, (by decide : 3 ≤ sizeLine), fun p2 np2 => ?_⟩
    have w5' := w5.new (o := .lst [.int (1 + r3), .int (1 + r4), .int (30 - r5)]) np2
    have x2 := w5.ne np2
    have s2 := same_new (o := .lst [.int (1 + r3), .int (1 + r4), .int (30 - r5)]) np2
    have g2 : upd H5 p2 (.lst [.int (1 + r3), .int (1 + r4), .int (30 - r5)]) p2 = some (.lst [.int (1 + r3), .int (1 + r4), .int (30 - r5)]) := upd_same
    have bb5 := (((bb2.trans b3).trans b4).trans b5).trans (But.same s2)
    -- states
    refine ⟨_, rfl, (by decide : 8 ≤ sizeLine), fun p3 np3 => ?_⟩
    have w5'' := w5'.new (o := .lst [.int 0, .int 0, .int 0, .int 1, .int 1, .int 1, .int 1, .int 2]) np3
    have x3 := w5'.ne np3
    have s3 := same_new (o := .lst [.int 0, .int 0, .int 0, .int 1, .int 1, .int 1, .int 1, .int 2]) np3
    refine ⟨_, rfl, W, L, ns, 8, rfl, w5'', by decide, by decide, fun r6 H6 a11 a12 w6 b6 => ?_⟩
    have g3 := b6 _ _ x3 (upd_same (o := .lst [.int 0, .int 0, .int 0, .int 1, .int 1, .int 1, .int 1, .int 2]))
    have g2' := b6 _ _ x2 (s3 _ _ g2)
    have bb6 := (bb5.trans (But.same s3)).trans b6
    obtain ⟨v2, ev2, mv2⟩ := atI_in (xs := [V.int 0, .int 0, .int 0, .int 1, .int 1, .int 1, .int 1, .int 2]) a11 (by exact a12)
    obtain ⟨j, rfl, j0, j3⟩ : ∃ j : Int, v2 = .int j ∧ 0 ≤ j ∧ j < 3 := by
      simp only [List.mem_cons, List.not_mem_nil, or_false] at mv2
      rcases mv2 with rfl | rfl | rfl | rfl | rfl | rfl | rfl | rfl <;> exact ⟨_, rfl, by decide, by decide⟩
    refine ⟨p3, _, _, .int j, rfl, rfl, SqL.of g3, ev2, ?_⟩
    obtain ⟨v3, ev3, mv3⟩ := atI_in (xs := [V.int (1 + r3), .int (1 + r4), .int (30 - r5)]) j0 (by exact j3)
    obtain ⟨k, rfl, k1, k30⟩ : ∃ k : Nat, v3 = .int (k : Int) ∧ 1 ≤ k ∧ k ≤ 30 := by
      simp only [List.mem_cons, List.not_mem_nil, or_false] at mv3
      rcases mv3 with rfl | rfl | rfl
      · exact ⟨(1 + r3).toNat, by rw [show (((1 + r3).toNat : Nat) : Int) = 1 + r3 by omega], by omega, by omega⟩
      · exact ⟨(1 + r4).toNat, by rw [show (((1 + r4).toNat : Nat) : Int) = 1 + r4 by omega], by omega, by omega⟩
      · exact ⟨(30 - r5).toNat, by rw [show (((30 - r5).toNat : Nat) : Int) = 30 - r5 by omega], by omega, by omega⟩
    refine ⟨p2, _, _, .int (k : Int), rfl, rfl, SqL.of g2', ev3, ?_⟩
    -- lack, dull
    refine ⟨_, rfl, W, L, ns, 5, rfl, w6, by decide, by decide, fun lack H7 _ _ w7 b7 => ?_⟩
    refine ⟨_, rfl, W, L, ns, 5, rfl, w7, by decide, by decide, fun r8 H8 _ _ w8 b8 => ?_⟩
    refine ⟨_, _, rfl, rfl, ?_⟩
    -- rows
    refine ⟨Nat.zero_le _, fun R nR => ?_⟩
    have xR := w8.ne nR
    have w9 := w8.new (o := .lst []) nR
    have bb9 : But W H (upd H8 R (.lst [])) := ((bb6.trans b7).trans b8).trans (But.same (same_new nR))
    have HR : H R = none := by
      cases e : H R with
      | none => rfl
      | some o => rw [((bb6.trans b7).trans b8) R o xR e] at nR; cases nR
    refine ⟨_, rfl, (k : Int), rfl, by omega, by omega, ?_⟩
    refine for_range (lo := 0) (n := ((k : Int)).toNat) (fun i σ H' => ∃ y7 ys rs, σ = [some (.ref W), some (.int size), some (.ref p2), some (.int (k : Int)), some (.int lack), some (.int (1 + r8)), some (.ref R), y7, none] ∧ Well L ns H' W ∧ But W H H' ∧ H' R = some (.lst ys) ∧ rs.length = i ∧ All2 (RowAt sN sN H') ys rs ∧ ∀ r ∈ rs, rowFits size k r = true)
      ⟨none, [], [], rfl, w9, bb9, upd_same, rfl, ⟨rfl, fun i a b e => by simp at e⟩, fun r hr0 => by cases hr0⟩ ?_ ?_
    · rintro i σ H' hi ⟨y7, ys, rs, rfl, wl, bb, hR, hrs, ha, hf⟩
      rw [Int.toNat_natCast] at hi
      refine ⟨.ref R, rfl, .inl ⟨rfl, _, SqL.of hR⟩, ?_⟩
      refine ⟨_, rfl, _, rfl, W, L, ns, _, rfl, wl, fun e H10 he w10 b10 => ?_⟩
      refine ⟨_, rfl, size, rfl, by omega, by omega, fun D1 nD1 => ?_⟩
      refine lc_draw (j := 8) (P := fun i x => x = .int (0 + i)) (walk_range (lo := 0) (n := size.toNat)) (L := L) (ns := ns) (W := W) (fun i v H' => ∃ s, StepAt sN H' v s ∧ stepFits k s = true) w10 nD1 (Nat.le_trans (by omega : size.toNat ≤ 8) (by decide)) (fun _ _ => trivial) (fun i v H1 H2 r t => by obtain ⟨s, h1, h2⟩ := r; exact ⟨s, h1.mono t, h2⟩) ?_ ?_
      · intro i2 x H11 hi2 w11 b11 hx Kt hK
        exact ⟨_, rfl, _, rfl, _, rfl, W, L, ns, k, lack, rfl, w11, k1, k30, fun v s H12 h1 h2 w12 b12 => hK v H12 w12 b12 ⟨s, h1, h2⟩⟩
      · intro zs H11 w11 b11 hD hzl hz
        obtain ⟨ss, hss, hsf⟩ : ∃ ss : List RStep, All2 (StepAt sN H11) zs ss ∧ ∀ s ∈ ss, stepFits k s = true := by
          clear hzl hD
          induction zs with
          | nil => exact ⟨[], ⟨rfl, fun i a b e => by simp at e⟩, fun s hs => by cases hs⟩
          | cons z zs ih =>
            obtain ⟨ss, h1, h2⟩ := ih (fun i y e => hz (i + 1) y (by simpa using e))
            obtain ⟨s, h3, h4⟩ := hz 0 z rfl
            refine ⟨s :: ss, ⟨by rw [List.length_cons, List.length_cons, h1.1], fun i a b ea eb => ?_⟩, fun s' hs' => ?_⟩
            · cases i with
              | zero => cases ea; cases eb; exact h3
              | succ m => exact h1.2 m a b (by simpa using ea) (by simpa using eb)
            · rcases List.mem_cons.mp hs' with rfl | hs'
              · exact h4
              · exact h2 s' hs'
        refine ⟨D1, zs, rfl, .inl ⟨SqL.of hD, fun pT nT => ?_⟩⟩
        refine ⟨(by decide : 2 ≤ sizeLine), fun pR nPR => ?_⟩
        have s12 : Same H11 (upd H11 pT (.tup zs)) := same_new nT
        have s13 := same_new (o := .tup [oV e, .ref pT]) nPR
        have hR2 := s13 _ _ (s12 _ _ (b11 _ _ xR (b10 _ _ xR hR)))
        have tS : TupS H' (upd (upd H11 pT (.tup zs)) pR (.tup [oV e, .ref pT])) := ((But.tup wl b10).trans (But.tup w10 b11)).trans (TupS.same (s12.trans s13))
        refine ⟨R, _, _, rfl, rfl, hR2, ?_, ?_⟩
        · rw [ha.1, hrs]
          exact Nat.lt_of_lt_of_le (by omega : i < 31) (by decide)
        have t2 : TupS (upd (upd H11 pT (.tup zs)) pR (.tup [oV e, .ref pT])) (upd (upd (upd H11 pT (.tup zs)) pR (.tup [oV e, .ref pT])) R (.lst (ys ++ [.ref pR]))) := TupS.at hR2
        refine ⟨_, ys ++ [.ref pR], rs ++ [some (e, ss)], rfl, ?_, ?_, upd_same, by rw [List.length_append, hrs]; rfl, ?_, ?_⟩
        · exact Well.mut hw HR ((w11.new nT).new nPR)
        · exact But.mut ((bb.trans b10).trans (b11.trans (But.same (s12.trans s13)))) HR
        · refine All2.snoc (ha.imp fun _ _ z => z.mono (tS.trans t2)) ?_
          exact ⟨pR, pT, zs, rfl, t2 _ _ upd_same, t2 _ _ (s13 _ _ upd_same), hss.imp fun _ _ z => z.mono ((TupS.same (s12.trans s13)).trans t2)⟩
        · intro r hr0
          rcases List.mem_append.mp hr0 with hr0 | hr0
          · exact hf r hr0
          · rw [List.mem_singleton.mp hr0]
            show (decide ((ss.length : Int) = size) && (endFits e && ss.all (stepFits k))) = true
            simp only [Bool.and_eq_true, decide_eq_true_eq, List.all_eq_true]
            refine ⟨?_, he, hsf⟩
            rw [← hss.1, hzl]
            omega
    · rintro σ H' ⟨y7, ys, rs, rfl, wl, bb, hR, hrs, ha, hf⟩
      rw [Int.toNat_natCast] at hrs
      refine ⟨_, rfl, _, rfl, R, ys, rfl, .inl ⟨SqL.of hR, fun pT nT => ?_⟩⟩
      refine ⟨(by decide : 2 ≤ sizeLine), fun pM nM => ?_⟩
      have s12 : Same H' (upd H' pT (.tup ys)) := same_new nT
      have s13 := same_new (o := .tup [.int size, .ref pT]) nM
      refine q (.ref pM) size rs _ ⟨pM, pT, ys, rfl, upd_same, s13 _ _ upd_same, ha.imp fun _ _ z => z.mono (TupS.same (s12.trans s13))⟩ ?_ ?_ ((wl.new nT).new nM) (bb.trans (But.same (s12.trans s13)))
      · refine ⟨Nat.le_trans (by omega : rs.length ≤ 30) (by decide), fun r hr0 e ss er => ?_⟩
        have h1 := hf r hr0
        subst er
        have h1' : (decide ((ss.length : Int) = size) && (endFits e && ss.all (stepFits k))) = true := h1
        simp only [Bool.and_eq_true, decide_eq_true_eq] at h1'
        exact Nat.le_trans (by omega : ss.length ≤ 8) (by decide)
      · show ((decide (1 ≤ size) && decide (size ≤ 8)) && ((decide (1 ≤ rs.length) && decide (rs.length ≤ 30)) && rs.all (rowFits size rs.length))) = true
        simp only [Bool.and_eq_true, decide_eq_true_eq, List.all_eq_true]
        exact ⟨⟨z1, z8⟩, ⟨by omega, by omega⟩, by rw [hrs]; exact hf⟩
end
end Kl
namespace Kl
open PySem PySem.Spec PyProof.Rows L2 TL
/-- any value: no text, or a short one -/
def AnyOk (K : PySem.W.Frag) (H : Hp) (v : V) : Prop := (∃ t, TyX K H v t ∧ PySem.W.kitOne K t (.type "str") = some false) ∨ ∃ l : List Nat, v = .str (sOf l) ∧ l.length ≤ 100
section
variable {P : Program} {w : World} {K : PySem.W.Frag} {mg : Str → Option Value} {base : Heap}
abbrev sAny : Stmt := top 32
theorem scAny : FnScope ["_law_well_here", "_law_deep", "_law_kind", "_law_items", "_law_k"] ["_law_well_here", "_law_deep"] (defScope sAny) := ⟨rfl, rfl, rfl, by decide +kernel, rfl, by decide +kernel, by decide +kernel⟩
def spAny (K : PySem.W.Frag) (d : Nat) : Sp := fun vs H Q _ => ∃ (W L : Addr) (ns : List Int), vs = [.ref W, .int (d : Int)] ∧ Well L ns H W ∧ ∀ (v : V) (H' : Hp), AnyOk K H' v → Well L ns H' W → But W H H' → Q v H'
theorem any_menu {v : V} (h : v ∈ [V.str (Str.ofString ""), .str (Str.ofString "0"), .str (Str.ofString "01"), .str (Str.ofString "2"), .str (Str.ofString "-"), .str (Str.ofString "size 1\n-\n"), .str (Str.ofString " \n")]) : ∃ l : List Nat, v = .str (sOf l) ∧ l.length ≤ 100 := by
  simp only [List.mem_cons, List.not_mem_nil, or_false] at h
  rcases h with rfl | rfl | rfl | rfl | rfl | rfl | rfl <;> exact ⟨_, by rw [← sOf_tl (Str.ofString _)], by decide +kernel⟩
theorem ok_anyAt (d : Nat) (spR : Sp) (hR : d = 0 ∨ ∃ e, d = e + 1 ∧ spR = spAny K e) (D : Def K mg "_law_any" sAny ["_law_well_here", "_law_deep"]) (G : Gb mg) (C1 : CDraw P w K mg base) (CR : Callee P w K mg base (3 + d) "_law_any" ["_law_well_here", "_law_deep"] spR) :
    Callee P w K mg base (3 + d + 1) "_law_any" ["_law_well_here", "_law_deep"] (spAny K d) := by
  refine D.ok scAny (fun vs H Q E h => ?_) (fun f cdv A outer s H vs Q E hr h => ?_)
  · obtain ⟨W, L, ns, rfl, _⟩ := h
    rfl
  · obtain ⟨W, L, ns, rfl, hw, q⟩ := h
    have hr3 : Room 3 _ := hr.mono (by omega)
    refine ⟨_, pss_cons (ps_set (i := 2) scAny.nd rfl (Or.inl rfl) (pe_cl C1 hr3 (by rfl) (pa_cons (pv 0) (pa_cons pe_int pa_nil))))
      (pss_cons (ps_if (pt_cmpR op_eq (pv 1) pe_int (nomark _)) (pss_one (ps_set (i := 2) scAny.nd rfl (Or.inl rfl) (pe_op op_mod (pe_callTy call_int1 (by rfl) G.tint (by decide +kernel) (pa_cons (pv 2) pa_nil)) pe_int))) pss_nil)
      (pss_cons (ps_if (pt_cmpR op_eq (pv 2) pe_int (nomark _)) (pss_one (ps_ret (pe_op op_sub (pe_cl C1 hr3 (by rfl) (pa_cons (pv 0) (pa_cons pe_int pa_nil))) pe_int))) pss_nil)
      (pss_cons (ps_if (pt_cmpR op_eq (pv 2) pe_int (nomark _)) (pss_one (ps_ret (pe_ix ix_list (pe_lst (pa_cons (pe_un un_neg (pe_op op_pow pe_int pe_int)) (pa_cons (pe_op op_pow pe_int pe_int) (pa_cons pe_int (pa_cons pe_int (pa_cons pe_int (pa_cons pe_int (pa_cons pe_int pa_nil)))))))) (pe_cl C1 hr3 (by rfl) (pa_cons (pv 0) (pa_cons pe_int pa_nil))) (fun _ _ => rfl)))) pss_nil)
      (pss_cons (ps_if (pt_cmpR op_eq (pv 2) pe_int (nomark _)) (pss_one (ps_ret (pe_cmpR op_eq (pe_cl C1 hr3 (by rfl) (pa_cons (pv 0) (pa_cons pe_int pa_nil))) pe_int (nomark _)))) pss_nil)
      (pss_cons (ps_if (pt_cmpR op_eq (pv 2) pe_int (nomark _)) (pss_one (ps_ret pe_non)) pss_nil)
      (pss_cons (ps_if (pt_cmpR op_le (pv 2) pe_int (nomark _)) (pss_one (ps_ret (pe_ix ix_list (pe_lst (pa_cons pe_str (pa_cons pe_str (pa_cons pe_str (pa_cons pe_str (pa_cons pe_str (pa_cons pe_str (pa_cons pe_str pa_nil)))))))) (pe_cl C1 hr3 (by rfl) (pa_cons (pv 0) (pa_cons pe_int pa_nil))) (fun _ _ => rfl)))) pss_nil)
      (pss_cons (ps_setLc (i := 3) (own := [("_law_k", 4)]) (g := gName 4) (tt := tYes) rfl scAny.nd rfl rfl (sw_true rfl rfl rfl (by decide +kernel)) (pi_range1 (by rfl) G.range (pa_cons (pe_cl C1 hr3 (by rfl) (pa_cons (pv 0) (pa_cons pe_int pa_nil))) pa_nil)) (blkOk_by (N := ["_law_well_here", "_law_deep", "_law_kind", "_law_items", "_law_k"]) (sc := defScope sAny) (by decide +kernel))
          (fun _ _ _ _ _ => pg_name (i := 4) scAny.nd rfl (Or.inl rfl)) (fun _ _ _ _ _ => pts_nil) (fun _ _ _ _ _ => pe_cl CR hr (by rfl) (pa_cons (pv 0) (pa_cons (pe_op op_sub (pv 1) pe_int) pa_nil))))
      (pss_cons (ps_if (pt_cmpR op_le (pv 2) pe_int (nomark _)) (pss_one (ps_ret (pe_callTy call_tuple_of (by rfl) G.ttup (by decide +kernel) (pa_cons (pv 3) pa_nil)))) pss_nil)
      (pss_cons (ps_if (pt_cmpR op_eq (pv 2) pe_int (nomark _)) (pss_one (ps_ret (pv 3))) pss_nil)
      (pss_one (ps_ret (pe_disp (pps_cons pe_str (pv 3) (pps_cons pe_int pe_non pps_nil)) (by rfl) (by rfl) (fun z => by cases z) (by decide))))))))))))), ?_⟩
    refine ⟨_, rfl, W, L, ns, 11, rfl, hw, by decide, by decide, fun k0 H1 a0 a1 w1 b1 => ?_⟩
    dsimp only [gName]
    refine join_if (fun σ2 H2 => ∃ k : Int, σ2 = [some (.ref W), some (.int (d : Int)), some (.int k), none, none] ∧ 0 ≤ k ∧ (d = 0 → k < 6) ∧ Well L ns H2 W ∧ But W H H2) ?_ (fun rest => ?_)
    rotate_left
    · refine ⟨_, rfl, rfl, _, rfl, ite2 (fun h => ?_) (fun h => ?_)⟩
      · refine ⟨_, rfl, .inl ⟨k0, rfl, _, _, rfl, rfl, (by show (0 : Int) < _; decide), ?_⟩⟩
        obtain ⟨m0, m1⟩ := mod_bound k0 (m := 6) (by decide)
        exact rest _ _ ⟨_, rfl, m0, fun _ => m1, w1, b1⟩
      · refine rest _ _ ⟨k0, rfl, a0, fun hd => ?_, w1, b1⟩
        subst hd
        exact absurd (decide_eq_true rfl) h
    rintro σ2 H2 ⟨k, rfl, k0', kd, w2, b2⟩
    refine ⟨_, rfl, rfl, _, rfl, ite2 (fun _ => ?_) (fun _ => ?_)⟩
    · refine ⟨_, rfl, W, L, ns, 80, rfl, w2, by decide, by decide, fun r H3 _ _ w3 b3 => ⟨_, _, rfl, rfl, ?_⟩⟩
      exact q _ _ (.inl ⟨_, .base (.int _), kit_ty (by decide +kernel)⟩) w3 (b2.trans b3)
    refine ⟨_, rfl, rfl, _, rfl, ite2 (fun _ => ?_) (fun _ => ?_)⟩
    · refine ⟨_, _, rfl, rfl, ⟨by decide, by decide, by decide⟩, _, rfl, _, _, rfl, rfl, ⟨by decide, by decide, by decide⟩, (by decide : 7 ≤ sizeLine), fun p np => ?_⟩
      dsimp only
      generalize (-(10 : Int) ^ Int.toNat 29) = big1
      generalize ((10 : Int) ^ Int.toNat 29) = big2
      have x1 := w2.ne np
      have s1 := same_new (o := .lst [.int big1, .int big2, .int 60, .int 61, .int 8, .int 9, .int 30]) np
      refine ⟨_, rfl, W, L, ns, 7, rfl, w2.new np, by decide, by decide, fun r H3 r0 r1 w3 b3 => ?_⟩
      have g := b3 _ _ x1 (upd_same (o := .lst [.int big1, .int big2, .int 60, .int 61, .int 8, .int 9, .int 30]))
      obtain ⟨v, ev, mv⟩ := atI_in (xs := [V.int big1, .int big2, .int 60, .int 61, .int 8, .int 9, .int 30]) r0 (by exact r1)
      obtain ⟨i, rfl⟩ : ∃ i : Int, v = .int i := by
        simp only [List.mem_cons, List.not_mem_nil, or_false] at mv
        rcases mv with rfl | rfl | rfl | rfl | rfl | rfl | rfl <;> exact ⟨_, rfl⟩
      refine ⟨p, _, _, .int i, rfl, rfl, SqL.of g, ev, ?_⟩
      exact q _ _ (.inl ⟨_, .base (.int _), kit_ty (by decide +kernel)⟩) w3 ((b2.trans (But.same s1)).trans b3)
    refine ⟨_, rfl, rfl, _, rfl, ite2 (fun _ => ?_) (fun _ => ?_)⟩
    · refine ⟨_, rfl, W, L, ns, 2, rfl, w2, by decide, by decide, fun r H3 _ _ w3 b3 => ⟨rfl, ?_⟩⟩
      exact q _ _ (.inl ⟨_, .base (.bl _), kit_ty (by decide +kernel)⟩) w3 (b2.trans b3)
    refine ⟨_, rfl, rfl, _, rfl, ite2 (fun _ => ?_) (fun _ => ?_)⟩
    · exact q _ _ (.inl ⟨_, .base .non, kit_ty (by decide +kernel)⟩) w2 b2
    refine ⟨_, rfl, _, _, rfl, rfl, _, rfl, ite2 (fun _ => ?_) (fun h5 => ?_)⟩
    · refine ⟨(by decide : 7 ≤ sizeLine), fun p np => ?_⟩
      have x1 := w2.ne np
      have s1 := same_new (o := .lst [V.str (Str.ofString ""), .str (Str.ofString "0"), .str (Str.ofString "01"), .str (Str.ofString "2"), .str (Str.ofString "-"), .str (Str.ofString "size 1\n-\n"), .str (Str.ofString " \n")]) np
      refine ⟨_, rfl, W, L, ns, 7, rfl, w2.new np, by decide, by decide, fun r H3 r0 r1 w3 b3 => ?_⟩
      have g := b3 _ _ x1 (upd_same (o := .lst [V.str (Str.ofString ""), .str (Str.ofString "0"), .str (Str.ofString "01"), .str (Str.ofString "2"), .str (Str.ofString "-"), .str (Str.ofString "size 1\n-\n"), .str (Str.ofString " \n")]))
      obtain ⟨v, ev, mv⟩ := atI_in (xs := [V.str (Str.ofString ""), .str (Str.ofString "0"), .str (Str.ofString "01"), .str (Str.ofString "2"), .str (Str.ofString "-"), .str (Str.ofString "size 1\n-\n"), .str (Str.ofString " \n")]) r0 (by exact r1)
      refine ⟨p, _, _, v, rfl, rfl, SqL.of g, ev, ?_⟩
      exact q _ _ (.inr (any_menu mv)) w3 ((b2.trans (But.same s1)).trans b3)
    -- deeper
    have h5' : ¬ k ≤ 5 := fun z => h5 (decide_eq_true z)
    rcases hR with rfl | ⟨e, rfl, rfl⟩
    · exact absurd (kd rfl) (by omega)
    refine ⟨_, rfl, W, L, ns, 4, rfl, w2, by decide, by decide, fun r H3 r0 r1 w3 b3 => ?_⟩
    refine ⟨r, rfl, by omega, by omega, fun D1 nD1 => ?_⟩
    refine lc_draw (j := 4) (P := fun i x => x = .int (0 + i)) (walk_range (lo := 0) (n := r.toNat)) (L := L) (ns := ns) (W := W) (fun i v H' => True) w3 nD1 (Nat.le_trans (by omega : r.toNat ≤ 4) (by decide)) (fun _ _ => trivial) (fun i v H1 H2 r t => trivial) ?_ ?_
    · intro i x H4 hi w4 b4 hx Kt hK
      refine ⟨_, rfl, _, rfl, _, _, rfl, rfl, W, L, ns, ?_, w4, fun v H5 _ w5 b5 => hK v H5 w5 b5 trivial⟩
      have e1 : (((e + 1 : Nat) : Int) - 1) = (e : Int) := by omega
      show [V.ref W, V.int (((e + 1 : Nat) : Int) - 1)] = _
      rw [e1]
    · intro ys H4 w4 b4 hD hl _
      have bb := (b2.trans b3).trans b4
      refine ⟨_, rfl, _, _, rfl, rfl, _, rfl, ite2 (fun _ => ?_) (fun _ => ?_)⟩
      · refine ⟨_, rfl, D1, ys, rfl, .inl ⟨SqL.of hD, fun pT nT => ?_⟩⟩
        exact q _ _ (.inl ⟨_, .base (.tup upd_same), kit_ty (by decide +kernel)⟩) (w4.new nT) (bb.trans (But.same (same_new nT)))
      refine ⟨_, rfl, rfl, _, rfl, ite2 (fun _ => ?_) (fun _ => ?_)⟩
      · exact ⟨_, rfl, q _ _ (.inl ⟨_, .base (.lst hD), kit_ty (by decide +kernel)⟩) w4 bb⟩
      · intro pD nD
        refine ⟨_, rfl, upd_same, [(Sum.inr "a", .ref D1), (Sum.inl 1, .non)], rfl, (by show 2 ≤ 15; decide), ?_⟩
        rw [upd_upd]
        exact q _ _ (.inl ⟨_, .base (.dK upd_same), kit_ty (by decide +kernel)⟩) (w4.new nD) (bb.trans (But.same (same_new nD)))
theorem ok_any0 (D : Def K mg "_law_any" sAny ["_law_well_here", "_law_deep"]) (G : Gb mg) (C1 : CDraw P w K mg base) : ∀ d : Nat, Callee P w K mg base (3 + d + 1) "_law_any" ["_law_well_here", "_law_deep"] (spAny K d)
  | 0 => by
    obtain ⟨f, fd, F, h1, h2⟩ := id D
    exact ok_anyAt 0 (fun _ _ _ _ => False) (.inl rfl) D G C1 ⟨f, fd, ⟨fun _ _ _ _ z => z.elim, fun _ _ _ _ _ _ _ _ _ _ _ _ _ z => z.elim⟩, h1, F.kp, h2⟩
  | d + 1 => ok_anyAt (d + 1) (spAny K d) (.inr ⟨d, rfl, rfl⟩) D G C1 (ok_any0 D G C1 d)
end
end Kl
namespace Kl
open PySem PySem.Spec PyProof.Rows L2 TL
/-! ### rows of texts bent: how long -/
abbrev strsV (ss : List (List Nat)) : List V := (ss.map sOf).map V.str
def tot (ss : List (List Nat)) : Nat := (ss.map List.length).sum
theorem tot_cons (p : List Nat) (ss : List (List Nat)) : tot (p :: ss) = p.length + tot ss := rfl
theorem tot_app (a b : List (List Nat)) : tot (a ++ b) = tot a + tot b := by
  unfold tot
  rw [List.map_append, List.sum_append]
theorem tot_take (ss : List (List Nat)) (n : Nat) : tot (ss.take n) ≤ tot ss := by
  have h := tot_app (ss.take n) (ss.drop n)
  rw [List.take_append_drop] at h
  omega
theorem tot_drop (ss : List (List Nat)) (n : Nat) : tot (ss.drop n) ≤ tot ss := by
  have h := tot_app (ss.take n) (ss.drop n)
  rw [List.take_append_drop] at h
  omega
theorem tot_set : ∀ (ss : List (List Nat)) (i : Nat) (v : List Nat) (h : i < ss.length), tot (ss.set i v) + (ss[i]).length = tot ss + v.length
  | [], _, _, h => by simp at h
  | p :: ss, 0, v, h => by
    show tot (v :: ss) + p.length = tot (p :: ss) + v.length
    rw [tot_cons, tot_cons]
    omega
  | p :: ss, i + 1, v, h => by
    have ih := tot_set ss i v (by simpa using h)
    show tot (p :: ss.set i v) + (ss[i]'(by simpa using h)).length = tot (p :: ss) + v.length
    rw [tot_cons, tot_cons]
    omega
theorem tot_swap (ss : List (List Nat)) (i j : Nat) (hi : i < ss.length) (hj : j < ss.length) : tot ((ss.set i ss[j]).set j ss[i]) = tot ss := by
  have h1 := tot_set ss i ss[j] hi
  have hj' : j < (ss.set i ss[j]).length := by rw [List.length_set]; exact hj
  have h2 := tot_set (ss.set i ss[j]) j ss[i] hj'
  have e : ((ss.set i ss[j])[j]).length = (ss[j]).length := by
    rw [List.getElem_set]
    split
    · rfl
    · rfl
  omega
theorem joinL_len (s : Nat) : ∀ ps : List (List Nat), (joinL [s] ps).length ≤ tot ps + ps.length
  | [] => by simp [joinL]
  | p :: qs => by
    rw [joinL_cons, List.length_append, tot_cons, List.length_cons]
    have h : ∀ qs : List (List Nat), (qs.flatMap (fun q => s :: q)).length = tot qs + qs.length := fun qs => by
      induction qs with
      | nil => rfl
      | cons q qs ih =>
        rw [List.flatMap_cons, List.length_append, ih, tot_cons, List.length_cons, List.length_cons]
        omega
    rw [h]
    omega
theorem cut_tot (s : Nat) (l : List Nat) : tot (cut s l) ≤ l.length := by
  have e := join_cut s l
  cases h : cut s l with
  | nil => exact absurd h (spl_ne s l [])
  | cons p qs =>
    rw [h, joinL_cons] at e
    rw [tot_cons]
    have hq : ∀ qs : List (List Nat), tot qs ≤ (qs.flatMap (fun q => s :: q)).length := fun qs => by
      induction qs with
      | nil => exact Nat.le_refl _
      | cons q qs ih =>
        rw [List.flatMap_cons, List.length_append, tot_cons, List.length_cons]
        omega
    have h2 := hq qs
    have h3 := congrArg List.length e
    rw [List.length_append] at h3
    omega
theorem cut_to (xs : List V) (k : Nat) : cutV xs none (some (k : Int)) = xs.take k := by
  unfold cutV
  rw [HT.sIx_none, HT.sIx_nat]
  show List.take (min k xs.length - 0) (xs.drop 0) = _
  rw [Nat.sub_zero, List.drop_zero, List.take_eq_take_iff]
  omega
theorem cut_from (xs : List V) (k : Nat) : cutV xs (some (k : Int)) none = xs.drop k := by
  unfold cutV
  rw [HT.sIx_none, HT.sIx_nat]
  by_cases h : k ≤ xs.length
  · rw [Nat.min_eq_left h, List.take_of_length_le (by rw [List.length_drop]; exact Nat.le_refl _)]
  · rw [Nat.min_eq_right (by omega), List.drop_length, List.drop_of_length_le (by omega : xs.length ≤ k)]
    simp
theorem ixN_nat {n i : Nat} (h : i < n) : ixN n (i : Int) = some i := by
  unfold ixN
  rw [if_pos (by omega), if_pos (by omega), Int.toNat_natCast]
theorem strsV_take (ss : List (List Nat)) (n : Nat) : (strsV ss).take n = strsV (ss.take n) := by
  show ((ss.map sOf).map V.str).take n = ((ss.take n).map sOf).map V.str
  rw [List.map_take, List.map_take]
theorem strsV_drop (ss : List (List Nat)) (n : Nat) : (strsV ss).drop n = strsV (ss.drop n) := by
  show ((ss.map sOf).map V.str).drop n = ((ss.drop n).map sOf).map V.str
  rw [List.map_drop, List.map_drop]
theorem strsV_app (a b : List (List Nat)) : strsV a ++ strsV b = strsV (a ++ b) := by
  show (a.map sOf).map V.str ++ (b.map sOf).map V.str = ((a ++ b).map sOf).map V.str
  rw [List.map_append, List.map_append]
theorem strsV_set (ss : List (List Nat)) (i : Nat) (v : List Nat) : (strsV ss).set i (V.str (sOf v)) = strsV (ss.set i v) := by
  show ((ss.map sOf).map V.str).set i (V.str (sOf v)) = ((ss.set i v).map sOf).map V.str
  rw [List.map_set, List.map_set]
theorem strsV_at {ss : List (List Nat)} {i : Nat} (h : i < ss.length) : atI (strsV ss) (i : Int) = some (V.str (sOf ss[i])) := by
  refine atI_nat ?_
  show ((ss.map sOf).map V.str)[i]? = _
  rw [List.getElem?_map, List.getElem?_map, List.getElem?_eq_getElem h]
  rfl
theorem strsV_len (ss : List (List Nat)) : (strsV ss).length = ss.length := by
  show ((ss.map sOf).map V.str).length = _
  rw [List.length_map, List.length_map]
theorem str_len_app (a b : Str) : (a ++ b).length = a.length + b.length := by
  rw [len_tl, len_tl a, len_tl b, tl_append, List.length_append]
section
variable {P : Program} {w : World} {K : PySem.W.Frag} {mg : Str → Option Value} {base : Heap}
abbrev sBentRow : Stmt := top 49
theorem scBentRow : FnScope ["_law_well_here", "_law_row", "_law_at", "_law_other", "_law_kind"] ["_law_well_here", "_law_row"] (defScope sBentRow) := ⟨rfl, rfl, rfl, by decide +kernel, rfl, by decide +kernel, by decide +kernel⟩
def spBentRow : Sp := fun vs H Q _ => ∃ (W L : Addr) (ns : List Int) (p : Addr) (ss : List (List Nat)), vs = [.ref W, .ref p] ∧ Well L ns H W ∧ H p = some (.lst (strsV ss)) ∧ p ≠ W ∧ 1 ≤ ss.length ∧ ss.length ≤ 1000000 ∧
  ∀ (r : Addr) (rs : List (List Nat)) (H' : Hp), H' r = some (.lst (strsV rs)) → rs.length ≤ ss.length + 1 → tot rs ≤ 2 * tot ss → Well L ns H' W → But W H H' → Q (.ref r) H'
theorem ok_bentRow (D : Def K mg "_law_bent_row" sBentRow ["_law_well_here", "_law_row"]) (G : Gb mg) (C1 : CDraw P w K mg base) : Callee P w K mg base 4 "_law_bent_row" ["_law_well_here", "_law_row"] spBentRow := by
  refine D.ok scBentRow (fun vs H Q E h => ?_) (fun f cdv A outer s H vs Q E hr h => ?_)
  · obtain ⟨W, L, ns, p, ss, rfl, _⟩ := h
    rfl
  · obtain ⟨W, L, ns, p, ss, rfl, hw, hp, hpW, l1, l2, q⟩ := h
    refine ⟨_, pss_cons (ps_set (i := 2) scBentRow.nd rfl (Or.inl rfl) (pe_cl C1 hr (by rfl) (pa_cons (pv 0) (pa_cons (pe_callB call_len_seq (by rfl) G.len PySem.boot_len (pa_cons (pv 1) pa_nil)) pa_nil))))
      (pss_cons (ps_set (i := 3) scBentRow.nd rfl (Or.inl rfl) (pe_cl C1 hr (by rfl) (pa_cons (pv 0) (pa_cons (pe_callB call_len_seq (by rfl) G.len PySem.boot_len (pa_cons (pv 1) pa_nil)) pa_nil))))
      (pss_cons (ps_set (i := 4) scBentRow.nd rfl (Or.inl rfl) (pe_cl C1 hr (by rfl) (pa_cons (pv 0) (pa_cons pe_int pa_nil))))
      (pss_cons (ps_if (pt_cmpR op_eq (pv 4) pe_int (nomark _)) (pss_one (ps_ret (pe_op op_cat (pe_slice sl_list (pv 1) po_none (po_some (pv 2))) (pe_slice sl_list (pv 1) (po_some (pe_op op_add (pv 2) pe_int)) po_none)))) pss_nil)
      (pss_cons (ps_if (pt_cmpR op_eq (pv 4) pe_int (nomark _)) (pss_one (ps_ret (pe_op op_cat (pe_slice sl_list (pv 1) po_none (po_some (pe_op op_add (pv 2) pe_int))) (pe_slice sl_list (pv 1) (po_some (pv 2)) po_none)))) pss_nil)
      (pss_cons (ps_set (i := 1) scBentRow.nd rfl (Or.inl rfl) (pe_callTy call_list_of (by rfl) G.tlst (by decide +kernel) (pa_cons (pv 1) pa_nil)))
      (pss_cons (ps_asg (pe_tup (pa_cons (pe_ix ix_list (pv 1) (pv 3) (fun _ _ => rfl)) (pa_cons (pe_ix ix_list (pv 1) (pv 2) (fun _ _ => rfl)) pa_nil))) (pg_tup rfl (pgs_cons (pg_sub (pv 1) (pv 2) set_list) (pgs_cons (pg_sub (pv 1) (pv 3) set_list) pgs_nil))))
      (pss_one (ps_ret (pv 1))))))))), ?_⟩
    have hn : (strsV ss).length = ss.length := by rw [List.length_map, List.length_map]
    refine ⟨_, rfl, _, rfl, p, _, rfl, .inl (SqL.of hp), W, L, ns, _, rfl, hw, by rw [hn]; omega, by rw [hn]; omega, fun a H1 a0 a1 w1 b1 => ?_⟩
    have hp1 := b1 _ _ hpW hp
    refine ⟨_, rfl, _, rfl, p, _, rfl, .inl (SqL.of hp1), W, L, ns, _, rfl, w1, by rw [hn]; omega, by rw [hn]; omega, fun o H2 o0 o1 w2 b2 => ?_⟩
    have hp2 := b2 _ _ hpW hp1
    refine ⟨_, rfl, W, L, ns, 3, rfl, w2, by decide, by decide, fun k H3 _ _ w3 b3 => ?_⟩
    have hp3 := b3 _ _ hpW hp2
    have bb := (b1.trans b2).trans b3
    rw [hn] at a1 o1
    obtain ⟨ia, rfl⟩ : ∃ ia : Nat, a = (ia : Int) := ⟨a.toNat, by omega⟩
    obtain ⟨io, rfl⟩ : ∃ io : Nat, o = (io : Int) := ⟨o.toNat, by omega⟩
    have hia : ia < ss.length := by omega
    have hio : io < ss.length := by omega
    have e1 : ((ia : Nat) : Int) + 1 = ((ia + 1 : Nat) : Int) := by omega
    refine ⟨_, rfl, rfl, _, rfl, ite2 (fun _ => ?_) (fun _ => ?_)⟩
    · refine ⟨_, rfl, _, rfl, _, rfl, p, _, rfl, SqL.of hp3, fun p1 n1 => ?_⟩
      rw [cut_to, strsV_take]
      have s1 := same_new (o := .lst (strsV (ss.take ia))) n1
      have g1 : upd H3 p1 (.lst (strsV (ss.take ia))) p1 = some (.lst (strsV (ss.take ia))) := upd_same
      refine ⟨_, rfl, _, rfl, _, _, rfl, rfl, _, rfl, p, _, rfl, SqL.of (s1 _ _ hp3), fun p2 n2 => ?_⟩
      rw [e1, cut_from, strsV_drop]
      have s2 := same_new (o := .lst (strsV (ss.drop (ia + 1)))) n2
      refine ⟨p1, p2, _, _, rfl, rfl, s2 _ _ g1, upd_same, ?_, fun p3 n3 => ?_⟩
      · rw [strsV_len, strsV_len, List.length_take, List.length_drop]
        exact small_line (by omega)
      rw [strsV_app]
      have s3 := same_new (o := .lst (strsV (ss.take ia ++ ss.drop (ia + 1)))) n3
      refine q p3 (ss.take ia ++ ss.drop (ia + 1)) _ upd_same ?_ ?_ (w3.same (s1.trans (s2.trans s3))) (bb.trans (But.same (s1.trans (s2.trans s3))))
      · rw [List.length_append, List.length_take, List.length_drop]
        omega
      · rw [tot_app]
        have h1 := tot_take ss ia
        have h2 := tot_drop ss (ia + 1)
        omega
    refine ⟨_, rfl, rfl, _, rfl, ite2 (fun _ => ?_) (fun _ => ?_)⟩
    · refine ⟨_, rfl, _, rfl, _, _, rfl, rfl, _, rfl, p, _, rfl, SqL.of hp3, fun p1 n1 => ?_⟩
      rw [e1, cut_to, strsV_take]
      have s1 := same_new (o := .lst (strsV (ss.take (ia + 1)))) n1
      have g1 : upd H3 p1 (.lst (strsV (ss.take (ia + 1)))) p1 = some (.lst (strsV (ss.take (ia + 1)))) := upd_same
      refine ⟨_, rfl, _, rfl, _, rfl, p, _, rfl, SqL.of (s1 _ _ hp3), fun p2 n2 => ?_⟩
      rw [cut_from, strsV_drop]
      have s2 := same_new (o := .lst (strsV (ss.drop ia))) n2
      refine ⟨p1, p2, _, _, rfl, rfl, s2 _ _ g1, upd_same, ?_, fun p3 n3 => ?_⟩
      · rw [strsV_len, strsV_len, List.length_take, List.length_drop]
        exact small_line (by omega)
      rw [strsV_app]
      have s3 := same_new (o := .lst (strsV (ss.take (ia + 1) ++ ss.drop ia))) n3
      refine q p3 (ss.take (ia + 1) ++ ss.drop ia) _ upd_same ?_ ?_ (w3.same (s1.trans (s2.trans s3))) (bb.trans (But.same (s1.trans (s2.trans s3))))
      · rw [List.length_append, List.length_take, List.length_drop]
        omega
      · rw [tot_app]
        have h1 := tot_take ss (ia + 1)
        have h2 := tot_drop ss ia
        omega
    refine ⟨_, rfl, p, _, rfl, .inl (SqL.of hp3), fun l nl => ?_⟩
    have s1 := same_new (o := .lst (strsV ss)) nl
    have g1 : upd H3 l (.lst (strsV ss)) l = some (.lst (strsV ss)) := upd_same
    refine ⟨_, rfl, _, rfl, l, _, _, _, rfl, rfl, SqL.of g1, strsV_at hio, _, rfl, _, rfl, l, _, _, _, rfl, rfl, SqL.of g1, strsV_at hia, (by decide : 2 ≤ sizeLine), fun t nt => ?_⟩
    have s2 := same_new (o := .tup [V.str (sOf ss[io]), V.str (sOf ss[ia])]) nt
    have g2 := s2 _ _ g1
    have w4 := w3.same (s1.trans s2)
    have b4 := bb.trans (But.same (W := W) (s1.trans s2))
    have HL : H l = none := by
      cases e : H l with
      | none => rfl
      | some o =>
        exfalso
        by_cases hlW : l = W
        · obtain ⟨c, x, z, h1, _⟩ := w3
          rw [hlW, h1] at nl
          cases nl
        · rw [bb l o hlW e] at nl
          cases nl
    refine ⟨t, _, rfl, SqT.of upd_same, rfl, _, _, rfl, _, rfl, _, rfl, l, _, _, ia, rfl, rfl, g2, ixN_nat (by rw [strsV_len]; exact hia), ?_⟩
    rw [strsV_set]
    refine ⟨_, _, rfl, _, rfl, _, rfl, l, _, _, io, rfl, rfl, upd_same, ixN_nat (by rw [strsV_len, List.length_set]; exact hio), ?_⟩
    rw [strsV_set]
    refine ⟨rfl, _, rfl, q l ((ss.set ia ss[io]).set io ss[ia]) _ upd_same ?_ ?_ (Well.mut hw HL (Well.mut hw HL w4)) (But.mut (But.mut b4 HL) HL)⟩
    · rw [List.length_set, List.length_set]
      omega
    · rw [tot_swap ss ia io hia hio]
      omega
end
end Kl
namespace Kl
open PySem PySem.Spec PyProof.Rows L2 TL
section
variable {P : Program} {w : World} {K : PySem.W.Frag} {mg : Str → Option Value} {base : Heap}
abbrev sBent : Stmt := top 50
theorem scBent : FnScope ["_law_well_here", "_law_text", "_law_kind", "_law_at", "_law_sign"] ["_law_well_here", "_law_text"] (defScope sBent) := ⟨rfl, rfl, rfl, by decide +kernel, rfl, by decide +kernel, by decide +kernel⟩
theorem signs_len : (Str.ofString "0123456789:- \nsizeA").cps.toList.length = 19 := by decide +kernel
theorem join_two (s : Nat) (rs : List (List Nat)) (hl : rs.length ≤ 1000000) (ht : tot rs ≤ 1000000) : ((rs.map sOf).map (·.length)).sum + (rs.map sOf).length * (sOf [s]).length ≤ 16777216 := by
  have e : ((rs.map sOf).map (·.length)).sum = tot rs := by
    unfold tot
    rw [List.map_map]
    congr 1
  rw [e, List.length_map, sOf_len]
  show _ + _ * 1 ≤ _
  omega
def spBent : Sp := fun vs H Q _ => ∃ (W L : Addr) (ns : List Int) (z : Str), vs = [.ref W, .str z] ∧ Well L ns H W ∧ z.length ≤ 20000 ∧ ∀ (y : Str) (H' : Hp), y.length ≤ 4 * z.length + 2 → Well L ns H' W → But W H H' → Q (.str y) H'
theorem ok_bent (D : Def K mg "_law_bent" sBent ["_law_well_here", "_law_text"]) (G : Gb mg) (C1 : CDraw P w K mg base) (C2 : Callee P w K mg base 4 "_law_bent_row" ["_law_well_here", "_law_row"] spBentRow) : Callee P w K mg base 5 "_law_bent" ["_law_well_here", "_law_text"] spBent := by
  refine D.ok scBent (fun vs H Q E h => ?_) (fun f cdv A outer s H vs Q E hr h => ?_)
  · obtain ⟨W, L, ns, z, rfl, _⟩ := h
    rfl
  · obtain ⟨W, L, ns, z, rfl, hw, hz, q⟩ := h
    have hr3 : Room 3 _ := hr.mono (by decide)
    refine ⟨_, pss_cons (ps_set (i := 2) scBent.nd rfl (Or.inl rfl) (pe_cl C1 hr3 (by rfl) (pa_cons (pv 0) (pa_cons pe_int pa_nil))))
      (pss_cons (ps_set (i := 3) scBent.nd rfl (Or.inl rfl) (pe_cl C1 hr3 (by rfl) (pa_cons (pv 0) (pa_cons (pe_op op_add (pe_callB call_len_str (by rfl) G.len PySem.boot_len (pa_cons (pv 1) pa_nil)) pe_int) pa_nil))))
      (pss_cons (ps_set (i := 4) scBent.nd rfl (Or.inl rfl) (pe_ix ix_str pe_str (pe_cl C1 hr3 (by rfl) (pa_cons (pv 0) (pa_cons pe_int pa_nil))) (fun _ _ => rfl)))
      (pss_cons (ps_if (pt_cmpR op_eq (pv 2) pe_int (nomark _)) (pss_one (ps_ret (pe_op op_add_str (pe_slice sl_str (pv 1) po_none (po_some (pv 3))) (pe_slice sl_str (pv 1) (po_some (pe_op op_add (pv 3) pe_int)) po_none)))) pss_nil)
      (pss_cons (ps_if (pt_cmpR op_le (pv 2) pe_int (nomark _)) (pss_one (ps_ret (pe_op op_add_str (pe_op op_add_str (pe_slice sl_str (pv 1) po_none (po_some (pv 3))) (pv 4)) (pe_slice sl_str (pv 1) (po_some (pe_op op_add (pv 3) pe_int)) po_none)))) pss_nil)
      (pss_cons (ps_if (pt_cmpR op_eq (pv 2) pe_int (nomark _)) (pss_one (ps_ret (pe_op op_add_str (pe_op op_add_str (pe_slice sl_str (pv 1) po_none (po_some (pv 3))) (pv 4)) (pe_slice sl_str (pv 1) (po_some (pv 3)) po_none)))) pss_nil)
      (pss_cons (ps_if (pt_cmpR op_eq (pv 2) pe_int (nomark _)) (pss_one (ps_ret (pe_op op_add_str (pe_op op_add_str (pe_op op_add_str (pe_slice sl_str (pv 1) po_none (po_some (pv 3))) (pe_slice sl_str (pv 1) (po_some (pe_op op_add (pv 3) pe_int)) (po_some (pe_op op_add (pv 3) pe_int))))
          (pe_slice sl_str (pv 1) (po_some (pv 3)) (po_some (pe_op op_add (pv 3) pe_int)))) (pe_slice sl_str (pv 1) (po_some (pe_op op_add (pv 3) pe_int)) po_none)))) pss_nil)
      (pss_cons (ps_if (PW.pt (pw_and (pt_cmpR op_eq (pv 2) pe_int (nomark _)) (pw_and1 (pt_cmpR op_gt (pe_callB call_len_str (by rfl) G.len PySem.boot_len (pa_cons (pv 1) pa_nil)) pe_int (nomark _))))) (pss_one (ps_ret (pe_join pe_str (pe_cl C2 hr (by rfl) (pa_cons (pv 0) (pa_cons (pe_split (pv 1) pe_str) pa_nil)))))) pss_nil)
      (pss_cons (ps_if (PW.pt (pw_and (pt_cmpR op_eq (pv 2) pe_int (nomark _)) (pw_and1 (pt_cmpR op_gt (pe_callB call_len_str (by rfl) G.len PySem.boot_len (pa_cons (pv 1) pa_nil)) pe_int (nomark _))))) (pss_one (ps_ret (pe_join pe_str (pe_cl C2 hr (by rfl) (pa_cons (pv 0) (pa_cons (pe_split (pv 1) pe_str) pa_nil)))))) pss_nil)
      (pss_cons (ps_if (pt_cmpR op_eq (pv 2) pe_int (nomark _)) (pss_one (ps_ret (pe_op op_add_str (pe_op op_add_str (pe_slice sl_str (pv 1) po_none (po_some (pv 3))) pe_str) (pe_slice sl_str (pv 1) (po_some (pv 3)) po_none)))) pss_nil)
      (pss_one (ps_ret (pe_op op_add_str (pv 1) (pe_ix ix_list (pe_lst (pa_cons pe_str (pa_cons pe_str (pa_cons pe_str (pa_cons pe_str pa_nil))))) (pe_cl C1 hr3 (by rfl) (pa_cons (pv 0) (pa_cons pe_int pa_nil))) (fun _ _ => rfl)))))))))))))), ?_⟩
    have hzl : z.length ≤ sizeLine := small_line (by omega)
    have c := fun lo hi => cutS_length z lo hi
    refine ⟨_, rfl, W, L, ns, 9, rfl, hw, by decide, by decide, fun k H1 _ _ w1 b1 => ?_⟩
    refine ⟨_, rfl, _, rfl, z, rfl, hzl, _, _, rfl, rfl, W, L, ns, _, rfl, w1, by omega, by omega, fun a H2 a0 a1 w2 b2 => ?_⟩
    refine ⟨_, rfl, W, L, ns, 19, rfl, w2, by decide, by decide, fun r H3 r0 r1 w3 b3 => ?_⟩
    obtain ⟨cd, ecd, _⟩ := atI_in (xs := (Str.ofString "0123456789:- \nsizeA").cps.toList) r0 (by rw [signs_len]; exact r1)
    have lsz : (Str.ofString "0123456789:- \nsizeA").length ≤ sizeLine := by rw [len_tl]; show (Str.ofString "0123456789:- \nsizeA").cps.toList.length ≤ _; rw [signs_len]; decide
    refine ⟨_, _, cd, rfl, rfl, lsz, ecd, ?_⟩
    have bb := (b1.trans b2).trans b3
    have fin : ∀ y : Str, y.length ≤ 4 * z.length + 2 → Q (.str y) H3 := fun y hy => q y H3 hy w3 bb
    have ls : (⟨#[cd]⟩ : Str).length = 1 := rfl
    -- 0
    refine ⟨_, rfl, rfl, _, rfl, ite2 (fun _ => ?_) (fun _ => ?_)⟩
    · refine ⟨_, rfl, _, rfl, _, rfl, z, rfl, hzl, _, rfl, _, rfl, _, _, rfl, rfl, _, rfl, z, rfl, hzl, _, _, rfl, rfl, ?_, fin _ ?_⟩
      · have h1 := c none (some a)
        have h2 := c (some (a + 1)) none
        exact small_line (by omega)
      · have h1 := c none (some a)
        have h2 := c (some (a + 1)) none
        rw [str_len_app]
        omega
    -- 1, 2
    refine ⟨_, rfl, _, _, rfl, rfl, _, rfl, ite2 (fun _ => ?_) (fun _ => ?_)⟩
    · have h1 := c none (some a)
      have h2 := c (some (a + 1)) none
      refine ⟨_, rfl, _, rfl, _, rfl, z, rfl, hzl, _, rfl, _, _, rfl, rfl, ?_, _, rfl, _, rfl, _, _, rfl, rfl, _, rfl, z, rfl, hzl, _, _, rfl, rfl, ?_, fin _ ?_⟩
      · exact small_line (by omega)
      · rw [str_len_app]
        exact small_line (by omega)
      · rw [str_len_app, str_len_app]
        omega
    -- 3
    refine ⟨_, rfl, rfl, _, rfl, ite2 (fun _ => ?_) (fun _ => ?_)⟩
    · have h1 := c none (some a)
      have h2 := c (some a) none
      refine ⟨_, rfl, _, rfl, _, rfl, z, rfl, hzl, _, rfl, _, _, rfl, rfl, ?_, _, rfl, _, rfl, _, rfl, z, rfl, hzl, _, _, rfl, rfl, ?_, fin _ ?_⟩
      · exact small_line (by omega)
      · rw [str_len_app]
        exact small_line (by omega)
      · rw [str_len_app, str_len_app]
        omega
    -- 4
    refine ⟨_, rfl, rfl, _, rfl, ite2 (fun _ => ?_) (fun _ => ?_)⟩
    · have h1 := c none (some a)
      have h2 := c (some (a + 1)) (some (a + 2))
      have h3 := c (some a) (some (a + 1))
      have h4 := c (some (a + 2)) none
      refine ⟨_, rfl, _, rfl, _, rfl, z, rfl, hzl, _, rfl, _, rfl, _, _, rfl, rfl, _, rfl, _, rfl, _, _, rfl, rfl, _, rfl, z, rfl, hzl, _, _, rfl, rfl, ?_, ?_⟩
      · exact small_line (by omega)
      refine ⟨_, rfl, _, rfl, _, rfl, _, rfl, _, _, rfl, rfl, _, rfl, z, rfl, hzl, _, _, rfl, rfl, ?_, ?_⟩
      · rw [str_len_app]
        exact small_line (by omega)
      refine ⟨_, rfl, _, rfl, _, _, rfl, rfl, _, rfl, z, rfl, hzl, _, _, rfl, rfl, ?_, fin _ ?_⟩
      · rw [str_len_app, str_len_app]
        exact small_line (by omega)
      · rw [str_len_app, str_len_app, str_len_app]
        omega
    -- 5, 6
    have rows : ∀ (s : Nat), s < 256 → ∀ (sx : Str), sx = sOf [s] → tRet (tM1 (fun x xs H Q => ∃ a p, ∃ ys : List Str, x = .str a ∧ xs = [.ref p] ∧ (SqL K H p (ys.map V.str) ∨ SqT K H p (ys.map V.str)) ∧
          (ys.map (·.length)).sum + ys.length * a.length ≤ 16777216 ∧ Q (.str (Txt.join a ys)) H) (tC (.str sx)) (tCall spBentRow [] E0 (tCons (tVar 0) (tCons (tM1 (fun x xs H Q => ∃ a b, x = .str a ∧ xs = [.str b] ∧ (b.length == 0) = false ∧ a.length + 2 ≤ sizeLine ∧ rNewStrs (Txt.split a b) H Q) (tVar 1) (tC (.str sx))) tNil))))
          { nx := fun _ H' => Q .non H', rt := Q } [some (.ref W), some (.str z), some (.int k), some (.int a), some (.str ⟨#[cd]⟩)] H3 := by
      rintro s hs _ rfl
      refine ⟨⟨_, rfl⟩, _, rfl, _, rfl, ⟨_, rfl⟩, z, _, rfl, rfl, rfl, small_line (by omega), fun p np => ?_⟩
      have esp : Txt.split z (sOf [s]) = (cut s (tl z)).map sOf := by
        have h := split_cut (tl z) s hs
        rw [sOf_tl] at h
        exact h
      rw [esp]
      have lz : (tl z).length = z.length := (len_tl z).symm
      have hcount : (cut s (tl z)).length ≤ (tl z).length + 1 := spl_count s (tl z) []
      have htot := cut_tot s (tl z)
      have s1 := same_new (o := .lst (strsV (cut s (tl z)))) np
      refine ⟨W, L, ns, p, cut s (tl z), rfl, w3.new np, upd_same, w3.ne np, List.length_pos_iff.mpr (spl_ne s (tl z) []), by omega, fun r2 rs H4 g4 l4 t4 w4 b4 => ?_⟩
      refine ⟨_, r2, rs.map sOf, rfl, rfl, .inl (SqL.of g4), join_two s rs (by omega) (by omega), ?_⟩
      rw [join_sOf]
      refine q _ H4 ?_ w4 ((bb.trans (But.same s1)).trans b4)
      rw [sOf_len]
      have := joinL_len s rs
      omega
    have n5 : (Str.ofString "\n") = sOf [10] := nl_s
    try dsimp only [tNext]
    refine join_if (fun σ2 H2 => σ2 = [some (.ref W), some (.str z), some (.int k), some (.int a), some (.str ⟨#[cd]⟩)] ∧ H2 = H3) ?_ (fun rest => ?_)
    rotate_left
    · refine ⟨_, rfl, rfl, _, rfl, ite2 (fun _ => ?_) (fun _ => ?_)⟩
      · refine ⟨_, rfl, z, rfl, hzl, _, _, rfl, rfl, _, rfl, ite2 (fun _ => ?_) (fun _ => ?_)⟩
        · exact rows 10 (by decide) _ nl_s
        · exact rest _ _ ⟨rfl, rfl⟩
      · exact iteF (rest _ _ ⟨rfl, rfl⟩)
    rintro _ H3' ⟨rfl, eH⟩
    rw [eH]
    try dsimp only [tNext]
    refine join_if (fun σ2 H2 => σ2 = [some (.ref W), some (.str z), some (.int k), some (.int a), some (.str ⟨#[cd]⟩)] ∧ H2 = H3) ?_ (fun rest => ?_)
    rotate_left
    · refine ⟨_, rfl, rfl, _, rfl, ite2 (fun _ => ?_) (fun _ => ?_)⟩
      · refine ⟨_, rfl, z, rfl, hzl, _, _, rfl, rfl, _, rfl, ite2 (fun _ => ?_) (fun _ => ?_)⟩
        · exact rows 32 (by decide) _ blank_s
        · exact rest _ _ ⟨rfl, rfl⟩
      · exact iteF (rest _ _ ⟨rfl, rfl⟩)
    rintro _ H3' ⟨rfl, eH⟩
    rw [eH]
    refine ⟨_, rfl, rfl, _, rfl, ite2 (fun _ => ?_) (fun _ => ?_)⟩
    · have h1 := c none (some a)
      have h2 := c (some a) none
      have h0 : (Str.ofString "0").length = 1 := by rw [zero_s, sOf_len]; rfl
      refine ⟨_, rfl, _, rfl, _, rfl, z, rfl, hzl, _, _, rfl, rfl, ?_, _, rfl, _, rfl, _, rfl, z, rfl, hzl, _, _, rfl, rfl, ?_, fin _ ?_⟩
      · exact small_line (by omega)
      · rw [str_len_app]
        exact small_line (by omega)
      · rw [str_len_app, str_len_app]
        omega
    · refine ⟨_, rfl, (by decide : 4 ≤ sizeLine), fun p np => ?_⟩
      have s1 := same_new (o := .lst [.str (Str.ofString "\n"), .str (Str.ofString " "), .str (Str.ofString "-\n"), .str (Str.ofString "x")]) np
      refine ⟨_, rfl, W, L, ns, 4, rfl, w3.new np, by decide, by decide, fun r4 H4 r40 r41 w4 b4 => ?_⟩
      have g := b4 _ _ (w3.ne np) (upd_same (o := .lst [.str (Str.ofString "\n"), .str (Str.ofString " "), .str (Str.ofString "-\n"), .str (Str.ofString "x")]))
      obtain ⟨v, ev, mv⟩ := atI_in (xs := [V.str (Str.ofString "\n"), .str (Str.ofString " "), .str (Str.ofString "-\n"), .str (Str.ofString "x")]) r40 (by exact r41)
      obtain ⟨y, rfl, hy⟩ : ∃ y : Str, v = .str y ∧ y.length ≤ 2 := by
        simp only [List.mem_cons, List.not_mem_nil, or_false] at mv
        rcases mv with rfl | rfl | rfl | rfl <;> exact ⟨_, rfl, by decide +kernel⟩
      refine ⟨p, _, _, _, rfl, rfl, SqL.of g, ev, _, _, rfl, rfl, small_line (by omega), q _ H4 ?_ w4 ((bb.trans (But.same s1)).trans b4)⟩
      rw [str_len_app]
      omega
end
end Kl
namespace Kl
open PySem PySem.Spec PyProof.Rows L2 TL
/-! ### a machine as data, and what repr shows of it -/
def optD : Option Int → PyData
  | none => .none
  | some i => .int i
def stepD : RStep → PyData
  | some (some (a, b)) => .tuple [.int a, .int b]
  | _ => .none
def rowD : RRow → PyData
  | some (e, ss) => .tuple [optD e, .tuple (ss.map stepD)]
  | none => .none
def machD (n : Int) (rows : List RRow) : PyData := .tuple [.int n, .tuple (rows.map rowD)]
theorem dpAll_of {K : PySem.W.Frag} {H : Hp} {α : Type} {F : V → α → Prop} (g : α → PyData) : ∀ {ws : List V} {xs : List α}, All2 F ws xs → (∀ v x, F v x → x ∈ xs → Dp K H v (g x)) → DpAll K H ws (xs.map g)
  | [], [], _, _ => .nil
  | [], x :: xs, h, _ => absurd h.1 (by simp)
  | v :: ws, [], h, _ => absurd h.1 (by simp)
  | v :: ws, x :: xs, h, f => by
    refine .cons (f v x (h.2 0 v x rfl rfl) (List.mem_cons_self ..)) (dpAll_of g (ws := ws) (xs := xs) ⟨?_, fun i a b ea eb => h.2 (i + 1) a b (by simpa using ea) (by simpa using eb)⟩ fun v y hv hy => f v y hv (List.mem_cons_of_mem _ hy))
    have := h.1
    simpa using this
theorem dp_oV {K : PySem.W.Frag} {H : Hp} (o : Option Int) : Dp K H (oV o) (optD o) := by
  cases o with
  | none => exact .non
  | some i => exact .int i
theorem dp_step {K : PySem.W.Frag} {H : Hp} {bs v : V} {k : Nat} {s : RStep} (h : StepAt bs H v s) (hf : stepFits k s = true) : Dp K H v (stepD s) := by
  match s, h, hf with
  | none, _, hf => exact absurd hf Bool.false_ne_true
  | some none, h, _ =>
    cases (show v = .non from h)
    exact .non
  | some (some (a, b)), ⟨p, e, hp⟩, _ =>
    subst e
    exact .tup (SqT.of hp) (.cons (.int a) (.cons (.int b) .nil))
theorem rowFits_of {n : Int} {k : Nat} {r : RRow} (h : rowFits n k r = true) : ∃ e ss, r = some (e, ss) ∧ (ss.length : Int) = n ∧ endFits e = true ∧ ∀ s ∈ ss, stepFits k s = true := by
  match r, h with
  | none, h => exact absurd h Bool.false_ne_true
  | some (e, ss), h =>
    have h' : (decide ((ss.length : Int) = n) && (endFits e && ss.all (stepFits k))) = true := h
    simp only [Bool.and_eq_true, decide_eq_true_eq, List.all_eq_true] at h'
    exact ⟨e, ss, rfl, h'.1, h'.2.1, h'.2.2⟩
theorem dp_row {K : PySem.W.Frag} {H : Hp} {bs br v : V} {n : Int} {k : Nat} {r : RRow} (h : RowAt bs br H v r) (hf : rowFits n k r = true) : Dp K H v (rowD r) := by
  obtain ⟨e, ss, rfl, h1, h2, h3⟩ := rowFits_of hf
  obtain ⟨p, q, ws, rfl, hp, hq, ha⟩ := h
  exact .tup (SqT.of hp) (.cons (dp_oV e) (.cons (.tup (SqT.of hq) (dpAll_of stepD ha fun v s hv hs => dp_step hv (h3 s hs))) .nil))
theorem dp_found {K : PySem.W.Frag} {H : Hp} {bs br v : V} {n : Int} {rows : List RRow} (h : FoundAt bs br H v (some n) rows) (hf : fits (some n) rows = true) : Dp K H v (machD n rows) := by
  obtain ⟨_, _, _, _, h5⟩ := fits_of hf
  obtain ⟨p, q, ws, rfl, hp, hq, ha⟩ := h
  exact .tup (SqT.of hp) (.cons (.int n) (.cons (.tup (SqT.of hq) (dpAll_of rowD ha fun v r hv hr => dp_row hv (h5 r hr))) .nil))
theorem small_fits {n : Int} {rows : List RRow} (hf : fits (some n) rows = true) : Small rows := by
  obtain ⟨_, h2, _, h4, h5⟩ := fits_of hf
  refine ⟨small_line (by omega), fun r hr e ss er => ?_⟩
  obtain ⟨e', ss', er', h1, _⟩ := rowFits_of (h5 r hr)
  rw [er] at er'
  cases er'
  exact small_line (by omega)
theorem str_lenA (a b : Str) : (a ++ b).length = a.length + b.length := by
  rw [len_tl, len_tl a, len_tl b, tl_append, List.length_append]
/-! showable, no dict, not deep -/
theorem showAll_of {α : Type} (g : α → PyData) : ∀ {xs : List α}, (∀ x ∈ xs, (g x).showable = true) → PyData.showableAll (xs.map g) = true
  | [], _ => by simp only [List.map_nil, PyData.showableAll]
  | x :: xs, h => by
    simp only [List.map_cons, PyData.showableAll, Bool.and_eq_true]
    exact ⟨h x (List.mem_cons_self ..), showAll_of g fun y hy => h y (List.mem_cons_of_mem _ hy)⟩
theorem dictAll_of {α : Type} (g : α → PyData) : ∀ {xs : List α}, (∀ x ∈ xs, (g x).hasDict = false) → PyData.hasDictAll (xs.map g) = false
  | [], _ => by simp only [List.map_nil, PyData.hasDictAll]
  | x :: xs, h => by
    simp only [List.map_cons, PyData.hasDictAll, Bool.or_eq_false_iff]
    exact ⟨h x (List.mem_cons_self ..), dictAll_of g fun y hy => h y (List.mem_cons_of_mem _ hy)⟩
theorem shownAll_map : ∀ xs : List PyData, PyData.shownAll xs = xs.map PyData.shown
  | [] => by simp only [PyData.shownAll, List.map_nil]
  | x :: xs => by simp only [PyData.shownAll, List.map_cons, shownAll_map xs]
theorem depthAll_of {α : Type} (g : α → PyData) (c : Nat) : ∀ {xs : List α}, (∀ x ∈ xs, (g x).depth ≤ c) → PyData.depthAll (xs.map g) ≤ c
  | [], _ => by simp only [List.map_nil, PyData.depthAll]; exact Nat.zero_le _
  | x :: xs, h => by
    simp only [List.map_cons, PyData.depthAll]
    exact Nat.max_le.mpr ⟨h x (List.mem_cons_self ..), depthAll_of g c fun y hy => h y (List.mem_cons_of_mem _ hy)⟩
/-- what the parts of a machine may be, for all of this at once -/
structure Fine (d : PyData) (c m : Nat) : Prop where
  sh : d.showable = true
  nd : d.hasDict = false
  dp : d.depth ≤ c
  ln : d.shown.length ≤ m
theorem tupText_len (ts : List Str) : (tupleText ts).length ≤ 3 + (ts.map (·.length)).sum + 2 * ts.length := by
  unfold tupleText
  rw [str_lenA, str_lenA]
  have h1 : (Str.ofString "(").length = 1 := by decide +kernel
  have h2 : (Str.ofString ", ").length = 2 := by decide +kernel
  have h3 : (Str.ofString (if (ts.length == 1) = true then ",)" else ")")).length ≤ 2 := by
    split
    · decide +kernel
    · decide +kernel
  have h4 : ∀ ts : List Str, (Str.join (Str.ofString ", ") ts).length ≤ (ts.map (·.length)).sum + 2 * ts.length := by
    intro ts
    induction ts with
    | nil => exact Nat.zero_le _
    | cons x r ih =>
      cases r with
      | nil =>
        show x.length ≤ _
        simp
      | cons y r =>
        show (x ++ Str.ofString ", " ++ Str.join (Str.ofString ", ") (y :: r)).length ≤ _
        rw [str_lenA, str_lenA, h2, List.map_cons, List.sum_cons, List.length_cons]
        omega
  have := h4 ts
  show (Str.ofString "(").length + _ + _ ≤ _
  omega
theorem sum_bound {α : Type} (f : α → Nat) (c : Nat) : ∀ {xs : List α}, (∀ x ∈ xs, f x ≤ c) → (xs.map f).sum ≤ xs.length * c
  | [], _ => by simp
  | x :: xs, h => by
    rw [List.map_cons, List.sum_cons, List.length_cons, Nat.add_mul, Nat.one_mul]
    have h1 := h x (List.mem_cons_self ..)
    have h2 := sum_bound f c (xs := xs) fun y hy => h y (List.mem_cons_of_mem _ hy)
    omega
theorem fine_tup {α : Type} (g : α → PyData) {xs : List α} {c m k : Nat} (hk : xs.length ≤ k) (h : ∀ x ∈ xs, Fine (g x) c m) : Fine (.tuple (xs.map g)) (c + 1) (3 + k * (m + 2)) := by
  refine ⟨?_, ?_, ?_, ?_⟩
  · simp only [PyData.showable]
    exact showAll_of g fun x hx => (h x hx).sh
  · simp only [PyData.hasDict]
    exact dictAll_of g fun x hx => (h x hx).nd
  · simp only [PyData.depth]
    have := depthAll_of g c fun x hx => (h x hx).dp
    omega
  · simp only [PyData.shown]
    rw [shownAll_map, List.map_map]
    refine Nat.le_trans (tupText_len _) ?_
    rw [List.map_map, List.length_map]
    have h1 := sum_bound (fun x => ((g x).shown).length) m fun x hx => (h x hx).ln
    have h2 : (xs.map ((fun x => x.length) ∘ (PyData.shown ∘ g))).sum = (xs.map (fun x => ((g x).shown).length)).sum := rfl
    rw [h2]
    have h3 : xs.length * m + 2 * xs.length ≤ k * (m + 2) := by
      rw [Nat.mul_add]
      have := Nat.mul_le_mul_right m hk
      omega
    omega
theorem fine_int {i : Int} (h0 : 0 ≤ i) (h1 : i ≤ 99) : Fine (.int i) 0 10 := by
  refine ⟨?_, by simp only [PyData.hasDict], by simp only [PyData.depth]; exact Nat.le_refl _, ?_⟩
  · simp only [PyData.showable, decide_eq_true_eq]
    exact log_small h0 (by omega)
  · simp only [PyData.shown]
    show (Str.ofString (toString i)).length ≤ 10
    rw [strI h0, sOf_len]
    exact Nat.le_trans (intL_len h1) (by decide)
theorem fine_none : Fine .none 0 10 := by
  refine ⟨by simp only [PyData.showable], by simp only [PyData.hasDict], by simp only [PyData.depth]; exact Nat.le_refl _, ?_⟩
  simp only [PyData.shown]
  decide +kernel
theorem fine_step {k : Nat} (hk : k ≤ 30) {s : RStep} (h : stepFits k s = true) : Fine (stepD s) 1 27 := by
  match s, h with
  | none, h => exact absurd h Bool.false_ne_true
  | some none, _ => exact ⟨fine_none.sh, fine_none.nd, Nat.le_trans fine_none.dp (by decide), Nat.le_trans fine_none.ln (by decide)⟩
  | some (some (a, b)), h =>
    obtain ⟨a0, a1, b0, b1⟩ := step_num hk h
    exact fine_tup (k := 2) (c := 0) (m := 10) PyData.int (xs := [a, b]) (Nat.le_refl _) fun x hx => by
      rcases List.mem_cons.mp hx with rfl | hx
      · exact fine_int a0 (by omega)
      · rw [List.mem_singleton.mp hx]
        exact fine_int b0 (by omega)
theorem fine_row {n : Int} {k : Nat} (hn : n ≤ 8) (hk : k ≤ 30) {r : RRow} (h : rowFits n k r = true) : Fine (rowD r) 3 600 := by
  obtain ⟨e, ss, rfl, h1, h2, h3⟩ := rowFits_of h
  have f1 : Fine (.tuple (ss.map stepD)) 2 (3 + 8 * (27 + 2)) := fine_tup stepD (by omega) fun s hs => fine_step hk (h3 s hs)
  have f2 : Fine (optD e) 0 10 := by
    cases e with
    | none => exact fine_none
    | some j =>
      obtain ⟨j1, j2⟩ := end_num h2
      exact fine_int (by omega) (by omega)
  have f3 : Fine (.tuple ([optD e, .tuple (ss.map stepD)].map id)) 3 (3 + 2 * (235 + 2)) := fine_tup id (Nat.le_refl _) fun x hx => by
    rcases List.mem_cons.mp hx with rfl | hx
    · exact ⟨f2.sh, f2.nd, Nat.le_trans f2.dp (by decide), Nat.le_trans f2.ln (by decide)⟩
    · rw [List.mem_singleton.mp hx]
      exact f1
  rw [List.map_id] at f3
  exact ⟨f3.sh, f3.nd, f3.dp, Nat.le_trans f3.ln (by decide)⟩
theorem fine_mach {n : Int} {rows : List RRow} (h : fits (some n) rows = true) : Fine (machD n rows) 5 50000 := by
  obtain ⟨n1, n8, _, r30, h5⟩ := fits_of h
  have f1 : Fine (.tuple (rows.map rowD)) 4 (3 + 30 * (600 + 2)) := fine_tup rowD r30 fun r hr => fine_row n8 r30 (h5 r hr)
  have f2 := fine_int (i := n) (by omega) (by omega)
  have f3 : Fine (.tuple ([PyData.int n, .tuple (rows.map rowD)].map id)) 5 (3 + 2 * (18063 + 2)) := fine_tup id (Nat.le_refl _) fun x hx => by
    rcases List.mem_cons.mp hx with rfl | hx
    · exact ⟨f2.sh, f2.nd, Nat.le_trans f2.dp (by decide), Nat.le_trans f2.ln (by decide)⟩
    · rw [List.mem_singleton.mp hx]
      exact f1
  rw [List.map_id] at f3
  exact ⟨f3.sh, f3.nd, f3.dp, Nat.le_trans f3.ln (by decide)⟩
section
variable {P : Program} {w : World} {K : PySem.W.Frag} {mg : Str → Option Value} {base : Heap}
abbrev sRight : Stmt := top 51
theorem scRight : FnScope ["_law_thing", "_law_told", "_law_due"] ["_law_thing"] (defScope sRight) := ⟨rfl, rfl, rfl, by decide +kernel, rfl, by decide +kernel, by decide +kernel⟩
def spRight (K : PySem.W.Frag) : Sp := fun vs H Q _ => ∃ v, vs = [v] ∧ ((∃ t, TyX K H v t ∧ PySem.W.kitOne K t (.type "str") = some false) ∨ ∃ y : Str, v = .str y ∧ y.length ≤ 100000) ∧ ∀ H', Same H H' → Q (.bl true) H'
theorem ok_right (D : Def K mg "_law_right" sRight ["_law_thing"]) (G : Gb mg) (C1 : Callee P w K mg base 7 "read_machine" ["text"] (spReadMachine (K := K))) (C2 : Callee P w K mg base 5 "_law_read" ["_law_text"] (spLRead (K := K)))
    (C3 : Callee P w K mg base 8 "machine_text" ["machine"] spMachineText) : CalleeG P w K mg base 9 "_law_right" ["_law_thing"] (spRight K) := by
  refine D.okG scRight (fun vs H Q E h => ?_) (fun f cdv A outer s H vs Q E hgd hr h => ?_)
  · obtain ⟨v, rfl, _⟩ := h
    rfl
  · obtain ⟨v, rfl, hv, q⟩ := h
    refine ⟨_, pss_cons (ps_set (i := 1) scRight.nd rfl (Or.inl rfl) (pe_cl C1 (hr.mono (by decide)) (by rfl) (pa_cons (pv 0) pa_nil)))
      (pss_cons (ps_set (i := 2) scRight.nd rfl (Or.inl rfl) (pe_cl C2 (hr.mono (by decide)) (by rfl) (pa_cons (pv 0) pa_nil)))
      (pss_cons (ps_if (pt_cmpR op_isN (pv 2) pe_non (nomark _)) (pss_one (ps_ret (pe_cmpR op_isN (pv 1) pe_non (nomark _)))) pss_nil)
      (pss_one (ps_ret (pe_and (pe_cmpR op_eq (pe_callB (call_reprD hgd hr.units) (by rfl) G.repr (by decide +kernel) (pa_cons (pv 1) pa_nil)) (pe_callB (call_reprD hgd hr.units) (by rfl) G.repr (by decide +kernel) (pa_cons (pv 2) pa_nil)) (nomark _))
        (pe_one (pe_cmpR op_eq (pe_cl C3 hr (by rfl) (pa_cons (pv 1) pa_nil)) (pv 0) (nomark _)))))))), ?_⟩
    rcases hv with ⟨t, h1, h2⟩ | ⟨y, rfl, hy⟩
    · refine ⟨v, rfl, v, rfl, .inl ⟨t, h1, h2, ?_⟩⟩
      refine ⟨v, rfl, v, rfl, .inl ⟨t, h1, h2, ?_⟩⟩
      exact ⟨_, rfl, rfl, _, rfl, iteT ⟨_, rfl, rfl, q H (Same.refl H)⟩⟩
    · have ey : y = sOf (tl y) := (sOf_tl y).symm
      have hl : (tl y).length ≤ 100000 := by rw [← len_tl]; exact hy
      generalize tl y = l at ey hl
      subst ey
      refine ⟨_, rfl, _, rfl, .inr ⟨l, rfl, hl, fun u1 H1 s1 t1 => ?_⟩⟩
      refine ⟨_, rfl, _, rfl, .inr ⟨l, rfl, hl, fun u2 H2 s2 t2 => ?_⟩⟩
      cases ep : parse l with
      | none =>
        rw [ep] at t1 t2
        cases (show u1 = .non from t1)
        cases (show u2 = .non from t2)
        exact ⟨_, rfl, rfl, _, rfl, iteT ⟨_, rfl, rfl, q H2 (s1.trans s2)⟩⟩
      | some m =>
        obtain ⟨n, rows⟩ := m
        rw [ep] at t1 t2
        have t1 : FoundAt (.str "wrong") .non H1 u1 (some n) rows := t1
        have t2 : FoundAt (.str "none") (.str "none") H2 u2 (some n) rows := t2
        obtain ⟨hw, hfit⟩ := parse_write ep
        have t1' := t1.mono (TupS.same s2)
        have d1 : Dp K H2 u1 (machD n rows) := dp_found t1' hfit
        have d2 : Dp K H2 u2 (machD n rows) := dp_found t2 hfit
        obtain ⟨p1, _, _, e1, _⟩ := id t1
        obtain ⟨p2, _, _, e2, _⟩ := id t2
        subst e1
        subst e2
        have fm := fine_mach hfit
        refine ⟨_, rfl, rfl, _, rfl, iteF ?_⟩
        refine ⟨_, rfl, p1, _, rfl, d1, fm.sh, fm.nd, Nat.lt_of_le_of_lt fm.dp (by decide), Nat.le_trans fm.ln (by decide), ?_⟩
        refine ⟨_, rfl, p2, _, rfl, d2, fm.sh, fm.nd, Nat.lt_of_le_of_lt fm.dp (by decide), Nat.le_trans fm.ln (by decide), rfl, ?_⟩
        refine ⟨true, by rw [decide_eq_true rfl], iteT ?_⟩
        refine ⟨_, rfl, "wrong", .non, .ref p1, n, rows, rfl, .inl rfl, t1', small_fits hfit, hfit, fun H3 s3 => ?_⟩
        rw [hw]
        refine ⟨_, rfl, rfl, ?_⟩
        rw [decide_eq_true (rfl : V.str (sOf l) = V.str (sOf l))]
        exact q H3 ((s1.trans s2).trans s3)
end
end Kl
namespace Kl
open PySem PySem.Spec PyProof.Rows L2 TL
section
variable {P : Program} {w : World} {K : PySem.W.Frag} {mg : Str → Option Value} {base : Heap}
abbrev sLaw : Stmt := top 52
theorem scLaw : FnScope ["_law_script", "_law_well_here", "_law_text", "_law_turn", "_law_bent_here", "_law_k", "_law_signs"] ["_law_script"] (defScope sLaw) := ⟨rfl, rfl, rfl, by decide +kernel, rfl, by decide +kernel, by decide +kernel⟩
theorem eleven : (Str.ofString "size 1-:\n02").cps.toList.length = 11 := by decide +kernel
theorem seven : (Str.ofString "size 1\n").length = 7 := by decide +kernel
def spLaw (K : PySem.W.Frag) : Sp := fun vs H Q _ => ∃ (a : Addr) (ns : List Int), vs = [.ref a] ∧ SqL K H a (ns.map V.int) ∧ ns.length ≤ 63 ∧ ∀ H', Q (.bl true) H'
theorem ok_law {f : Addr} {fd : FuncData} (F : Fun K "law" "law" sLaw f fd) (G : Gb mg) (C1 : CDraw P w K mg base) (C2 : Callee P w K mg base 1 "_law_well" ["_law_script"] (spWell K)) (C3 : Callee P w K mg base 6 "_law_machine" ["_law_well_here"] spMachine)
    (C4 : Callee P w K mg base 2 "_law_machine_text" ["_law_machine_here"] spMachineText) (C5 : Callee P w K mg base 5 "_law_bent" ["_law_well_here", "_law_text"] spBent) (C6 : Callee P w K mg base 6 "_law_any" ["_law_well_here", "_law_deep"] (spAny K 2))
    (C7 : CalleeG P w K mg base 9 "_law_right" ["_law_thing"] (spRight K)) : FnOkG P w K mg base 10 f fd ["_law_script"] (spLaw K) := by
  refine okG F scLaw (fun vs H Q E h => ?_) (fun cdv A outer s H vs Q E hgd hr h => ?_)
  · obtain ⟨a, ns, rfl, _⟩ := h
    rfl
  · obtain ⟨a, ns, rfl, hS, hl63, q⟩ := h
    have hr3 : Room 3 _ := hr.mono (by decide)
    refine ⟨_, pss_cons (ps_set (i := 1) scLaw.nd rfl (Or.inr rfl) (pe_cl C2 (hr.mono (by decide)) (by rfl) (pa_cons (pv 0) pa_nil)))
      (pss_cons (ps_set (i := 2) scLaw.nd rfl (Or.inl rfl) (pe_cl C4 (hr.mono (by decide)) (by rfl) (pa_cons (pe_cl C3 (hr.mono (by decide)) (by rfl) (pa_cons (pv 1) pa_nil)) pa_nil)))
      (pss_cons (ps_if (pt_not (pt_val (pe_clG C7 hgd hr (by rfl) (pa_cons (pv 2) pa_nil)))) pss_never pss_nil)
      (pss_cons (ps_for PassesOwn.never rfl (pi_range1 (by rfl) G.range (pa_cons pe_int pa_nil)) (pg_name (i := 3) scLaw.nd rfl (Or.inl rfl))
        (pss_cons (ps_set (i := 4) scLaw.nd rfl (Or.inl rfl) (pv 2))
        (pss_cons (ps_for PassesOwn.never rfl (pi_range1 (by rfl) G.range (pa_cons (pe_op op_add pe_int (pe_callTy call_int1 (by rfl) G.tint (by decide +kernel) (pa_cons (pe_cmpR op_eq (pe_cl C1 hr3 (by rfl) (pa_cons (pv 1) (pa_cons pe_int pa_nil))) pe_int (nomark _)) pa_nil))) pa_nil)) (pg_name (i := 5) scLaw.nd rfl (Or.inl rfl))
          (pss_one (ps_set (i := 4) scLaw.nd rfl (Or.inl rfl) (pe_cl C5 (hr.mono (by decide)) (by rfl) (pa_cons (pv 1) (pa_cons (pv 4) pa_nil))))))
        (pss_one (ps_if (pt_not (pt_val (pe_clG C7 hgd hr (by rfl) (pa_cons (pv 4) pa_nil)))) pss_never pss_nil)))))
      (pss_cons (ps_set (i := 6) scLaw.nd rfl (Or.inl rfl) (pe_join pe_str (pe_lc (own := [("_law_k", 5)]) (g := gName 5) (tt := tYes) rfl scLaw.nd (pi_range1 (by rfl) G.range (pa_cons (pe_cl C1 hr3 (by rfl) (pa_cons (pv 1) (pa_cons pe_int pa_nil))) pa_nil)) (blkOk_by (N := ["_law_script", "_law_well_here", "_law_text", "_law_turn", "_law_bent_here", "_law_k", "_law_signs"]) (sc := defScope sLaw) (by decide +kernel))
          (fun _ _ _ _ _ => pg_name (i := 5) scLaw.nd rfl (Or.inl rfl)) (fun _ _ _ _ _ => pts_nil) (fun _ _ _ _ _ => pe_ix ix_str pe_str (pe_cl C1 hr3 (by rfl) (pa_cons (pv 1) (pa_cons pe_int pa_nil))) (fun _ _ => rfl)))))
      (pss_one (ps_ret (pe_and (pe_clG C7 hgd hr (by rfl) (pa_cons (pv 6) pa_nil)) (pe_and (pe_clG C7 hgd hr (by rfl) (pa_cons (pe_cl C6 (hr.mono (by decide)) (by rfl) (pa_cons (pv 1) (pa_cons pe_int pa_nil))) pa_nil))
        (pe_one (pe_clG C7 hgd hr (by rfl) (pa_cons (pe_op op_add_str pe_str (pv 6)) pa_nil))))))))))), ?_⟩
    -- the well, the text
    refine ⟨_, rfl, a, ns, rfl, hS, hl63, fun W L ms H1 s1 w1 => ?_⟩
    refine ⟨_, rfl, W, L, ms, rfl, w1, fun v n rows H2 hfd hsm hfit w2 b2 => ?_⟩
    refine ⟨_, sN, v, n, rows, rfl, .inr ⟨_, rfl⟩, hfd, hsm, hfit, fun H3 s3 => ?_⟩
    have w3 := w2.same s3
    have hlen : (sOf (machL n rows)).length ≤ 2000 := by rw [sOf_len]; exact machL_len hfit
    generalize sOf (machL n rows) = text at hlen
    refine ⟨_, rfl, _, rfl, .inr ⟨text, rfl, Nat.le_trans hlen (by decide)⟩, fun H4 s4 => ⟨true, rfl, iteF ?_⟩⟩
    have w4 := w3.same s4
    -- the eight turns
    refine ⟨8, rfl, by decide, by decide, ?_⟩
    refine for_range (lo := 0) (n := Int.toNat 8) (fun i σ H' => ∃ y3 y4 y5, σ = [some (.ref a), some (.ref W), some (.str text), y3, y4, y5, none] ∧ Well L ms H' W) ⟨none, none, none, rfl, w4⟩ ?_ ?_
    · rintro i σ H' hi ⟨y3, y4, y5, rfl, wl⟩
      refine ⟨_, rfl, ?_⟩
      refine ⟨_, rfl, W, L, ms, 3, rfl, wl, by decide, by decide, fun r H5 _ _ w5 b5 => ?_⟩
      refine ⟨rfl, .inr ⟨_, rfl, _, _, rfl, rfl, ?_⟩⟩
      have hm : ∃ m : Nat, (1 + (if decide (V.int r = V.int 0) = true then (1 : Int) else 0)) = (m : Int) ∧ m ≤ 2 := by
        cases decide (V.int r = V.int 0) with
        | true => exact ⟨2, rfl, by decide⟩
        | false => exact ⟨1, rfl, by decide⟩
      obtain ⟨m, em, m2⟩ := hm
      refine ⟨(m : Int), by dsimp only; rw [em], by omega, by omega, ?_⟩
      refine for_range (lo := 0) (n := Int.toNat (m : Int)) (fun j σ H6 => ∃ y : Str, ∃ y5', σ = [some (.ref a), some (.ref W), some (.str text), some (.int (0 + i)), some (.str y), y5', none] ∧ Well L ms H6 W ∧ (j = 0 → y.length ≤ 2000) ∧ (j = 1 → y.length ≤ 8002) ∧ y.length ≤ 32010)
        ⟨text, y5, rfl, w5, fun _ => hlen, fun h => absurd h (by decide), by omega⟩ ?_ ?_
      · rintro j σ H6 hj ⟨y, y5', rfl, w6, l0, l1, l2⟩
        rw [Int.toNat_natCast] at hj
        have hy : y.length ≤ 8002 := by
          by_cases h0 : j = 0
          · have := l0 h0
            omega
          · exact l1 (by omega)
        refine ⟨_, rfl, _, rfl, W, L, ms, y, rfl, w6, by omega, fun y2 H7 hy2 w7 b7 => ?_⟩
        exact ⟨y2, _, rfl, w7, fun h => absurd h (by omega), fun h => (by have := l0 (by omega); omega), by omega⟩
      · rintro σ H6 ⟨y, y5', rfl, w6, l0, l1, l2⟩
        refine ⟨_, rfl, _, rfl, .inr ⟨y, rfl, by omega⟩, fun H7 s7 => ⟨true, rfl, iteF ?_⟩⟩
        exact ⟨_, _, _, rfl, w6.same s7⟩
    · rintro σ H' ⟨y3, y4, y5, rfl, wl⟩
      -- the signs
      refine ⟨⟨_, rfl⟩, _, rfl, W, L, ms, 20, rfl, wl, by decide, by decide, fun r H5 r0 r1 w5 b5 => ?_⟩
      refine ⟨r, rfl, by omega, by omega, fun D1 nD1 => ?_⟩
      refine lc_draw (j := 5) (P := fun i x => x = .int (0 + i)) (walk_range (lo := 0) (n := r.toNat)) (L := L) (ns := ms) (W := W) (fun i v H' => ∃ c : Nat, v = .str (sOf [c])) w5 nD1 (Nat.le_trans (by omega : r.toNat ≤ 20) (by decide)) (fun _ _ => trivial) (fun i v H1 H2 r t => r) ?_ ?_
      · intro i x H6 hi w6 b6 hx Kt hK
        refine ⟨_, rfl, W, L, ms, 11, rfl, w6, by decide, by decide, fun r2 H7 r20 r21 w7 b7 => ?_⟩
        obtain ⟨cd, ecd, _⟩ := atI_in (xs := (Str.ofString "size 1-:\n02").cps.toList) r20 (by rw [eleven]; exact r21)
        have lsz : (Str.ofString "size 1-:\n02").length ≤ sizeLine := by rw [len_tl]; show (Str.ofString "size 1-:\n02").cps.toList.length ≤ _; rw [eleven]; decide
        exact ⟨_, _, cd, rfl, rfl, lsz, ecd, hK _ H7 w7 b7 ⟨cd, rfl⟩⟩
      · intro ys H6 w6 b6 hD hl hy
        obtain ⟨cs, ecs, lcs⟩ : ∃ cs : List Nat, ys = ((cs.map fun c => [c]).map sOf).map V.str ∧ cs.length = ys.length := by
          clear hl hD
          induction ys with
          | nil => exact ⟨[], rfl, rfl⟩
          | cons y ys ih =>
            obtain ⟨c, hc⟩ := hy 0 y rfl
            obtain ⟨cs, h1, h2⟩ := ih fun i z e => hy (i + 1) z (by simpa using e)
            exact ⟨c :: cs, by rw [h1, hc]; rfl, by rw [List.length_cons, List.length_cons, h2]⟩
        subst ecs
        have ht : tot (cs.map fun c => [c]) ≤ cs.length := by
          have h := sum_bound List.length 1 (xs := cs.map fun c => [c]) fun x hx => by
            obtain ⟨c, _, rfl⟩ := List.mem_map.mp hx
            exact Nat.le_refl _
          rw [List.length_map] at h
          unfold tot
          omega
        refine ⟨_, D1, (cs.map fun c => [c]).map sOf, rfl, rfl, .inl (SqL.of hD), ?_, ?_⟩
        · have e : (((cs.map fun c => [c]).map sOf).map (·.length)).sum = tot (cs.map fun c => [c]) := by
            unfold tot
            rw [List.map_map]
            congr 1
          rw [e, empty_s, sOf_len]
          show _ + _ * 0 ≤ _
          omega
        rw [empty_s, join_sOf, joinL_nil]
        have hsl : (sOf (cs.map fun c => [c]).flatten).length ≤ 20 := by
          rw [sOf_len, List.length_flatten]
          have : ((cs.map fun c => [c]).map List.length).sum ≤ cs.length := ht
          omega
        generalize sOf (cs.map fun c => [c]).flatten = signs at hsl
        refine ⟨_, rfl, _, rfl, .inr ⟨signs, rfl, by omega⟩, fun H7 s7 => ⟨true, rfl, iteT ?_⟩⟩
        have w7 := w6.same s7
        refine ⟨_, rfl, W, L, ms, rfl, w7, fun v2 H8 hv w8 b8 => ?_⟩
        refine ⟨v2, rfl, ?_, fun H9 s9 => ⟨true, rfl, iteT ?_⟩⟩
        · rcases hv with h | ⟨l, rfl, hl2⟩
          · exact .inl h
          · exact .inr ⟨_, rfl, by rw [sOf_len]; omega⟩
        refine ⟨_, rfl, _, _, rfl, rfl, by rw [seven]; exact small_line (by omega), _, rfl, .inr ⟨_, rfl, ?_⟩, fun H10 _ => q H10⟩
        rw [str_len_app, seven]
        omega
end
end Kl
namespace Kl
open PySem PySem.Spec PyProof.Rows L2
/-! ### the end: what the top has left -/
section
variable {P : Program} {w : World} {K : PySem.W.Frag} {mg : Str → Option Value} {base : Heap}
theorem def_mk {h : Heap} {x : Str} {st : Stmt} {ps : List Str} {f : Addr} {oc : Value} {od an : Option Addr} {osl : Array (Option Value)} {kV doc pm cdv ct : Value} (X : K.In h) (G : h.Ns mainGlobals mg)
    (hb : ∀ (kV doc pm : Value) (an : Option Addr) (cdv ct : Value) (us : List Value), us.length = ps.length → bindArgs (PySem.W.fnOf x x (defArgs st) (defBody st) (defScope st) .none kV doc pm an cdv ct) ⟨us, []⟩ = pure (ps.zip us))
    (a : PySem.W.nsIn K mainGlobals x = some (some (.ref f))) (l : K.lookup f = some ⟨oc, od, .func (PySem.W.fnOf x x (defArgs st) (defBody st) (defScope st) .none kV doc pm an cdv ct), osl⟩)
    (c : PySem.W.codeIn K cdv x = true) (k : PySem.W.keepIn K (.ref f) = true) : Def K mg x st ps :=
  ⟨f, _, fun_mk l c k, PySem.W.mg_of X G a, (fun_mk l c k).binds hb⟩
theorem int_mk {h : Heap} {x : Str} {i : Int} {t : Tok} (X : K.In h) (G : h.Ns mainGlobals mg) (a : PySem.W.nsIn K mainGlobals x = some (some (.int i t))) : MgI mg x i := ⟨_, PySem.W.mg_of X G a, t, rfl⟩
/-- all defs but the law, each over its callees -/
theorem law_ok {f : Addr} {fd : FuncData} (F : Fun K "law" "law" sLaw f fd) (G : Gb mg) (M : Gc mg)
    (D4 : Def K mg "is_integer" (top 4) ["thing"])
    (D5 : Def K mg "is_between" (top 5) ["thing", "least", "most"])
    (D6 : Def K mg "is_index" (top 6) ["thing", "many"])
    (D7 : Def K mg "is_tuple_of" (top 7) ["thing", "many"])
    (D14 : Def K mg "is_size" (top 14) ["thing"])
    (D15 : Def K mg "is_step" (top 15) ["thing", "states"])
    (D16 : Def K mg "is_row" (top 16) ["thing", "size", "states"])
    (D17 : Def K mg "is_machine" (top 17) ["thing"])
    (D18 : Def K mg "check_machine" (top 18) ["thing"])
    (D21 : Def K mg "step_text" (top 21) ["step"])
    (D22 : Def K mg "machine_text" (top 22) ["machine"])
    (D23 : Def K mg "number_of" (top 23) ["word"])
    (D24 : Def K mg "read_step" (top 24) ["word"])
    (D25 : Def K mg "read_row" (top 25) ["line"])
    (D26 : Def K mg "read_machine" (top 26) ["text"])
    (D28 : Def K mg "_law_mixed" (top 28) ["_law_number"])
    (D29 : Def K mg "_law_well" (top 29) ["_law_script"])
    (D30 : Def K mg "_law_filled" (top 30) ["_law_well_here"])
    (D31 : Def K mg "_law_draw" (top 31) ["_law_well_here", "_law_many"])
    (D32 : Def K mg "_law_any" (top 32) ["_law_well_here", "_law_deep"])
    (D33 : Def K mg "_law_more" (top 33) ["_law_well_here"])
    (D34 : Def K mg "_law_step" (top 34) ["_law_well_here", "_law_states", "_law_lack"])
    (D35 : Def K mg "_law_end" (top 35) ["_law_well_here", "_law_lack"])
    (D36 : Def K mg "_law_machine" (top 36) ["_law_well_here"])
    (D37 : Def K mg "_law_is_int" (top 37) ["_law_thing", "_law_least", "_law_most"])
    (D38 : Def K mg "_law_long" (top 38) ["_law_thing", "_law_many"])
    (D39 : Def K mg "_law_step_fits" (top 39) ["_law_thing", "_law_states"])
    (D40 : Def K mg "_law_row_fits" (top 40) ["_law_thing", "_law_size", "_law_states"])
    (D41 : Def K mg "_law_machine_fits" (top 41) ["_law_thing"])
    (D43 : Def K mg "_law_step_text" (top 43) ["_law_step_here"])
    (D44 : Def K mg "_law_machine_text" (top 44) ["_law_machine_here"])
    (D45 : Def K mg "_law_digits" (top 45) ["_law_word"])
    (D46 : Def K mg "_law_read_step" (top 46) ["_law_word"])
    (D47 : Def K mg "_law_read_row" (top 47) ["_law_line"])
    (D48 : Def K mg "_law_read" (top 48) ["_law_text"])
    (D49 : Def K mg "_law_bent_row" (top 49) ["_law_well_here", "_law_row"])
    (D50 : Def K mg "_law_bent" (top 50) ["_law_well_here", "_law_text"])
    (D51 : Def K mg "_law_right" (top 51) ["_law_thing"]) :
    FnOkG P w K mg base 10 f fd ["_law_script"] (spLaw K) := by
  have cInteger := ok_isInteger (P := P) (w := w) (base := base) D4 G
  have cBetween := ok_isBetween (P := P) (w := w) (base := base) D5 G cInteger
  have cIndex := ok_isIndex (P := P) (w := w) (base := base) D6 G cBetween
  have cTuple := ok_isTupleOf (P := P) (w := w) (base := base) D7 G
  have cSize := ok_isSize (P := P) (w := w) (base := base) D14 M cBetween
  have cStep := ok_isStep (P := P) (w := w) (base := base) D15 M cTuple cBetween cIndex
  have cRow := ok_isRow (P := P) (w := w) (base := base) D16 G M cTuple cBetween cStep
  have cMachine := ok_isMachine (P := P) (w := w) (base := base) D17 G M cTuple cSize cRow
  have cCheck := ok_checkMachine (P := P) (w := w) (base := base) D18 cMachine
  have cStepText := ok_stepText (P := P) (w := w) (base := base) D21 G
  have cMachineText := ok_machineText (P := P) (w := w) (base := base) D22 G M cCheck cStepText
  have cNumber := ok_numberOf (P := P) (w := w) (base := base) D23 G M
  have cReadStep := ok_readStep (P := P) (w := w) (base := base) D24 G cNumber
  have cReadRow := ok_readRow (P := P) (w := w) (base := base) D25 G cNumber cReadStep
  have cReadMachine := ok_readMachine (P := P) (w := w) (base := base) D26 G cNumber cReadRow cMachine
  have lMixed := ok_mixed (P := P) (w := w) (base := base) D28 G
  have lWell := ok_well (P := P) (w := w) (base := base) D29 G
  have lFilled := ok_filled (P := P) (w := w) (base := base) D30 G lMixed
  have lDraw := ok_draw (P := P) (w := w) (base := base) D31 G lFilled
  have lAny := ok_any0 (P := P) (w := w) (base := base) D32 G lDraw 2
  have lMore := ok_more (P := P) (w := w) (base := base) D33 lDraw
  have lStep := ok_step (P := P) (w := w) (base := base) D34 lDraw lMore
  have lEnd := ok_end (P := P) (w := w) (base := base) D35 G lDraw
  have lMachine := ok_machine (P := P) (w := w) (base := base) D36 G lDraw lEnd lStep
  have lIsInt := ok_lIsInt (P := P) (w := w) (base := base) D37 G
  have lLong := ok_lLong (P := P) (w := w) (base := base) D38 G
  have lStepFits := ok_lStepFits (P := P) (w := w) (base := base) D39 lLong lIsInt
  have lRowFits := ok_lRowFits (P := P) (w := w) (base := base) D40 G lLong lIsInt lStepFits
  have lMachineFits := ok_lMachineFits (P := P) (w := w) (base := base) D41 G lLong lIsInt lRowFits
  have lStepText := ok_lStepText (P := P) (w := w) (base := base) D43 G
  have lMachineText := ok_lMachineText (P := P) (w := w) (base := base) D44 G lStepText
  have lDigits := ok_lDigits (P := P) (w := w) (base := base) D45 G
  have lReadStep := ok_lReadStep (P := P) (w := w) (base := base) D46 G lDigits
  have lReadRow := ok_lReadRow (P := P) (w := w) (base := base) D47 G lDigits lReadStep
  have lRead := ok_lRead (P := P) (w := w) (base := base) D48 G lDigits lReadRow lMachineFits lMachineText
  have lBentRow := ok_bentRow (P := P) (w := w) (base := base) D49 G lDraw
  have lBent := ok_bent (P := P) (w := w) (base := base) D50 G lDraw lBentRow
  have lRight := ok_right (P := P) (w := w) (base := base) D51 G cReadMachine lRead cMachineText
  exact ok_law F G lDraw lWell lMachine lMachineText lBent lAny lRight
theorem end_mk {h : Heap} {fa f : Addr} {oc : Value} {od an : Option Addr} {osl : Array (Option Value)} {kV doc pm cdv ct : Value} (G : Gb mg) (M : Gc mg) (X : K.In h) (N : h.Ns mainGlobals mg) (hfa : mg "law" = some (.ref fa))
    (D4 : Def K mg "is_integer" (top 4) ["thing"])
    (D5 : Def K mg "is_between" (top 5) ["thing", "least", "most"])
    (D6 : Def K mg "is_index" (top 6) ["thing", "many"])
    (D7 : Def K mg "is_tuple_of" (top 7) ["thing", "many"])
    (D14 : Def K mg "is_size" (top 14) ["thing"])
    (D15 : Def K mg "is_step" (top 15) ["thing", "states"])
    (D16 : Def K mg "is_row" (top 16) ["thing", "size", "states"])
    (D17 : Def K mg "is_machine" (top 17) ["thing"])
    (D18 : Def K mg "check_machine" (top 18) ["thing"])
    (D21 : Def K mg "step_text" (top 21) ["step"])
    (D22 : Def K mg "machine_text" (top 22) ["machine"])
    (D23 : Def K mg "number_of" (top 23) ["word"])
    (D24 : Def K mg "read_step" (top 24) ["word"])
    (D25 : Def K mg "read_row" (top 25) ["line"])
    (D26 : Def K mg "read_machine" (top 26) ["text"])
    (D28 : Def K mg "_law_mixed" (top 28) ["_law_number"])
    (D29 : Def K mg "_law_well" (top 29) ["_law_script"])
    (D30 : Def K mg "_law_filled" (top 30) ["_law_well_here"])
    (D31 : Def K mg "_law_draw" (top 31) ["_law_well_here", "_law_many"])
    (D32 : Def K mg "_law_any" (top 32) ["_law_well_here", "_law_deep"])
    (D33 : Def K mg "_law_more" (top 33) ["_law_well_here"])
    (D34 : Def K mg "_law_step" (top 34) ["_law_well_here", "_law_states", "_law_lack"])
    (D35 : Def K mg "_law_end" (top 35) ["_law_well_here", "_law_lack"])
    (D36 : Def K mg "_law_machine" (top 36) ["_law_well_here"])
    (D37 : Def K mg "_law_is_int" (top 37) ["_law_thing", "_law_least", "_law_most"])
    (D38 : Def K mg "_law_long" (top 38) ["_law_thing", "_law_many"])
    (D39 : Def K mg "_law_step_fits" (top 39) ["_law_thing", "_law_states"])
    (D40 : Def K mg "_law_row_fits" (top 40) ["_law_thing", "_law_size", "_law_states"])
    (D41 : Def K mg "_law_machine_fits" (top 41) ["_law_thing"])
    (D43 : Def K mg "_law_step_text" (top 43) ["_law_step_here"])
    (D44 : Def K mg "_law_machine_text" (top 44) ["_law_machine_here"])
    (D45 : Def K mg "_law_digits" (top 45) ["_law_word"])
    (D46 : Def K mg "_law_read_step" (top 46) ["_law_word"])
    (D47 : Def K mg "_law_read_row" (top 47) ["_law_line"])
    (D48 : Def K mg "_law_read" (top 48) ["_law_text"])
    (D49 : Def K mg "_law_bent_row" (top 49) ["_law_well_here", "_law_row"])
    (D50 : Def K mg "_law_bent" (top 50) ["_law_well_here", "_law_text"])
    (D51 : Def K mg "_law_right" (top 51) ["_law_thing"])
    (a : PySem.W.nsIn K mainGlobals "law" = some (some (.ref f))) (l : K.lookup f = some ⟨oc, od, .func (PySem.W.fnOf "law" "law" (defArgs sLaw) (defBody sLaw) (defScope sLaw) .none kV doc pm an cdv ct), osl⟩)
    (c : PySem.W.codeIn K cdv "law" = true) (k : PySem.W.keepIn K (.ref f) = true) :
    ∃ fd : FuncData, (∀ (s : Shared) (v : Value), BindsTo s fd ⟨[v], []⟩ [("_law_script", v)]) ∧ ∀ base : Heap, K.In base → base.Ns mainGlobals mg → FnOkG P w K mg base 10 fa fd ["_law_script"] (spLaw K) := by
  have e := hfa.symm.trans (PySem.W.mg_of X N a)
  cases e
  exact ⟨_, fun s v => .of_eq rfl, fun base _ _ => law_ok (fun_mk (st := sLaw) l c k) G M D4 D5 D6 D7 D14 D15 D16 D17 D18 D21 D22 D23 D24 D25 D26 D28 D29 D30 D31 D32 D33 D34 D35 D36 D37 D38 D39 D40 D41 D43 D44 D45 D46 D47 D48 D49 D50 D51⟩
theorem all_mk {h : Heap} {fa : Addr} (X : K.In h) (N : h.Ns mainGlobals mg) (hfa : mg "law" = some (.ref fa))
    {klt0 : Tok}
    {klt1 : Tok}
    {klt2 : Tok}
    {klt3 : Tok}
    {klt4 : Tok}
    {klt5 : Tok}
    {f4 : Addr} {od4 an4 : Option Addr} {sl4 : Array (Option Value)} {oc4 kV4 dc4 pm4 cd4 ct4 : Value}
    {f5 : Addr} {od5 an5 : Option Addr} {sl5 : Array (Option Value)} {oc5 kV5 dc5 pm5 cd5 ct5 : Value}
    {f6 : Addr} {od6 an6 : Option Addr} {sl6 : Array (Option Value)} {oc6 kV6 dc6 pm6 cd6 ct6 : Value}
    {f7 : Addr} {od7 an7 : Option Addr} {sl7 : Array (Option Value)} {oc7 kV7 dc7 pm7 cd7 ct7 : Value}
    {f14 : Addr} {od14 an14 : Option Addr} {sl14 : Array (Option Value)} {oc14 kV14 dc14 pm14 cd14 ct14 : Value}
    {f15 : Addr} {od15 an15 : Option Addr} {sl15 : Array (Option Value)} {oc15 kV15 dc15 pm15 cd15 ct15 : Value}
    {f16 : Addr} {od16 an16 : Option Addr} {sl16 : Array (Option Value)} {oc16 kV16 dc16 pm16 cd16 ct16 : Value}
    {f17 : Addr} {od17 an17 : Option Addr} {sl17 : Array (Option Value)} {oc17 kV17 dc17 pm17 cd17 ct17 : Value}
    {f18 : Addr} {od18 an18 : Option Addr} {sl18 : Array (Option Value)} {oc18 kV18 dc18 pm18 cd18 ct18 : Value}
    {f21 : Addr} {od21 an21 : Option Addr} {sl21 : Array (Option Value)} {oc21 kV21 dc21 pm21 cd21 ct21 : Value}
    {f22 : Addr} {od22 an22 : Option Addr} {sl22 : Array (Option Value)} {oc22 kV22 dc22 pm22 cd22 ct22 : Value}
    {f23 : Addr} {od23 an23 : Option Addr} {sl23 : Array (Option Value)} {oc23 kV23 dc23 pm23 cd23 ct23 : Value}
    {f24 : Addr} {od24 an24 : Option Addr} {sl24 : Array (Option Value)} {oc24 kV24 dc24 pm24 cd24 ct24 : Value}
    {f25 : Addr} {od25 an25 : Option Addr} {sl25 : Array (Option Value)} {oc25 kV25 dc25 pm25 cd25 ct25 : Value}
    {f26 : Addr} {od26 an26 : Option Addr} {sl26 : Array (Option Value)} {oc26 kV26 dc26 pm26 cd26 ct26 : Value}
    {f28 : Addr} {od28 an28 : Option Addr} {sl28 : Array (Option Value)} {oc28 kV28 dc28 pm28 cd28 ct28 : Value}
    {f29 : Addr} {od29 an29 : Option Addr} {sl29 : Array (Option Value)} {oc29 kV29 dc29 pm29 cd29 ct29 : Value}
    {f30 : Addr} {od30 an30 : Option Addr} {sl30 : Array (Option Value)} {oc30 kV30 dc30 pm30 cd30 ct30 : Value}
    {f31 : Addr} {od31 an31 : Option Addr} {sl31 : Array (Option Value)} {oc31 kV31 dc31 pm31 cd31 ct31 : Value}
    {f32 : Addr} {od32 an32 : Option Addr} {sl32 : Array (Option Value)} {oc32 kV32 dc32 pm32 cd32 ct32 : Value}
    {f33 : Addr} {od33 an33 : Option Addr} {sl33 : Array (Option Value)} {oc33 kV33 dc33 pm33 cd33 ct33 : Value}
    {f34 : Addr} {od34 an34 : Option Addr} {sl34 : Array (Option Value)} {oc34 kV34 dc34 pm34 cd34 ct34 : Value}
    {f35 : Addr} {od35 an35 : Option Addr} {sl35 : Array (Option Value)} {oc35 kV35 dc35 pm35 cd35 ct35 : Value}
    {f36 : Addr} {od36 an36 : Option Addr} {sl36 : Array (Option Value)} {oc36 kV36 dc36 pm36 cd36 ct36 : Value}
    {f37 : Addr} {od37 an37 : Option Addr} {sl37 : Array (Option Value)} {oc37 kV37 dc37 pm37 cd37 ct37 : Value}
    {f38 : Addr} {od38 an38 : Option Addr} {sl38 : Array (Option Value)} {oc38 kV38 dc38 pm38 cd38 ct38 : Value}
    {f39 : Addr} {od39 an39 : Option Addr} {sl39 : Array (Option Value)} {oc39 kV39 dc39 pm39 cd39 ct39 : Value}
    {f40 : Addr} {od40 an40 : Option Addr} {sl40 : Array (Option Value)} {oc40 kV40 dc40 pm40 cd40 ct40 : Value}
    {f41 : Addr} {od41 an41 : Option Addr} {sl41 : Array (Option Value)} {oc41 kV41 dc41 pm41 cd41 ct41 : Value}
    {f43 : Addr} {od43 an43 : Option Addr} {sl43 : Array (Option Value)} {oc43 kV43 dc43 pm43 cd43 ct43 : Value}
    {f44 : Addr} {od44 an44 : Option Addr} {sl44 : Array (Option Value)} {oc44 kV44 dc44 pm44 cd44 ct44 : Value}
    {f45 : Addr} {od45 an45 : Option Addr} {sl45 : Array (Option Value)} {oc45 kV45 dc45 pm45 cd45 ct45 : Value}
    {f46 : Addr} {od46 an46 : Option Addr} {sl46 : Array (Option Value)} {oc46 kV46 dc46 pm46 cd46 ct46 : Value}
    {f47 : Addr} {od47 an47 : Option Addr} {sl47 : Array (Option Value)} {oc47 kV47 dc47 pm47 cd47 ct47 : Value}
    {f48 : Addr} {od48 an48 : Option Addr} {sl48 : Array (Option Value)} {oc48 kV48 dc48 pm48 cd48 ct48 : Value}
    {f49 : Addr} {od49 an49 : Option Addr} {sl49 : Array (Option Value)} {oc49 kV49 dc49 pm49 cd49 ct49 : Value}
    {f50 : Addr} {od50 an50 : Option Addr} {sl50 : Array (Option Value)} {oc50 kV50 dc50 pm50 cd50 ct50 : Value}
    {f51 : Addr} {od51 an51 : Option Addr} {sl51 : Array (Option Value)} {oc51 kV51 dc51 pm51 cd51 ct51 : Value}
    {f52 : Addr} {od52 an52 : Option Addr} {sl52 : Array (Option Value)} {oc52 kV52 dc52 pm52 cd52 ct52 : Value}
    (klg0 : PySem.W.nsIn K mainGlobals "isinstance" = some none)
    (klg1 : PySem.W.nsIn K mainGlobals "int" = some none)
    (klg2 : PySem.W.nsIn K mainGlobals "bool" = some none)
    (klg3 : PySem.W.nsIn K mainGlobals "str" = some none)
    (klg4 : PySem.W.nsIn K mainGlobals "tuple" = some none)
    (klg5 : PySem.W.nsIn K mainGlobals "list" = some none)
    (klg6 : PySem.W.nsIn K mainGlobals "range" = some none)
    (klg7 : PySem.W.nsIn K mainGlobals "len" = some none)
    (klg8 : PySem.W.nsIn K mainGlobals "all" = some none)
    (klg9 : PySem.W.nsIn K mainGlobals "repr" = some none)
    (klm0 : PySem.W.nsIn K mainGlobals "MOST_SIZE" = some (some (.int 8 klt0)))
    (klm1 : PySem.W.nsIn K mainGlobals "MOST_STATES" = some (some (.int 30 klt1)))
    (klm2 : PySem.W.nsIn K mainGlobals "MOST_MORE" = some (some (.int 60 klt2)))
    (klm3 : PySem.W.nsIn K mainGlobals "SIZE" = some (some (.int 0 klt3)))
    (klm4 : PySem.W.nsIn K mainGlobals "ROWS" = some (some (.int 1 klt4)))
    (klm5 : PySem.W.nsIn K mainGlobals "MOST_DIGITS" = some (some (.int 2 klt5)))
    (kla4 : PySem.W.nsIn K mainGlobals "is_integer" = some (some (.ref f4)))
    (kll4 : K.lookup f4 = some ⟨oc4, od4, .func (PySem.W.fnOf "is_integer" "is_integer" (defArgs (top 4)) (defBody (top 4)) (defScope (top 4)) .none kV4 dc4 pm4 an4 cd4 ct4), sl4⟩)
    (klc4 : PySem.W.codeIn K cd4 "is_integer" = true) (klk4 : PySem.W.keepIn K (.ref f4) = true)
    (kla5 : PySem.W.nsIn K mainGlobals "is_between" = some (some (.ref f5)))
    (kll5 : K.lookup f5 = some ⟨oc5, od5, .func (PySem.W.fnOf "is_between" "is_between" (defArgs (top 5)) (defBody (top 5)) (defScope (top 5)) .none kV5 dc5 pm5 an5 cd5 ct5), sl5⟩)
    (klc5 : PySem.W.codeIn K cd5 "is_between" = true) (klk5 : PySem.W.keepIn K (.ref f5) = true)
    (kla6 : PySem.W.nsIn K mainGlobals "is_index" = some (some (.ref f6)))
    (kll6 : K.lookup f6 = some ⟨oc6, od6, .func (PySem.W.fnOf "is_index" "is_index" (defArgs (top 6)) (defBody (top 6)) (defScope (top 6)) .none kV6 dc6 pm6 an6 cd6 ct6), sl6⟩)
    (klc6 : PySem.W.codeIn K cd6 "is_index" = true) (klk6 : PySem.W.keepIn K (.ref f6) = true)
    (kla7 : PySem.W.nsIn K mainGlobals "is_tuple_of" = some (some (.ref f7)))
    (kll7 : K.lookup f7 = some ⟨oc7, od7, .func (PySem.W.fnOf "is_tuple_of" "is_tuple_of" (defArgs (top 7)) (defBody (top 7)) (defScope (top 7)) .none kV7 dc7 pm7 an7 cd7 ct7), sl7⟩)
    (klc7 : PySem.W.codeIn K cd7 "is_tuple_of" = true) (klk7 : PySem.W.keepIn K (.ref f7) = true)
    (kla14 : PySem.W.nsIn K mainGlobals "is_size" = some (some (.ref f14)))
    (kll14 : K.lookup f14 = some ⟨oc14, od14, .func (PySem.W.fnOf "is_size" "is_size" (defArgs (top 14)) (defBody (top 14)) (defScope (top 14)) .none kV14 dc14 pm14 an14 cd14 ct14), sl14⟩)
    (klc14 : PySem.W.codeIn K cd14 "is_size" = true) (klk14 : PySem.W.keepIn K (.ref f14) = true)
    (kla15 : PySem.W.nsIn K mainGlobals "is_step" = some (some (.ref f15)))
    (kll15 : K.lookup f15 = some ⟨oc15, od15, .func (PySem.W.fnOf "is_step" "is_step" (defArgs (top 15)) (defBody (top 15)) (defScope (top 15)) .none kV15 dc15 pm15 an15 cd15 ct15), sl15⟩)
    (klc15 : PySem.W.codeIn K cd15 "is_step" = true) (klk15 : PySem.W.keepIn K (.ref f15) = true)
    (kla16 : PySem.W.nsIn K mainGlobals "is_row" = some (some (.ref f16)))
    (kll16 : K.lookup f16 = some ⟨oc16, od16, .func (PySem.W.fnOf "is_row" "is_row" (defArgs (top 16)) (defBody (top 16)) (defScope (top 16)) .none kV16 dc16 pm16 an16 cd16 ct16), sl16⟩)
    (klc16 : PySem.W.codeIn K cd16 "is_row" = true) (klk16 : PySem.W.keepIn K (.ref f16) = true)
    (kla17 : PySem.W.nsIn K mainGlobals "is_machine" = some (some (.ref f17)))
    (kll17 : K.lookup f17 = some ⟨oc17, od17, .func (PySem.W.fnOf "is_machine" "is_machine" (defArgs (top 17)) (defBody (top 17)) (defScope (top 17)) .none kV17 dc17 pm17 an17 cd17 ct17), sl17⟩)
    (klc17 : PySem.W.codeIn K cd17 "is_machine" = true) (klk17 : PySem.W.keepIn K (.ref f17) = true)
    (kla18 : PySem.W.nsIn K mainGlobals "check_machine" = some (some (.ref f18)))
    (kll18 : K.lookup f18 = some ⟨oc18, od18, .func (PySem.W.fnOf "check_machine" "check_machine" (defArgs (top 18)) (defBody (top 18)) (defScope (top 18)) .none kV18 dc18 pm18 an18 cd18 ct18), sl18⟩)
    (klc18 : PySem.W.codeIn K cd18 "check_machine" = true) (klk18 : PySem.W.keepIn K (.ref f18) = true)
    (kla21 : PySem.W.nsIn K mainGlobals "step_text" = some (some (.ref f21)))
    (kll21 : K.lookup f21 = some ⟨oc21, od21, .func (PySem.W.fnOf "step_text" "step_text" (defArgs (top 21)) (defBody (top 21)) (defScope (top 21)) .none kV21 dc21 pm21 an21 cd21 ct21), sl21⟩)
    (klc21 : PySem.W.codeIn K cd21 "step_text" = true) (klk21 : PySem.W.keepIn K (.ref f21) = true)
    (kla22 : PySem.W.nsIn K mainGlobals "machine_text" = some (some (.ref f22)))
    (kll22 : K.lookup f22 = some ⟨oc22, od22, .func (PySem.W.fnOf "machine_text" "machine_text" (defArgs (top 22)) (defBody (top 22)) (defScope (top 22)) .none kV22 dc22 pm22 an22 cd22 ct22), sl22⟩)
    (klc22 : PySem.W.codeIn K cd22 "machine_text" = true) (klk22 : PySem.W.keepIn K (.ref f22) = true)
    (kla23 : PySem.W.nsIn K mainGlobals "number_of" = some (some (.ref f23)))
    (kll23 : K.lookup f23 = some ⟨oc23, od23, .func (PySem.W.fnOf "number_of" "number_of" (defArgs (top 23)) (defBody (top 23)) (defScope (top 23)) .none kV23 dc23 pm23 an23 cd23 ct23), sl23⟩)
    (klc23 : PySem.W.codeIn K cd23 "number_of" = true) (klk23 : PySem.W.keepIn K (.ref f23) = true)
    (kla24 : PySem.W.nsIn K mainGlobals "read_step" = some (some (.ref f24)))
    (kll24 : K.lookup f24 = some ⟨oc24, od24, .func (PySem.W.fnOf "read_step" "read_step" (defArgs (top 24)) (defBody (top 24)) (defScope (top 24)) .none kV24 dc24 pm24 an24 cd24 ct24), sl24⟩)
    (klc24 : PySem.W.codeIn K cd24 "read_step" = true) (klk24 : PySem.W.keepIn K (.ref f24) = true)
    (kla25 : PySem.W.nsIn K mainGlobals "read_row" = some (some (.ref f25)))
    (kll25 : K.lookup f25 = some ⟨oc25, od25, .func (PySem.W.fnOf "read_row" "read_row" (defArgs (top 25)) (defBody (top 25)) (defScope (top 25)) .none kV25 dc25 pm25 an25 cd25 ct25), sl25⟩)
    (klc25 : PySem.W.codeIn K cd25 "read_row" = true) (klk25 : PySem.W.keepIn K (.ref f25) = true)
    (kla26 : PySem.W.nsIn K mainGlobals "read_machine" = some (some (.ref f26)))
    (kll26 : K.lookup f26 = some ⟨oc26, od26, .func (PySem.W.fnOf "read_machine" "read_machine" (defArgs (top 26)) (defBody (top 26)) (defScope (top 26)) .none kV26 dc26 pm26 an26 cd26 ct26), sl26⟩)
    (klc26 : PySem.W.codeIn K cd26 "read_machine" = true) (klk26 : PySem.W.keepIn K (.ref f26) = true)
    (kla28 : PySem.W.nsIn K mainGlobals "_law_mixed" = some (some (.ref f28)))
    (kll28 : K.lookup f28 = some ⟨oc28, od28, .func (PySem.W.fnOf "_law_mixed" "_law_mixed" (defArgs (top 28)) (defBody (top 28)) (defScope (top 28)) .none kV28 dc28 pm28 an28 cd28 ct28), sl28⟩)
    (klc28 : PySem.W.codeIn K cd28 "_law_mixed" = true) (klk28 : PySem.W.keepIn K (.ref f28) = true)
    (kla29 : PySem.W.nsIn K mainGlobals "_law_well" = some (some (.ref f29)))
    (kll29 : K.lookup f29 = some ⟨oc29, od29, .func (PySem.W.fnOf "_law_well" "_law_well" (defArgs (top 29)) (defBody (top 29)) (defScope (top 29)) .none kV29 dc29 pm29 an29 cd29 ct29), sl29⟩)
    (klc29 : PySem.W.codeIn K cd29 "_law_well" = true) (klk29 : PySem.W.keepIn K (.ref f29) = true)
    (kla30 : PySem.W.nsIn K mainGlobals "_law_filled" = some (some (.ref f30)))
    (kll30 : K.lookup f30 = some ⟨oc30, od30, .func (PySem.W.fnOf "_law_filled" "_law_filled" (defArgs (top 30)) (defBody (top 30)) (defScope (top 30)) .none kV30 dc30 pm30 an30 cd30 ct30), sl30⟩)
    (klc30 : PySem.W.codeIn K cd30 "_law_filled" = true) (klk30 : PySem.W.keepIn K (.ref f30) = true)
    (kla31 : PySem.W.nsIn K mainGlobals "_law_draw" = some (some (.ref f31)))
    (kll31 : K.lookup f31 = some ⟨oc31, od31, .func (PySem.W.fnOf "_law_draw" "_law_draw" (defArgs (top 31)) (defBody (top 31)) (defScope (top 31)) .none kV31 dc31 pm31 an31 cd31 ct31), sl31⟩)
    (klc31 : PySem.W.codeIn K cd31 "_law_draw" = true) (klk31 : PySem.W.keepIn K (.ref f31) = true)
    (kla32 : PySem.W.nsIn K mainGlobals "_law_any" = some (some (.ref f32)))
    (kll32 : K.lookup f32 = some ⟨oc32, od32, .func (PySem.W.fnOf "_law_any" "_law_any" (defArgs (top 32)) (defBody (top 32)) (defScope (top 32)) .none kV32 dc32 pm32 an32 cd32 ct32), sl32⟩)
    (klc32 : PySem.W.codeIn K cd32 "_law_any" = true) (klk32 : PySem.W.keepIn K (.ref f32) = true)
    (kla33 : PySem.W.nsIn K mainGlobals "_law_more" = some (some (.ref f33)))
    (kll33 : K.lookup f33 = some ⟨oc33, od33, .func (PySem.W.fnOf "_law_more" "_law_more" (defArgs (top 33)) (defBody (top 33)) (defScope (top 33)) .none kV33 dc33 pm33 an33 cd33 ct33), sl33⟩)
    (klc33 : PySem.W.codeIn K cd33 "_law_more" = true) (klk33 : PySem.W.keepIn K (.ref f33) = true)
    (kla34 : PySem.W.nsIn K mainGlobals "_law_step" = some (some (.ref f34)))
    (kll34 : K.lookup f34 = some ⟨oc34, od34, .func (PySem.W.fnOf "_law_step" "_law_step" (defArgs (top 34)) (defBody (top 34)) (defScope (top 34)) .none kV34 dc34 pm34 an34 cd34 ct34), sl34⟩)
    (klc34 : PySem.W.codeIn K cd34 "_law_step" = true) (klk34 : PySem.W.keepIn K (.ref f34) = true)
    (kla35 : PySem.W.nsIn K mainGlobals "_law_end" = some (some (.ref f35)))
    (kll35 : K.lookup f35 = some ⟨oc35, od35, .func (PySem.W.fnOf "_law_end" "_law_end" (defArgs (top 35)) (defBody (top 35)) (defScope (top 35)) .none kV35 dc35 pm35 an35 cd35 ct35), sl35⟩)
    (klc35 : PySem.W.codeIn K cd35 "_law_end" = true) (klk35 : PySem.W.keepIn K (.ref f35) = true)
    (kla36 : PySem.W.nsIn K mainGlobals "_law_machine" = some (some (.ref f36)))
    (kll36 : K.lookup f36 = some ⟨oc36, od36, .func (PySem.W.fnOf "_law_machine" "_law_machine" (defArgs (top 36)) (defBody (top 36)) (defScope (top 36)) .none kV36 dc36 pm36 an36 cd36 ct36), sl36⟩)
    (klc36 : PySem.W.codeIn K cd36 "_law_machine" = true) (klk36 : PySem.W.keepIn K (.ref f36) = true)
    (kla37 : PySem.W.nsIn K mainGlobals "_law_is_int" = some (some (.ref f37)))
    (kll37 : K.lookup f37 = some ⟨oc37, od37, .func (PySem.W.fnOf "_law_is_int" "_law_is_int" (defArgs (top 37)) (defBody (top 37)) (defScope (top 37)) .none kV37 dc37 pm37 an37 cd37 ct37), sl37⟩)
    (klc37 : PySem.W.codeIn K cd37 "_law_is_int" = true) (klk37 : PySem.W.keepIn K (.ref f37) = true)
    (kla38 : PySem.W.nsIn K mainGlobals "_law_long" = some (some (.ref f38)))
    (kll38 : K.lookup f38 = some ⟨oc38, od38, .func (PySem.W.fnOf "_law_long" "_law_long" (defArgs (top 38)) (defBody (top 38)) (defScope (top 38)) .none kV38 dc38 pm38 an38 cd38 ct38), sl38⟩)
    (klc38 : PySem.W.codeIn K cd38 "_law_long" = true) (klk38 : PySem.W.keepIn K (.ref f38) = true)
    (kla39 : PySem.W.nsIn K mainGlobals "_law_step_fits" = some (some (.ref f39)))
    (kll39 : K.lookup f39 = some ⟨oc39, od39, .func (PySem.W.fnOf "_law_step_fits" "_law_step_fits" (defArgs (top 39)) (defBody (top 39)) (defScope (top 39)) .none kV39 dc39 pm39 an39 cd39 ct39), sl39⟩)
    (klc39 : PySem.W.codeIn K cd39 "_law_step_fits" = true) (klk39 : PySem.W.keepIn K (.ref f39) = true)
    (kla40 : PySem.W.nsIn K mainGlobals "_law_row_fits" = some (some (.ref f40)))
    (kll40 : K.lookup f40 = some ⟨oc40, od40, .func (PySem.W.fnOf "_law_row_fits" "_law_row_fits" (defArgs (top 40)) (defBody (top 40)) (defScope (top 40)) .none kV40 dc40 pm40 an40 cd40 ct40), sl40⟩)
    (klc40 : PySem.W.codeIn K cd40 "_law_row_fits" = true) (klk40 : PySem.W.keepIn K (.ref f40) = true)
    (kla41 : PySem.W.nsIn K mainGlobals "_law_machine_fits" = some (some (.ref f41)))
    (kll41 : K.lookup f41 = some ⟨oc41, od41, .func (PySem.W.fnOf "_law_machine_fits" "_law_machine_fits" (defArgs (top 41)) (defBody (top 41)) (defScope (top 41)) .none kV41 dc41 pm41 an41 cd41 ct41), sl41⟩)
    (klc41 : PySem.W.codeIn K cd41 "_law_machine_fits" = true) (klk41 : PySem.W.keepIn K (.ref f41) = true)
    (kla43 : PySem.W.nsIn K mainGlobals "_law_step_text" = some (some (.ref f43)))
    (kll43 : K.lookup f43 = some ⟨oc43, od43, .func (PySem.W.fnOf "_law_step_text" "_law_step_text" (defArgs (top 43)) (defBody (top 43)) (defScope (top 43)) .none kV43 dc43 pm43 an43 cd43 ct43), sl43⟩)
    (klc43 : PySem.W.codeIn K cd43 "_law_step_text" = true) (klk43 : PySem.W.keepIn K (.ref f43) = true)
    (kla44 : PySem.W.nsIn K mainGlobals "_law_machine_text" = some (some (.ref f44)))
    (kll44 : K.lookup f44 = some ⟨oc44, od44, .func (PySem.W.fnOf "_law_machine_text" "_law_machine_text" (defArgs (top 44)) (defBody (top 44)) (defScope (top 44)) .none kV44 dc44 pm44 an44 cd44 ct44), sl44⟩)
    (klc44 : PySem.W.codeIn K cd44 "_law_machine_text" = true) (klk44 : PySem.W.keepIn K (.ref f44) = true)
    (kla45 : PySem.W.nsIn K mainGlobals "_law_digits" = some (some (.ref f45)))
    (kll45 : K.lookup f45 = some ⟨oc45, od45, .func (PySem.W.fnOf "_law_digits" "_law_digits" (defArgs (top 45)) (defBody (top 45)) (defScope (top 45)) .none kV45 dc45 pm45 an45 cd45 ct45), sl45⟩)
    (klc45 : PySem.W.codeIn K cd45 "_law_digits" = true) (klk45 : PySem.W.keepIn K (.ref f45) = true)
    (kla46 : PySem.W.nsIn K mainGlobals "_law_read_step" = some (some (.ref f46)))
    (kll46 : K.lookup f46 = some ⟨oc46, od46, .func (PySem.W.fnOf "_law_read_step" "_law_read_step" (defArgs (top 46)) (defBody (top 46)) (defScope (top 46)) .none kV46 dc46 pm46 an46 cd46 ct46), sl46⟩)
    (klc46 : PySem.W.codeIn K cd46 "_law_read_step" = true) (klk46 : PySem.W.keepIn K (.ref f46) = true)
    (kla47 : PySem.W.nsIn K mainGlobals "_law_read_row" = some (some (.ref f47)))
    (kll47 : K.lookup f47 = some ⟨oc47, od47, .func (PySem.W.fnOf "_law_read_row" "_law_read_row" (defArgs (top 47)) (defBody (top 47)) (defScope (top 47)) .none kV47 dc47 pm47 an47 cd47 ct47), sl47⟩)
    (klc47 : PySem.W.codeIn K cd47 "_law_read_row" = true) (klk47 : PySem.W.keepIn K (.ref f47) = true)
    (kla48 : PySem.W.nsIn K mainGlobals "_law_read" = some (some (.ref f48)))
    (kll48 : K.lookup f48 = some ⟨oc48, od48, .func (PySem.W.fnOf "_law_read" "_law_read" (defArgs (top 48)) (defBody (top 48)) (defScope (top 48)) .none kV48 dc48 pm48 an48 cd48 ct48), sl48⟩)
    (klc48 : PySem.W.codeIn K cd48 "_law_read" = true) (klk48 : PySem.W.keepIn K (.ref f48) = true)
    (kla49 : PySem.W.nsIn K mainGlobals "_law_bent_row" = some (some (.ref f49)))
    (kll49 : K.lookup f49 = some ⟨oc49, od49, .func (PySem.W.fnOf "_law_bent_row" "_law_bent_row" (defArgs (top 49)) (defBody (top 49)) (defScope (top 49)) .none kV49 dc49 pm49 an49 cd49 ct49), sl49⟩)
    (klc49 : PySem.W.codeIn K cd49 "_law_bent_row" = true) (klk49 : PySem.W.keepIn K (.ref f49) = true)
    (kla50 : PySem.W.nsIn K mainGlobals "_law_bent" = some (some (.ref f50)))
    (kll50 : K.lookup f50 = some ⟨oc50, od50, .func (PySem.W.fnOf "_law_bent" "_law_bent" (defArgs (top 50)) (defBody (top 50)) (defScope (top 50)) .none kV50 dc50 pm50 an50 cd50 ct50), sl50⟩)
    (klc50 : PySem.W.codeIn K cd50 "_law_bent" = true) (klk50 : PySem.W.keepIn K (.ref f50) = true)
    (kla51 : PySem.W.nsIn K mainGlobals "_law_right" = some (some (.ref f51)))
    (kll51 : K.lookup f51 = some ⟨oc51, od51, .func (PySem.W.fnOf "_law_right" "_law_right" (defArgs (top 51)) (defBody (top 51)) (defScope (top 51)) .none kV51 dc51 pm51 an51 cd51 ct51), sl51⟩)
    (klc51 : PySem.W.codeIn K cd51 "_law_right" = true) (klk51 : PySem.W.keepIn K (.ref f51) = true)
    (kla52 : PySem.W.nsIn K mainGlobals "law" = some (some (.ref f52)))
    (kll52 : K.lookup f52 = some ⟨oc52, od52, .func (PySem.W.fnOf "law" "law" (defArgs (top 52)) (defBody (top 52)) (defScope (top 52)) .none kV52 dc52 pm52 an52 cd52 ct52), sl52⟩)
    (klc52 : PySem.W.codeIn K cd52 "law" = true) (klk52 : PySem.W.keepIn K (.ref f52) = true) :
    ∃ fd : FuncData, (∀ (s : Shared) (v : Value), BindsTo s fd ⟨[v], []⟩ [("_law_script", v)]) ∧ ∀ base : Heap, K.In base → base.Ns mainGlobals mg → FnOkG P w K mg base 10 fa fd ["_law_script"] (spLaw K) := by
  have gb : Gb mg := ⟨PySem.W.mg_none_of X N klg0, PySem.W.mg_none_of X N klg1, PySem.W.mg_none_of X N klg2, PySem.W.mg_none_of X N klg3, PySem.W.mg_none_of X N klg4, PySem.W.mg_none_of X N klg5, PySem.W.mg_none_of X N klg6, PySem.W.mg_none_of X N klg7, PySem.W.mg_none_of X N klg8, PySem.W.mg_none_of X N klg9⟩
  have gc : Gc mg := ⟨int_mk X N klm0, int_mk X N klm1, int_mk X N klm2, int_mk X N klm3, int_mk X N klm4, int_mk X N klm5⟩
  have D4 : Def K mg "is_integer" (top 4) ["thing"] := def_mk X N (fun _ _ _ _ _ _ us hl => match us, hl with | [_], _ => rfl) kla4 kll4 klc4 klk4
  have D5 : Def K mg "is_between" (top 5) ["thing", "least", "most"] := def_mk X N (fun _ _ _ _ _ _ us hl => match us, hl with | [_, _, _], _ => rfl) kla5 kll5 klc5 klk5
  have D6 : Def K mg "is_index" (top 6) ["thing", "many"] := def_mk X N (fun _ _ _ _ _ _ us hl => match us, hl with | [_, _], _ => rfl) kla6 kll6 klc6 klk6
  have D7 : Def K mg "is_tuple_of" (top 7) ["thing", "many"] := def_mk X N (fun _ _ _ _ _ _ us hl => match us, hl with | [_, _], _ => rfl) kla7 kll7 klc7 klk7
  have D14 : Def K mg "is_size" (top 14) ["thing"] := def_mk X N (fun _ _ _ _ _ _ us hl => match us, hl with | [_], _ => rfl) kla14 kll14 klc14 klk14
  have D15 : Def K mg "is_step" (top 15) ["thing", "states"] := def_mk X N (fun _ _ _ _ _ _ us hl => match us, hl with | [_, _], _ => rfl) kla15 kll15 klc15 klk15
  have D16 : Def K mg "is_row" (top 16) ["thing", "size", "states"] := def_mk X N (fun _ _ _ _ _ _ us hl => match us, hl with | [_, _, _], _ => rfl) kla16 kll16 klc16 klk16
  have D17 : Def K mg "is_machine" (top 17) ["thing"] := def_mk X N (fun _ _ _ _ _ _ us hl => match us, hl with | [_], _ => rfl) kla17 kll17 klc17 klk17
  have D18 : Def K mg "check_machine" (top 18) ["thing"] := def_mk X N (fun _ _ _ _ _ _ us hl => match us, hl with | [_], _ => rfl) kla18 kll18 klc18 klk18
  have D21 : Def K mg "step_text" (top 21) ["step"] := def_mk X N (fun _ _ _ _ _ _ us hl => match us, hl with | [_], _ => rfl) kla21 kll21 klc21 klk21
  have D22 : Def K mg "machine_text" (top 22) ["machine"] := def_mk X N (fun _ _ _ _ _ _ us hl => match us, hl with | [_], _ => rfl) kla22 kll22 klc22 klk22
  have D23 : Def K mg "number_of" (top 23) ["word"] := def_mk X N (fun _ _ _ _ _ _ us hl => match us, hl with | [_], _ => rfl) kla23 kll23 klc23 klk23
  have D24 : Def K mg "read_step" (top 24) ["word"] := def_mk X N (fun _ _ _ _ _ _ us hl => match us, hl with | [_], _ => rfl) kla24 kll24 klc24 klk24
  have D25 : Def K mg "read_row" (top 25) ["line"] := def_mk X N (fun _ _ _ _ _ _ us hl => match us, hl with | [_], _ => rfl) kla25 kll25 klc25 klk25
  have D26 : Def K mg "read_machine" (top 26) ["text"] := def_mk X N (fun _ _ _ _ _ _ us hl => match us, hl with | [_], _ => rfl) kla26 kll26 klc26 klk26
  have D28 : Def K mg "_law_mixed" (top 28) ["_law_number"] := def_mk X N (fun _ _ _ _ _ _ us hl => match us, hl with | [_], _ => rfl) kla28 kll28 klc28 klk28
  have D29 : Def K mg "_law_well" (top 29) ["_law_script"] := def_mk X N (fun _ _ _ _ _ _ us hl => match us, hl with | [_], _ => rfl) kla29 kll29 klc29 klk29
  have D30 : Def K mg "_law_filled" (top 30) ["_law_well_here"] := def_mk X N (fun _ _ _ _ _ _ us hl => match us, hl with | [_], _ => rfl) kla30 kll30 klc30 klk30
  have D31 : Def K mg "_law_draw" (top 31) ["_law_well_here", "_law_many"] := def_mk X N (fun _ _ _ _ _ _ us hl => match us, hl with | [_, _], _ => rfl) kla31 kll31 klc31 klk31
  have D32 : Def K mg "_law_any" (top 32) ["_law_well_here", "_law_deep"] := def_mk X N (fun _ _ _ _ _ _ us hl => match us, hl with | [_, _], _ => rfl) kla32 kll32 klc32 klk32
  have D33 : Def K mg "_law_more" (top 33) ["_law_well_here"] := def_mk X N (fun _ _ _ _ _ _ us hl => match us, hl with | [_], _ => rfl) kla33 kll33 klc33 klk33
  have D34 : Def K mg "_law_step" (top 34) ["_law_well_here", "_law_states", "_law_lack"] := def_mk X N (fun _ _ _ _ _ _ us hl => match us, hl with | [_, _, _], _ => rfl) kla34 kll34 klc34 klk34
  have D35 : Def K mg "_law_end" (top 35) ["_law_well_here", "_law_lack"] := def_mk X N (fun _ _ _ _ _ _ us hl => match us, hl with | [_, _], _ => rfl) kla35 kll35 klc35 klk35
  have D36 : Def K mg "_law_machine" (top 36) ["_law_well_here"] := def_mk X N (fun _ _ _ _ _ _ us hl => match us, hl with | [_], _ => rfl) kla36 kll36 klc36 klk36
  have D37 : Def K mg "_law_is_int" (top 37) ["_law_thing", "_law_least", "_law_most"] := def_mk X N (fun _ _ _ _ _ _ us hl => match us, hl with | [_, _, _], _ => rfl) kla37 kll37 klc37 klk37
  have D38 : Def K mg "_law_long" (top 38) ["_law_thing", "_law_many"] := def_mk X N (fun _ _ _ _ _ _ us hl => match us, hl with | [_, _], _ => rfl) kla38 kll38 klc38 klk38
  have D39 : Def K mg "_law_step_fits" (top 39) ["_law_thing", "_law_states"] := def_mk X N (fun _ _ _ _ _ _ us hl => match us, hl with | [_, _], _ => rfl) kla39 kll39 klc39 klk39
  have D40 : Def K mg "_law_row_fits" (top 40) ["_law_thing", "_law_size", "_law_states"] := def_mk X N (fun _ _ _ _ _ _ us hl => match us, hl with | [_, _, _], _ => rfl) kla40 kll40 klc40 klk40
  have D41 : Def K mg "_law_machine_fits" (top 41) ["_law_thing"] := def_mk X N (fun _ _ _ _ _ _ us hl => match us, hl with | [_], _ => rfl) kla41 kll41 klc41 klk41
  have D43 : Def K mg "_law_step_text" (top 43) ["_law_step_here"] := def_mk X N (fun _ _ _ _ _ _ us hl => match us, hl with | [_], _ => rfl) kla43 kll43 klc43 klk43
  have D44 : Def K mg "_law_machine_text" (top 44) ["_law_machine_here"] := def_mk X N (fun _ _ _ _ _ _ us hl => match us, hl with | [_], _ => rfl) kla44 kll44 klc44 klk44
  have D45 : Def K mg "_law_digits" (top 45) ["_law_word"] := def_mk X N (fun _ _ _ _ _ _ us hl => match us, hl with | [_], _ => rfl) kla45 kll45 klc45 klk45
  have D46 : Def K mg "_law_read_step" (top 46) ["_law_word"] := def_mk X N (fun _ _ _ _ _ _ us hl => match us, hl with | [_], _ => rfl) kla46 kll46 klc46 klk46
  have D47 : Def K mg "_law_read_row" (top 47) ["_law_line"] := def_mk X N (fun _ _ _ _ _ _ us hl => match us, hl with | [_], _ => rfl) kla47 kll47 klc47 klk47
  have D48 : Def K mg "_law_read" (top 48) ["_law_text"] := def_mk X N (fun _ _ _ _ _ _ us hl => match us, hl with | [_], _ => rfl) kla48 kll48 klc48 klk48
  have D49 : Def K mg "_law_bent_row" (top 49) ["_law_well_here", "_law_row"] := def_mk X N (fun _ _ _ _ _ _ us hl => match us, hl with | [_, _], _ => rfl) kla49 kll49 klc49 klk49
  have D50 : Def K mg "_law_bent" (top 50) ["_law_well_here", "_law_text"] := def_mk X N (fun _ _ _ _ _ _ us hl => match us, hl with | [_, _], _ => rfl) kla50 kll50 klc50 klk50
  have D51 : Def K mg "_law_right" (top 51) ["_law_thing"] := def_mk X N (fun _ _ _ _ _ _ us hl => match us, hl with | [_], _ => rfl) kla51 kll51 klc51 klk51
  exact end_mk gb gc X N hfa D4 D5 D6 D7 D14 D15 D16 D17 D18 D21 D22 D23 D24 D25 D26 D28 D29 D30 D31 D32 D33 D34 D35 D36 D37 D38 D39 D40 D41 D43 D44 D45 D46 D47 D48 D49 D50 D51 kla52 kll52 klc52 klk52
end
end Kl
open PySem PySem.W PyProof.Rows
set_option maxHeartbeats 0 in
theorem PySem.Challenge.cw_keptlengths_k07_whole_texts_read_as_mach_holds : PySem.Challenge.rw_keptlengths_k07_whole_texts_read_as_mach.Holds := by
  w_on; o_law; k_head; (case hw => w_witness2)
  k_fill
  refine Kl.walk_ofG (l := PySem.Challenge.rw_keptlengths_k07_whole_texts_read_as_mach) (n := 63) (k := 10) (x := "_law_script") (sp := Kl.spLaw) rfl (by decide) rfl ⟨rfl, by decide, by decide⟩ (fun w h Y => PySem.W.kIn_of Y) ?F (fun K H a ns hl hS => ⟨a, ns, rfl, hS, hl, fun _ => rfl⟩)
  case F =>
    intro w mg fa h KX G hmg
    refine' Kl.all_mk KX G hmg ?klg0 ?klg1 ?klg2 ?klg3 ?klg4 ?klg5 ?klg6 ?klg7 ?klg8 ?klg9 ?klm0 ?klm1 ?klm2 ?klm3 ?klm4 ?klm5 ?kla4 ?kll4 ?klc4 ?klk4 ?kla5 ?kll5 ?klc5 ?klk5 ?kla6 ?kll6 ?klc6 ?klk6 ?kla7 ?kll7 ?klc7 ?klk7 ?kla14 ?kll14 ?klc14 ?klk14 ?kla15 ?kll15 ?klc15 ?klk15 ?kla16 ?kll16 ?klc16 ?klk16 ?kla17 ?kll17 ?klc17 ?klk17 ?kla18 ?kll18 ?klc18 ?klk18 ?kla21 ?kll21 ?klc21 ?klk21 ?kla22 ?kll22 ?klc22 ?klk22 ?kla23 ?kll23 ?klc23 ?klk23 ?kla24 ?kll24 ?klc24 ?klk24 ?kla25 ?kll25 ?klc25 ?klk25 ?kla26 ?kll26 ?klc26 ?klk26 ?kla28 ?kll28 ?klc28 ?klk28 ?kla29 ?kll29 ?klc29 ?klk29 ?kla30 ?kll30 ?klc30 ?klk30 ?kla31 ?kll31 ?klc31 ?klk31 ?kla32 ?kll32 ?klc32 ?klk32 ?kla33 ?kll33 ?klc33 ?klk33 ?kla34 ?kll34 ?klc34 ?klk34 ?kla35 ?kll35 ?klc35 ?klk35 ?kla36 ?kll36 ?klc36 ?klk36 ?kla37 ?kll37 ?klc37 ?klk37 ?kla38 ?kll38 ?klc38 ?klk38 ?kla39 ?kll39 ?klc39 ?klk39 ?kla40 ?kll40 ?klc40 ?klk40 ?kla41 ?kll41 ?klc41 ?klk41 ?kla43 ?kll43 ?klc43 ?klk43 ?kla44 ?kll44 ?klc44 ?klk44 ?kla45 ?kll45 ?klc45 ?klk45 ?kla46 ?kll46 ?klc46 ?klk46 ?kla47 ?kll47 ?klc47 ?klk47 ?kla48 ?kll48 ?klc48 ?klk48 ?kla49 ?kll49 ?klc49 ?klk49 ?kla50 ?kll50 ?klc50 ?klk50 ?kla51 ?kll51 ?klc51 ?klk51 ?kla52 ?kll52 ?klc52 ?klk52
    (case klg0 => k_is)
    (case klg1 => k_is)
    (case klg2 => k_is)
    (case klg3 => k_is)
    (case klg4 => k_is)
    (case klg5 => k_is)
    (case klg6 => k_is)
    (case klg7 => k_is)
    (case klg8 => k_is)
    (case klg9 => k_is)
    (case klm0 => k_is)
    (case klm1 => k_is)
    (case klm2 => k_is)
    (case klm3 => k_is)
    (case klm4 => k_is)
    (case klm5 => k_is)
    (case kla4 => k_is)
    (case kll4 => k_is)
    (case klc4 => k_is)
    (case klk4 => k_is)
    (case kla5 => k_is)
    (case kll5 => k_is)
    (case klc5 => k_is)
    (case klk5 => k_is)
    (case kla6 => k_is)
    (case kll6 => k_is)
    (case klc6 => k_is)
    (case klk6 => k_is)
    (case kla7 => k_is)
    (case kll7 => k_is)
    (case klc7 => k_is)
    (case klk7 => k_is)
    (case kla14 => k_is)
    (case kll14 => k_is)
    (case klc14 => k_is)
    (case klk14 => k_is)
    (case kla15 => k_is)
    (case kll15 => k_is)
    (case klc15 => k_is)
    (case klk15 => k_is)
    (case kla16 => k_is)
    (case kll16 => k_is)
    (case klc16 => k_is)
    (case klk16 => k_is)
    (case kla17 => k_is)
    (case kll17 => k_is)
    (case klc17 => k_is)
    (case klk17 => k_is)
    (case kla18 => k_is)
    (case kll18 => k_is)
    (case klc18 => k_is)
    (case klk18 => k_is)
    (case kla21 => k_is)
    (case kll21 => k_is)
    (case klc21 => k_is)
    (case klk21 => k_is)
    (case kla22 => k_is)
    (case kll22 => k_is)
    (case klc22 => k_is)
    (case klk22 => k_is)
    (case kla23 => k_is)
    (case kll23 => k_is)
    (case klc23 => k_is)
    (case klk23 => k_is)
    (case kla24 => k_is)
    (case kll24 => k_is)
    (case klc24 => k_is)
    (case klk24 => k_is)
    (case kla25 => k_is)
    (case kll25 => k_is)
    (case klc25 => k_is)
    (case klk25 => k_is)
    (case kla26 => k_is)
    (case kll26 => k_is)
    (case klc26 => k_is)
    (case klk26 => k_is)
    (case kla28 => k_is)
    (case kll28 => k_is)
    (case klc28 => k_is)
    (case klk28 => k_is)
    (case kla29 => k_is)
    (case kll29 => k_is)
    (case klc29 => k_is)
    (case klk29 => k_is)
    (case kla30 => k_is)
    (case kll30 => k_is)
    (case klc30 => k_is)
    (case klk30 => k_is)
    (case kla31 => k_is)
    (case kll31 => k_is)
    (case klc31 => k_is)
    (case klk31 => k_is)
    (case kla32 => k_is)
    (case kll32 => k_is)
    (case klc32 => k_is)
    (case klk32 => k_is)
    (case kla33 => k_is)
    (case kll33 => k_is)
    (case klc33 => k_is)
    (case klk33 => k_is)
    (case kla34 => k_is)
    (case kll34 => k_is)
    (case klc34 => k_is)
    (case klk34 => k_is)
    (case kla35 => k_is)
    (case kll35 => k_is)
    (case klc35 => k_is)
    (case klk35 => k_is)
    (case kla36 => k_is)
    (case kll36 => k_is)
    (case klc36 => k_is)
    (case klk36 => k_is)
    (case kla37 => k_is)
    (case kll37 => k_is)
    (case klc37 => k_is)
    (case klk37 => k_is)
    (case kla38 => k_is)
    (case kll38 => k_is)
    (case klc38 => k_is)
    (case klk38 => k_is)
    (case kla39 => k_is)
    (case kll39 => k_is)
    (case klc39 => k_is)
    (case klk39 => k_is)
    (case kla40 => k_is)
    (case kll40 => k_is)
    (case klc40 => k_is)
    (case klk40 => k_is)
    (case kla41 => k_is)
    (case kll41 => k_is)
    (case klc41 => k_is)
    (case klk41 => k_is)
    (case kla43 => k_is)
    (case kll43 => k_is)
    (case klc43 => k_is)
    (case klk43 => k_is)
    (case kla44 => k_is)
    (case kll44 => k_is)
    (case klc44 => k_is)
    (case klk44 => k_is)
    (case kla45 => k_is)
    (case kll45 => k_is)
    (case klc45 => k_is)
    (case klk45 => k_is)
    (case kla46 => k_is)
    (case kll46 => k_is)
    (case klc46 => k_is)
    (case klk46 => k_is)
    (case kla47 => k_is)
    (case kll47 => k_is)
    (case klc47 => k_is)
    (case klk47 => k_is)
    (case kla48 => k_is)
    (case kll48 => k_is)
    (case klc48 => k_is)
    (case klk48 => k_is)
    (case kla49 => k_is)
    (case kll49 => k_is)
    (case klc49 => k_is)
    (case klk49 => k_is)
    (case kla50 => k_is)
    (case kll50 => k_is)
    (case klc50 => k_is)
    (case klk50 => k_is)
    (case kla51 => k_is)
    (case kll51 => k_is)
    (case klc51 => k_is)
    (case klk51 => k_is)
    (case kla52 => k_is)
    (case kll52 => k_is)
    (case klc52 => k_is)
    (case klk52 => k_is)
